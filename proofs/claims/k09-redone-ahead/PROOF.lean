import PyProof.Rows.All
import Wide.All
import OpenK.AllK
import Wide.FinOn
import HandS.ForMost
import HandS.Wide
import HandS.WideBits
import KE.BitLaws
import HandS.EndBits
import HandS.Conv
import HandS.SetFor
import HandS.Codes
import HandS.IsInst
import HandS.Dict
import PyProof.DictTruth
import PyProof.DictKeyH
import PyProof.P3In
import PyProof.Rows.SetFrom
import HandS.Zip
import HandS.SortKw
import KE.DatumOrd
import PyProof.StrLawsRepr
import HandS.More
import HandS.TryMany
import KE.KDictZip
import PyProof.EnumMake
import PyProof.EnumFor
import HandS.ExcIs
import HandS.Exc
import HandS.ExcOwn
import HandS.ExcInit
import HandS.ExcField
import HandS.WordsExc
import HandS.TryOnly
import HandS.NoneIn
import HandS.Style
import PyProof.ReprRoads
import PyProof.ReprLen
import PyProof.MaxThree
import KE.SortData
import PySem.Challenge.RW_pileshifts_k09_redone_ahead
set_option Elab.async false
set_option linter.all false
set_option maxRecDepth 100000
set_option maxHeartbeats 4000000
/-! GBase: trees of plain data over the abstract heap, each list with its place; a state of frozen and owned trees. -/
namespace G
open PySem PySem.Spec PyProof.Rows L2

abbrev D := PyData

/-! ### trees -/
mutual
inductive Rep (H : Hp) : List Addr → V → D → Prop
  | non : Rep H [] .non .none
  | bl (b : Bool) : Rep H [] (.bl b) (.bool b)
  | int (i : Int) : Rep H [] (.int i) (.int i)
  | str (x : Str) : Rep H [] (.str x) (.str x)
  | lst {a : Addr} {vs : List V} {S : List Addr} {ds : List D} : H a = some (.lst vs) → Reps H S vs ds → Rep H (a :: S) (.ref a) (.list ds)
  | tup {a : Addr} {vs : List V} {S : List Addr} {ds : List D} : H a = some (.tup vs) → Reps H S vs ds → Rep H S (.ref a) (.tuple ds)
inductive Reps (H : Hp) : List Addr → List V → List D → Prop
  | nil : Reps H [] [] []
  | cons {S T : List Addr} {v : V} {vs : List V} {d : D} {ds : List D} : Rep H S v d → Reps H T vs ds → Reps H (S ++ T) (v :: vs) (d :: ds)
end

section
variable {H H' : Hp}
mutual
theorem Rep.mono (ht : ∀ t vs, H t = some (.tup vs) → H' t = some (.tup vs)) : ∀ (d : D) (S : List Addr) (v : V), Rep H S v d → (∀ a ∈ S, ∀ o, H a = some o → H' a = some o) → Rep H' S v d
  | .none, _, _, h, _ => by cases h; exact .non
  | .bool b, _, _, h, _ => by cases h; exact .bl b
  | .int i, _, _, h, _ => by cases h; exact .int i
  | .str x, _, _, h, _ => by cases h; exact .str x
  | .list ds, _, _, h, k => by
    cases h with
    | lst h1 h2 => exact .lst (k _ List.mem_cons_self _ h1) (Reps.mono ht ds _ _ h2 fun a ha => k a (List.mem_cons_of_mem _ ha))
  | .tuple ds, _, _, h, k => by
    cases h with
    | tup h1 h2 => exact .tup (ht _ _ h1) (Reps.mono ht ds _ _ h2 k)
  | .dict _, _, _, h, _ => by cases h
theorem Reps.mono (ht : ∀ t vs, H t = some (.tup vs) → H' t = some (.tup vs)) : ∀ (ds : List D) (S : List Addr) (vs : List V), Reps H S vs ds → (∀ a ∈ S, ∀ o, H a = some o → H' a = some o) → Reps H' S vs ds
  | [], _, _, h, _ => by cases h; exact .nil
  | d :: ds, _, _, h, k => by
    cases h with
    | cons h1 h2 => exact .cons (Rep.mono ht d _ _ h1 fun a ha => k a (List.mem_append_left _ ha)) (Reps.mono ht ds _ _ h2 fun a ha => k a (List.mem_append_right _ ha))
end
mutual
/-- the lists of a tree stand in the heap -/
theorem Rep.dom : ∀ (d : D) (S : List Addr) (v : V), Rep H S v d → ∀ a ∈ S, ∃ vs, H a = some (.lst vs)
  | .none, _, _, h => by cases h; intro a z; cases z
  | .bool b, _, _, h => by cases h; intro a z; cases z
  | .int i, _, _, h => by cases h; intro a z; cases z
  | .str x, _, _, h => by cases h; intro a z; cases z
  | .list ds, _, _, h => by
    cases h with
    | lst h1 h2 =>
      intro a z
      rcases List.mem_cons.mp z with rfl | z
      · exact ⟨_, h1⟩
      · exact Reps.dom ds _ _ h2 a z
  | .tuple ds, _, _, h => by
    cases h with
    | tup h1 h2 => exact Reps.dom ds _ _ h2
  | .dict _, _, _, h => by cases h
theorem Reps.dom : ∀ (ds : List D) (S : List Addr) (vs : List V), Reps H S vs ds → ∀ a ∈ S, ∃ xs, H a = some (.lst xs)
  | [], _, _, h => by cases h; intro a z; cases z
  | d :: ds, _, _, h => by
    cases h with
    | cons h1 h2 =>
      intro a z
      rcases List.mem_append.mp z with z | z
      · exact Rep.dom d _ _ h1 a z
      · exact Reps.dom ds _ _ h2 a z
end
mutual
/-- read by the layer's own words -/
theorem Rep.dp (K : PySem.W.Frag) : ∀ (d : D) (S : List Addr) (v : V), Rep H S v d → Dp K H v d
  | .none, _, _, h => by cases h; exact .non
  | .bool b, _, _, h => by cases h; exact .bl b
  | .int i, _, _, h => by cases h; exact .int i
  | .str x, _, _, h => by cases h; exact .str x
  | .list ds, _, _, h => by
    cases h with
    | lst h1 h2 => exact .lst (SqL.of h1) (Reps.dp K ds _ _ h2)
  | .tuple ds, _, _, h => by
    cases h with
    | tup h1 h2 => exact .tup (SqT.of h1) (Reps.dp K ds _ _ h2)
  | .dict _, _, _, h => by cases h
theorem Reps.dp (K : PySem.W.Frag) : ∀ (ds : List D) (S : List Addr) (vs : List V), Reps H S vs ds → DpAll K H vs ds
  | [], _, _, h => by cases h; exact .nil
  | d :: ds, _, _, h => by
    cases h with
    | cons h1 h2 => exact .cons (Rep.dp K d _ _ h1) (Reps.dp K ds _ _ h2)
end
theorem Reps.length : ∀ {ds : List D} {S : List Addr} {vs : List V}, Reps H S vs ds → vs.length = ds.length
  | [], _, _, h => by cases h; rfl
  | d :: ds, _, _, h => by
    cases h with
    | cons h1 h2 => simp [Reps.length h2]
theorem Reps.append : ∀ {ds es : List D} {S T : List Addr} {vs us : List V}, Reps H S vs ds → Reps H T us es → Reps H (S ++ T) (vs ++ us) (ds ++ es)
  | [], _, _, _, _, _, h, k => by cases h; exact k
  | d :: ds, _, _, _, _, _, h, k => by
    cases h with
    | cons h1 h2 =>
      have q := Reps.cons h1 (Reps.append h2 k)
      rw [← List.append_assoc] at q
      exact q
theorem Reps.split : ∀ {ds es : List D} {S : List Addr} {us : List V}, Reps H S us (ds ++ es) → ∃ S1 S2 u1 u2, S = S1 ++ S2 ∧ us = u1 ++ u2 ∧ Reps H S1 u1 ds ∧ Reps H S2 u2 es
  | [], _, S, us, h => ⟨[], S, [], us, rfl, rfl, .nil, h⟩
  | d :: ds, _, _, _, h => by
    cases h with
    | cons h1 h2 =>
      obtain ⟨S1, S2, u1, u2, rfl, rfl, a, b⟩ := Reps.split h2
      exact ⟨_, S2, _, u2, (List.append_assoc ..).symm, rfl, .cons h1 a, b⟩
theorem Reps.intsR : ∀ (ns : List Int), Reps H [] (ns.map V.int) (ns.map PyData.int)
  | [] => .nil
  | n :: ns => .cons (S := []) (.int n) (Reps.intsR ns)
theorem Reps.intsInv : ∀ {ns : List Int} {S : List Addr} {vs : List V}, Reps H S vs (ns.map PyData.int) → S = [] ∧ vs = ns.map V.int
  | [], _, _, h => by cases h; exact ⟨rfl, rfl⟩
  | n :: ns, _, _, h => by
    cases h with
    | cons h1 h2 =>
      cases h1
      obtain ⟨rfl, rfl⟩ := Reps.intsInv h2
      exact ⟨rfl, rfl⟩
/-- one item -/
theorem Reps.get : ∀ {ds : List D} {S : List Addr} {vs : List V} {i : Nat} {d : D}, Reps H S vs ds → ds[i]? = some d → ∃ v T, vs[i]? = some v ∧ Rep H T v d ∧ ∀ a ∈ T, a ∈ S
  | [], _, _, _, _, _, e => by simp at e
  | d :: ds, _, _, 0, _, h, e => by
    cases h with
    | cons h1 h2 =>
      simp at e
      subst e
      exact ⟨_, _, rfl, h1, fun a z => List.mem_append_left _ z⟩
  | d :: ds, _, _, i + 1, _, h, e => by
    cases h with
    | cons h1 h2 =>
      obtain ⟨v, T, e1, r, s⟩ := Reps.get (i := i) h2 (by simpa using e)
      exact ⟨v, T, by simpa using e1, r, fun a z => List.mem_append_right _ (s a z)⟩
end

/-- a list of ints as data -/
abbrev dI (ns : List Int) : D := .list (ns.map PyData.int)

/-- a new tree: its lists are all new, each once -/
def New (H H' : Hp) (v : V) (d : D) : Prop := ∃ S, Rep H' S v d ∧ S.Nodup ∧ ∀ a ∈ S, H a = none

/-! ### the purse that draws come from -/
/-- three whole numbers, the last one (how many draws so far) at most b -/
def PuAt (H : Hp) (p : Addr) (b : Int) : Prop := ∃ x y z : Int, H p = some (.lst [.int x, .int y, .int z]) ∧ 0 ≤ y ∧ y < 10 ^ 25 ∧ 0 ≤ z ∧ z ≤ b
theorem PuAt.le {H : Hp} {p : Addr} {b c : Int} (h : PuAt H p b) (k : b ≤ c) : PuAt H p c := by
  obtain ⟨x, y, z, h1, h2, h3, h4, h5⟩ := h
  exact ⟨x, y, z, h1, h2, h3, h4, by omega⟩

/-! ### the state -/
/-- H0: the heap at the entry; M: its one list that may be changed; pu: the purse and a bound on its draws; Fz: trees that stay; Ow: trees whose lists each stand in one place alone, and may change; Tp: tuples -/
def St (H0 : Hp) (M : Option Addr) (pu : Option (Addr × Int)) (Fz Ow : List (V × D)) (Tp : List (Addr × List V)) (H : Hp) : Prop :=
  ∃ (Z : Addr → Prop) (S : List Addr),
    (∀ a o, H0 a = some o → some a ≠ M → Z a ∧ H a = some o) ∧
    (∀ x ∈ Fz, ∃ T, Rep H T x.1 x.2 ∧ ∀ a ∈ T, Z a) ∧
    Reps H S (Ow.map (·.1)) (Ow.map (·.2)) ∧ S.Nodup ∧ (∀ a ∈ S, ¬ Z a ∧ some a ≠ M) ∧
    (∀ x ∈ Tp, H x.1 = some (.tup x.2)) ∧
    (∀ p b, pu = some (p, b) → PuAt H p b ∧ ¬ Z p ∧ p ∉ S) ∧ (∀ a, Z a ∨ M = some a → ∃ o, H a = some o)

/-- pick one out of a list -/
inductive Pick {α : Type} (x : α) : List α → List α → Prop
  | hd {l : List α} : Pick x (x :: l) l
  | tl {y : α} {l l' : List α} : Pick x l l' → Pick x (y :: l) (y :: l')
/-- readable: v is the tree d -/
inductive Rdb (Fz Ow : List (V × D)) (Tp : List (Addr × List V)) : V → D → Prop
  | non : Rdb Fz Ow Tp .non .none
  | bl (b : Bool) : Rdb Fz Ow Tp (.bl b) (.bool b)
  | int (i : Int) : Rdb Fz Ow Tp (.int i) (.int i)
  | str (x : Str) : Rdb Fz Ow Tp (.str x) (.str x)
  | fz {v : V} {d : D} : (v, d) ∈ Fz → Rdb Fz Ow Tp v d
  | ow {v : V} {d : D} : (v, d) ∈ Ow → Rdb Fz Ow Tp v d
  | tp0 {t : Addr} : (t, []) ∈ Tp → Rdb Fz Ow Tp (.ref t) (.tuple [])
  | tp1 {t : Addr} {v1 : V} {d1 : D} : (t, [v1]) ∈ Tp → Rdb Fz Ow Tp v1 d1 → Rdb Fz Ow Tp (.ref t) (.tuple [d1])
  | tp2 {t : Addr} {v1 v2 : V} {d1 d2 : D} : (t, [v1, v2]) ∈ Tp → Rdb Fz Ow Tp v1 d1 → Rdb Fz Ow Tp v2 d2 → Rdb Fz Ow Tp (.ref t) (.tuple [d1, d2])
  | tp3 {t : Addr} {v1 v2 v3 : V} {d1 d2 d3 : D} : (t, [v1, v2, v3]) ∈ Tp → Rdb Fz Ow Tp v1 d1 → Rdb Fz Ow Tp v2 d2 → Rdb Fz Ow Tp v3 d3 → Rdb Fz Ow Tp (.ref t) (.tuple [d1, d2, d3])
inductive Rdbs (Fz Ow : List (V × D)) (Tp : List (Addr × List V)) : List V → List D → Prop
  | nil : Rdbs Fz Ow Tp [] []
  | cons {v : V} {vs : List V} {d : D} {ds : List D} : Rdb Fz Ow Tp v d → Rdbs Fz Ow Tp vs ds → Rdbs Fz Ow Tp (v :: vs) (d :: ds)

section
variable {H0 H H' : Hp} {M : Option Addr} {pu : Option (Addr × Int)} {Fz Ow Ow' : List (V × D)} {Tp : List (Addr × List V)} {v : V} {d : D}

theorem reps_of_mem {Ow : List (V × D)} {S : List Addr} (h : Reps H S (Ow.map (·.1)) (Ow.map (·.2))) : ∀ {x : V × D}, x ∈ Ow → ∃ T, Rep H T x.1 x.2 ∧ ∀ a ∈ T, a ∈ S := by
  induction Ow generalizing S with
  | nil => intro x z; cases z
  | cons y Ow ih =>
    intro x z
    cases h with
    | cons h1 h2 =>
      rcases List.mem_cons.mp z with rfl | z
      · exact ⟨_, h1, fun a m => List.mem_append_left _ m⟩
      · obtain ⟨T, r, s⟩ := ih h2 z
        exact ⟨T, r, fun a m => List.mem_append_right _ (s a m)⟩
/-- what is readable is read, away from the purse -/
theorem St.rd (h : St H0 M pu Fz Ow Tp H) (r : Rdb Fz Ow Tp v d) : ∃ T, Rep H T v d ∧ ∀ p b, pu = some (p, b) → p ∉ T := by
  obtain ⟨Z, S, h1, h2, h3, h4, h5, h6, h7, h8⟩ := h
  induction r with
  | non => exact ⟨_, .non, fun _ _ _ z => nomatch z⟩
  | bl b => exact ⟨_, .bl b, fun _ _ _ z => nomatch z⟩
  | int i => exact ⟨_, .int i, fun _ _ _ z => nomatch z⟩
  | str x => exact ⟨_, .str x, fun _ _ _ z => nomatch z⟩
  | fz m =>
    obtain ⟨T, r, z⟩ := h2 _ m
    exact ⟨T, r, fun p b e hp => (h7 p b e).2.1 (z p hp)⟩
  | ow m =>
    obtain ⟨T, r, z⟩ := reps_of_mem h3 m
    exact ⟨T, r, fun p b e hp => (h7 p b e).2.2 (z p hp)⟩
  | tp0 m => exact ⟨_, .tup (h6 _ m) .nil, fun _ _ _ z => nomatch z⟩
  | tp1 m _ i1 =>
    obtain ⟨T1, r1, z1⟩ := i1
    refine ⟨_, .tup (h6 _ m) (.cons r1 .nil), fun p b e hp => ?_⟩
    simp at hp
    exact z1 p b e hp
  | tp2 m _ _ i1 i2 =>
    obtain ⟨T1, r1, z1⟩ := i1
    obtain ⟨T2, r2, z2⟩ := i2
    refine ⟨_, .tup (h6 _ m) (.cons r1 (.cons r2 .nil)), fun p b e hp => ?_⟩
    simp at hp
    rcases hp with hp | hp
    · exact z1 p b e hp
    · exact z2 p b e hp
  | tp3 m _ _ _ i1 i2 i3 =>
    obtain ⟨T1, r1, z1⟩ := i1
    obtain ⟨T2, r2, z2⟩ := i2
    obtain ⟨T3, r3, z3⟩ := i3
    refine ⟨_, .tup (h6 _ m) (.cons r1 (.cons r2 (.cons r3 .nil))), fun p b e hp => ?_⟩
    simp at hp
    rcases hp with hp | hp | hp
    · exact z1 p b e hp
    · exact z2 p b e hp
    · exact z3 p b e hp
theorem St.rds (h : St H0 M pu Fz Ow Tp H) {vs : List V} {ds : List D} (r : Rdbs Fz Ow Tp vs ds) : ∃ T, Reps H T vs ds ∧ ∀ p b, pu = some (p, b) → p ∉ T := by
  induction r with
  | nil => exact ⟨_, .nil, fun _ _ _ z => nomatch z⟩
  | cons r _ ih =>
    obtain ⟨T1, r1, z1⟩ := h.rd r
    obtain ⟨T2, r2, z2⟩ := ih
    exact ⟨_, .cons r1 r2, fun p b e hp => (List.mem_append.mp hp).elim (z1 p b e) (z2 p b e)⟩

theorem Reps.pick {x : V × D} (k : Pick x Ow Ow') : ∀ {S : List Addr}, Reps H S (Ow.map (·.1)) (Ow.map (·.2)) → ∃ S1 S2, Rep H S1 x.1 x.2 ∧ Reps H S2 (Ow'.map (·.1)) (Ow'.map (·.2)) ∧ S.Perm (S1 ++ S2) := by
  induction k with
  | hd =>
    intro S h
    cases h with
    | cons h1 h2 => exact ⟨_, _, h1, h2, .refl _⟩
  | @tl y l l' k ih =>
    intro S h
    cases h with
    | @cons Sy T _ _ _ _ h1 h2 =>
      obtain ⟨S1, S2, r1, r2, pm⟩ := ih h2
      refine ⟨S1, Sy ++ S2, r1, .cons h1 r2, ?_⟩
      refine (List.Perm.append_left Sy pm).trans ?_
      rw [← List.append_assoc, ← List.append_assoc]
      exact List.Perm.append_right S2 List.perm_append_comm
/-- an owned tree to the front -/
theorem St.front {x : V × D} (h : St H0 M pu Fz Ow Tp H) (k : Pick x Ow Ow') : St H0 M pu Fz (x :: Ow') Tp H := by
  obtain ⟨Z, S, h1, h2, h3, h4, h5, h6, h7, h8⟩ := h
  obtain ⟨S1, S2, r1, r2, pm⟩ := Reps.pick k h3
  exact ⟨Z, S1 ++ S2, h1, h2, .cons r1 r2, pm.nodup_iff.mp h4, fun a m => h5 a (pm.mem_iff.mpr m), h6, fun p b e => ⟨(h7 p b e).1, (h7 p b e).2.1, fun m => (h7 p b e).2.2 (pm.mem_iff.mpr m)⟩, h8⟩
/-- forget an owned tree -/
theorem St.drop {x : V × D} (h : St H0 M pu Fz (x :: Ow) Tp H) : St H0 M pu Fz Ow Tp H := by
  obtain ⟨Z, S, h1, h2, h3, h4, h5, h6, h7, h8⟩ := h
  cases h3 with
  | cons r1 r2 => exact ⟨Z, _, h1, h2, r2, (List.nodup_append.mp h4).2.1, fun a m => h5 a (List.mem_append_right _ m), h6, fun p b e => ⟨(h7 p b e).1, (h7 p b e).2.1, fun m => (h7 p b e).2.2 (List.mem_append_right _ m)⟩, h8⟩
theorem St.tps {Tp' : List (Addr × List V)} (h : St H0 M pu Fz Ow Tp H) (k : ∀ x ∈ Tp', x ∈ Tp) : St H0 M pu Fz Ow Tp' H := by
  obtain ⟨Z, S, h1, h2, h3, h4, h5, h6, h7, h8⟩ := h
  exact ⟨Z, S, h1, h2, h3, h4, h5, fun x m => h6 x (k x m), h7, h8⟩
theorem St.fzs {Fz' : List (V × D)} (h : St H0 M pu Fz Ow Tp H) (k : ∀ x ∈ Fz', x ∈ Fz) : St H0 M pu Fz' Ow Tp H := by
  obtain ⟨Z, S, h1, h2, h3, h4, h5, h6, h7, h8⟩ := h
  exact ⟨Z, S, h1, fun x m => h2 x (k x m), h3, h4, h5, h6, h7, h8⟩
/-- an owned tree is from now on left as it is -/
theorem St.freeze (h : St H0 M pu Fz ((v, d) :: Ow) Tp H) : St H0 M pu ((v, d) :: Fz) Ow Tp H := by
  obtain ⟨Z, S, h1, h2, h3, h4, h5, h6, h7, h8⟩ := h
  cases h3 with
  | @cons S1 S2 _ _ _ _ r1 r2 =>
    have nd := List.nodup_append.mp h4
    refine ⟨fun a => Z a ∨ a ∈ S1, S2, fun a o e m => ⟨.inl (h1 a o e m).1, (h1 a o e m).2⟩, fun x m => ?_, r2, nd.2.1, fun a m => ⟨?_, (h5 a (List.mem_append_right _ m)).2⟩, h6, fun p b e => ⟨(h7 p b e).1, ?_, fun m => (h7 p b e).2.2 (List.mem_append_right _ m)⟩, fun a z => ?_⟩
    · rcases List.mem_cons.mp m with rfl | m
      · exact ⟨S1, r1, fun a z => .inr z⟩
      · obtain ⟨T, r, z⟩ := h2 x m
        exact ⟨T, r, fun a q => .inl (z a q)⟩
    · rintro (z | z)
      · exact (h5 a (List.mem_append_right _ m)).1 z
      · exact nd.2.2 a z a m rfl
    · rintro (z | z)
      · exact (h7 p b e).2.1 z
      · exact (h7 p b e).2.2 (List.mem_append_left _ z)
    · rcases z with (z | z) | z
      · exact h8 a (.inl z)
      · obtain ⟨xs, q⟩ := Rep.dom d S1 v r1 a z
        exact ⟨_, q⟩
      · exact h8 a (.inr z)
/-- the same trees, otherwise told -/
theorem St.is {d' : D} (h : St H0 M pu Fz ((v, d) :: Ow) Tp H) (e : d = d') : St H0 M pu Fz ((v, d') :: Ow) Tp H := e ▸ h
theorem St.pule {p : Addr} {b c : Int} (h : St H0 M (some (p, b)) Fz Ow Tp H) (e : b ≤ c) : St H0 M (some (p, c)) Fz Ow Tp H := by
  obtain ⟨Z, S, h1, h2, h3, h4, h5, h6, h7, h8⟩ := h
  refine ⟨Z, S, h1, h2, h3, h4, h5, h6, fun q b' e' => ?_, h8⟩
  cases e'
  exact ⟨(h7 p b rfl).1.le e, (h7 p b rfl).2⟩

/-! ### steps of the heap -/
theorem St.step (h : St H0 M pu Fz Ow Tp H) (k : ∀ a o, H a = some o → (∀ p b, pu = some (p, b) → a ≠ p) → H' a = some o) (kp : ∀ p b, pu = some (p, b) → PuAt H' p b) : St H0 M pu Fz Ow Tp H' := by
  obtain ⟨Z, S, h1, h2, h3, h4, h5, h6, h7, h8⟩ := h
  have nt : ∀ t vs, H t = some (.tup vs) → H' t = some (.tup vs) := fun t vs e => k t _ e fun p b q z => by
    subst z
    obtain ⟨x, y, z, e2, _⟩ := (h7 t b q).1
    rw [e] at e2
    cases e2
  refine ⟨Z, S, fun a o e m => ⟨(h1 a o e m).1, k a o (h1 a o e m).2 fun p b q z => (h7 p b q).2.1 (z ▸ (h1 a o e m).1)⟩, fun x m => ?_, ?_, h4, h5, fun x m => nt _ _ (h6 x m), fun p b q => ⟨kp p b q, (h7 p b q).2⟩, fun a z => ?_⟩
  · obtain ⟨T, r, z⟩ := h2 x m
    exact ⟨T, Rep.mono nt _ _ _ r fun a q o e => k a o e fun p b e' y => (h7 p b e').2.1 (y ▸ z a q), z⟩
  · exact Reps.mono nt _ _ _ h3 fun a q o e => k a o e fun p b e' y => (h7 p b e').2.2 (y ▸ q)
  · obtain ⟨o, e⟩ := h8 a z
    cases hp : pu with
    | none => exact ⟨o, k a o e fun p b e' y => by rw [hp] at e'; cases e'⟩
    | some q =>
      by_cases hq : a = q.1
      · subst hq
        obtain ⟨x, y, zz, e2, _⟩ := kp q.1 q.2 (by rw [hp])
        exact ⟨_, e2⟩
      · exact ⟨o, k a o e fun p b e' y => hq (by rw [hp] at e'; cases e'; exact y)⟩
theorem PuAt.mono {p : Addr} {b : Int} (h : PuAt H p b) (k : ∀ o, H p = some o → H' p = some o) : PuAt H' p b := by
  obtain ⟨x, y, z, e, r⟩ := h
  exact ⟨x, y, z, k _ e, r⟩
/-- all is kept -/
theorem St.same (h : St H0 M pu Fz Ow Tp H) (k : Same H H') : St H0 M pu Fz Ow Tp H' := by
  have h7 := h
  obtain ⟨Z, S, _, _, _, _, _, _, h7, _⟩ := h7
  exact h.step (fun a o e _ => k a o e) fun p b e => (h7 p b e).1.mono (k p)
theorem same_upd {p : Addr} {o : HO} (h : H p = none) : Same H (upd H p o) := fun b x e => by
  rw [upd_ne (ne_of_none e h)]
  exact e
/-- a new tree comes -/
theorem St.new (h : St H0 M pu Fz Ow Tp H) (k : Same H H') (n : New H H' v d) : St H0 M pu Fz ((v, d) :: Ow) Tp H' := by
  obtain ⟨Z, S, h1, h2, h3, h4, h5, h6, h7, h8⟩ := h
  obtain ⟨S1, r, nd, fr⟩ := n
  have nt : ∀ t vs, H t = some (.tup vs) → H' t = some (.tup vs) := fun t vs e => k t _ e
  have out : ∀ a, Z a ∨ M = some a → a ∉ S1 := fun a z m => by
    obtain ⟨o, e⟩ := h8 a z
    rw [fr a m] at e
    cases e
  refine ⟨Z, S1 ++ S, fun a o e m => ⟨(h1 a o e m).1, k a o (h1 a o e m).2⟩, fun x m => ?_, .cons r (Reps.mono nt _ _ _ h3 fun a _ o e => k a o e), ?_, fun a m => ?_, fun x m => nt _ _ (h6 x m), fun p b e => ⟨(h7 p b e).1.mono (k p), (h7 p b e).2.1, fun m => ?_⟩, fun a z => ?_⟩
  · obtain ⟨T, r, z⟩ := h2 x m
    exact ⟨T, Rep.mono nt _ _ _ r fun a _ o e => k a o e, z⟩
  · refine List.nodup_append.mpr ⟨nd, h4, fun a m b m' e => ?_⟩
    subst e
    obtain ⟨xs, q⟩ := Reps.dom _ _ _ h3 a m'
    rw [fr a m] at q
    cases q
  · rcases List.mem_append.mp m with m | m
    · exact ⟨fun z => out a (.inl z) m, fun z => out a (.inr z.symm) m⟩
    · exact h5 a m
  · rcases List.mem_append.mp m with m | m
    · obtain ⟨x, y, z, e2, _⟩ := (h7 p b e).1
      rw [fr p m] at e2
      cases e2
    · exact (h7 p b e).2.2 m
  · obtain ⟨o, e⟩ := h8 a z
    exact ⟨o, k a o e⟩
/-- behind a call that drew from the purse -/
theorem St.newP {p : Addr} {b c : Int} (h : St H0 M (some (p, b)) Fz Ow Tp H) (k : ∀ a o, H a = some o → a ≠ p → H' a = some o) (kp : PuAt H' p c) (n : New H H' v d) : St H0 M (some (p, c)) Fz ((v, d) :: Ow) Tp H' := by
  obtain ⟨Z, S, h1, h2, h3, h4, h5, h6, h7, h8⟩ := h
  obtain ⟨S1, r, nd, fr⟩ := n
  obtain ⟨hp, nz, ns⟩ := h7 p b rfl
  have hpu : ∃ x y z, H p = some (.lst [V.int x, .int y, .int z]) := by
    obtain ⟨x, y, z, e, _⟩ := hp
    exact ⟨x, y, z, e⟩
  have nt : ∀ t vs, H t = some (.tup vs) → H' t = some (.tup vs) := fun t vs e => k t _ e fun z => by
    subst z
    obtain ⟨x, y, z, e2⟩ := hpu
    rw [e] at e2
    cases e2
  have out : ∀ a, Z a ∨ M = some a → a ∉ S1 := fun a z m => by
    obtain ⟨o, e⟩ := h8 a z
    rw [fr a m] at e
    cases e
  refine ⟨Z, S1 ++ S, fun a o e m => ⟨(h1 a o e m).1, k a o (h1 a o e m).2 fun z => nz (z ▸ (h1 a o e m).1)⟩, fun x m => ?_, .cons r (Reps.mono nt _ _ _ h3 fun a m o e => k a o e fun z => ns (z ▸ m)), ?_, fun a m => ?_, fun x m => nt _ _ (h6 x m), fun q b' e => ?_, fun a z => ?_⟩
  · obtain ⟨T, r, z⟩ := h2 x m
    exact ⟨T, Rep.mono nt _ _ _ r fun a q o e => k a o e fun y => nz (y ▸ z a q), z⟩
  · refine List.nodup_append.mpr ⟨nd, h4, fun a m b m' e => ?_⟩
    subst e
    obtain ⟨xs, q⟩ := Reps.dom _ _ _ h3 a m'
    rw [fr a m] at q
    cases q
  · rcases List.mem_append.mp m with m | m
    · exact ⟨fun z => out a (.inl z) m, fun z => out a (.inr z.symm) m⟩
    · exact h5 a m
  · cases e
    refine ⟨kp, nz, fun m => ?_⟩
    rcases List.mem_append.mp m with m | m
    · obtain ⟨x, y, z, e2⟩ := hpu
      rw [fr p m] at e2
      cases e2
    · exact ns m
  · obtain ⟨o, e⟩ := h8 a z
    by_cases hq : a = p
    · subst hq
      obtain ⟨x, y, zz, e2, _⟩ := kp
      exact ⟨_, e2⟩
    · exact ⟨o, k a o e hq⟩
/-- a tree that is an int, a truth value, None, a text -/
theorem St.int {i : Int} (h : St H0 M pu Fz ((v, .int i) :: Ow) Tp H) : v = .int i ∧ St H0 M pu Fz Ow Tp H := by
  refine ⟨?_, h.drop⟩
  obtain ⟨Z, S, h1, h2, h3, h4, h5, h6, h7, h8⟩ := h
  cases h3 with
  | cons r _ => cases r; rfl
theorem St.bool {b : Bool} (h : St H0 M pu Fz ((v, .bool b) :: Ow) Tp H) : v = .bl b ∧ St H0 M pu Fz Ow Tp H := by
  refine ⟨?_, h.drop⟩
  obtain ⟨Z, S, h1, h2, h3, h4, h5, h6, h7, h8⟩ := h
  cases h3 with
  | cons r _ => cases r; rfl
theorem St.none (h : St H0 M pu Fz ((v, .none) :: Ow) Tp H) : v = .non ∧ St H0 M pu Fz Ow Tp H := by
  refine ⟨?_, h.drop⟩
  obtain ⟨Z, S, h1, h2, h3, h4, h5, h6, h7, h8⟩ := h
  cases h3 with
  | cons r _ => cases r; rfl
theorem St.str {x : Str} (h : St H0 M pu Fz ((v, .str x) :: Ow) Tp H) : v = .str x ∧ St H0 M pu Fz Ow Tp H := by
  refine ⟨?_, h.drop⟩
  obtain ⟨Z, S, h1, h2, h3, h4, h5, h6, h7, h8⟩ := h
  cases h3 with
  | cons r _ => cases r; rfl
/-- an owned tuple is opened -/
theorem St.tup {ds : List D} (h : St H0 M pu Fz ((v, .tuple ds) :: Ow) Tp H) : ∃ t vs, v = .ref t ∧ vs.length = ds.length ∧ St H0 M pu Fz (vs.zip ds ++ Ow) ((t, vs) :: Tp) H := by
  obtain ⟨Z, S, h1, h2, h3, h4, h5, h6, h7, h8⟩ := h
  cases h3 with
  | cons r r' =>
    cases r with
    | @tup a vs S1 _ e rs =>
      have el := rs.length
      refine ⟨a, vs, rfl, el, Z, _, h1, h2, ?_, h4, h5, fun x m => ?_, h7, h8⟩
      · rw [List.map_append, List.map_append, List.map_fst_zip (by omega), List.map_snd_zip (by omega)]
        exact rs.append r'
      · rcases List.mem_cons.mp m with rfl | m
        · exact e
        · exact h6 x m
theorem St.tup2 {d1 d2 : D} (h : St H0 M pu Fz ((v, .tuple [d1, d2]) :: Ow) Tp H) : ∃ t v1 v2, v = .ref t ∧ St H0 M pu Fz ((v1, d1) :: (v2, d2) :: Ow) ((t, [v1, v2]) :: Tp) H := by
  obtain ⟨t, vs, rfl, e, h'⟩ := h.tup
  match vs, e, h' with
  | [v1, v2], _, h' => exact ⟨t, v1, v2, rfl, h'⟩
theorem St.tup3 {d1 d2 d3 : D} (h : St H0 M pu Fz ((v, .tuple [d1, d2, d3]) :: Ow) Tp H) : ∃ t v1 v2 v3, v = .ref t ∧ St H0 M pu Fz ((v1, d1) :: (v2, d2) :: (v3, d3) :: Ow) ((t, [v1, v2, v3]) :: Tp) H := by
  obtain ⟨t, vs, rfl, e, h'⟩ := h.tup
  match vs, e, h' with
  | [v1, v2, v3], _, h' => exact ⟨t, v1, v2, v3, rfl, h'⟩
/-- a frozen tuple is opened -/
theorem St.ftup {ds : List D} (h : St H0 M pu Fz Ow Tp H) (m : (v, .tuple ds) ∈ Fz) : ∃ t vs, v = .ref t ∧ vs.length = ds.length ∧ St H0 M pu (vs.zip ds ++ Fz) Ow ((t, vs) :: Tp) H := by
  obtain ⟨Z, S, h1, h2, h3, h4, h5, h6, h7, h8⟩ := h
  obtain ⟨T, r, z⟩ := h2 _ m
  cases r with
  | @tup a vs S1 _ e rs =>
    have el := rs.length
    refine ⟨a, vs, rfl, el, Z, S, h1, fun x m => ?_, h3, h4, h5, fun x m => ?_, h7, h8⟩
    · rcases List.mem_append.mp m with m | m
      · have rs' : Reps H T ((vs.zip ds).map (·.1)) ((vs.zip ds).map (·.2)) := by
          rw [List.map_fst_zip (by omega), List.map_snd_zip (by omega)]
          exact rs
        obtain ⟨T', r, z'⟩ := reps_of_mem rs' m
        exact ⟨T', r, fun a q => z a (z' a q)⟩
      · exact h2 x m
    · rcases List.mem_cons.mp m with rfl | m
      · exact e
      · exact h6 x m
theorem St.ftup2 {d1 d2 : D} (h : St H0 M pu Fz Ow Tp H) (m : (v, .tuple [d1, d2]) ∈ Fz) : ∃ t v1 v2, v = .ref t ∧ St H0 M pu ((v1, d1) :: (v2, d2) :: Fz) Ow ((t, [v1, v2]) :: Tp) H := by
  obtain ⟨t, vs, rfl, e, h'⟩ := h.ftup m
  match vs, e, h' with
  | [v1, v2], _, h' => exact ⟨t, v1, v2, rfl, h'⟩
theorem St.ftup3 {d1 d2 d3 : D} (h : St H0 M pu Fz Ow Tp H) (m : (v, .tuple [d1, d2, d3]) ∈ Fz) : ∃ t v1 v2 v3, v = .ref t ∧ St H0 M pu ((v1, d1) :: (v2, d2) :: (v3, d3) :: Fz) Ow ((t, [v1, v2, v3]) :: Tp) H := by
  obtain ⟨t, vs, rfl, e, h'⟩ := h.ftup m
  match vs, e, h' with
  | [v1, v2, v3], _, h' => exact ⟨t, v1, v2, v3, rfl, h'⟩
theorem St.fint {i : Int} (h : St H0 M pu Fz Ow Tp H) (m : (v, .int i) ∈ Fz) : v = .int i := by
  obtain ⟨Z, S, h1, h2, h3, h4, h5, h6, h7, h8⟩ := h
  obtain ⟨T, r, z⟩ := h2 _ m
  cases r
  rfl
/-- the heap at a tuple that is known -/
theorem St.tp {t : Addr} {vs : List V} (h : St H0 M pu Fz Ow Tp H) (m : (t, vs) ∈ Tp) : H t = some (.tup vs) := by
  obtain ⟨Z, S, h1, h2, h3, h4, h5, h6, h7, h8⟩ := h
  exact h6 _ m
theorem St.purse {p : Addr} {b : Int} (h : St H0 M (some (p, b)) Fz Ow Tp H) : PuAt H p b := by
  obtain ⟨Z, S, h1, h2, h3, h4, h5, h6, h7, h8⟩ := h
  exact (h7 p b rfl).1
/-- the heap at a readable list -/
theorem St.rlst {ds : List D} (h : St H0 M pu Fz Ow Tp H) (r : Rdb Fz Ow Tp v (.list ds)) : ∃ a vs T, v = .ref a ∧ H a = some (.lst vs) ∧ Reps H T vs ds := by
  obtain ⟨T, r, _⟩ := h.rd r
  cases r with
  | lst e rs => exact ⟨_, _, _, rfl, e, rs⟩
theorem St.rints {ns : List Int} (h : St H0 M pu Fz Ow Tp H) (r : Rdb Fz Ow Tp v (dI ns)) : ∃ a, v = .ref a ∧ H a = some (.lst (ns.map V.int)) := by
  obtain ⟨a, vs, T, rfl, e, rs⟩ := h.rlst r
  obtain ⟨_, rfl⟩ := Reps.intsInv rs
  exact ⟨a, rfl, e⟩
theorem St.rtup {ds : List D} (h : St H0 M pu Fz Ow Tp H) (r : Rdb Fz Ow Tp v (.tuple ds)) : ∃ a vs T, v = .ref a ∧ H a = some (.tup vs) ∧ Reps H T vs ds := by
  obtain ⟨T, r, _⟩ := h.rd r
  cases r with
  | tup e rs => exact ⟨_, _, _, rfl, e, rs⟩
/-- the items of a frozen list -/
theorem St.flst {ds : List D} (h : St H0 M pu Fz Ow Tp H) (m : (v, .list ds) ∈ Fz) : ∃ a vs, v = .ref a ∧ H a = some (.lst vs) ∧ vs.length = ds.length ∧ St H0 M pu (vs.zip ds ++ Fz) Ow Tp H := by
  obtain ⟨Z, S, h1, h2, h3, h4, h5, h6, h7, h8⟩ := h
  obtain ⟨T, r, z⟩ := h2 _ m
  cases r with
  | @lst a vs S1 _ e rs =>
    have el := rs.length
    refine ⟨a, vs, rfl, e, el, Z, S, h1, fun x m => ?_, h3, h4, h5, h6, h7, h8⟩
    rcases List.mem_append.mp m with m | m
    · have rs' : Reps H S1 ((vs.zip ds).map (·.1)) ((vs.zip ds).map (·.2)) := by
        rw [List.map_fst_zip (by omega), List.map_snd_zip (by omega)]
        exact rs
      obtain ⟨T', r, z'⟩ := reps_of_mem rs' m
      exact ⟨T', r, fun a q => z a (List.mem_cons_of_mem _ (z' a q))⟩
    · exact h2 x m

/-! ### building -/
/-- a value taken out of what is owned, as a whole tree -/
inductive Take (Tp : List (Addr × List V)) : List (V × D) → V → D → List (V × D) → Prop
  | non {Ow : List (V × D)} : Take Tp Ow .non .none Ow
  | bl {Ow : List (V × D)} (b : Bool) : Take Tp Ow (.bl b) (.bool b) Ow
  | int {Ow : List (V × D)} (i : Int) : Take Tp Ow (.int i) (.int i) Ow
  | str {Ow : List (V × D)} (x : Str) : Take Tp Ow (.str x) (.str x) Ow
  | own {Ow Ow' : List (V × D)} {v : V} {d : D} : Pick (v, d) Ow Ow' → Take Tp Ow v d Ow'
  | tp0 {Ow : List (V × D)} {t : Addr} : (t, []) ∈ Tp → Take Tp Ow (.ref t) (.tuple []) Ow
  | tp1 {Ow Ow1 : List (V × D)} {t : Addr} {v1 : V} {d1 : D} : (t, [v1]) ∈ Tp → Take Tp Ow v1 d1 Ow1 → Take Tp Ow (.ref t) (.tuple [d1]) Ow1
  | tp2 {Ow Ow1 Ow2 : List (V × D)} {t : Addr} {v1 v2 : V} {d1 d2 : D} : (t, [v1, v2]) ∈ Tp → Take Tp Ow v1 d1 Ow1 → Take Tp Ow1 v2 d2 Ow2 → Take Tp Ow (.ref t) (.tuple [d1, d2]) Ow2
  | tp3 {Ow Ow1 Ow2 Ow3 : List (V × D)} {t : Addr} {v1 v2 v3 : V} {d1 d2 d3 : D} : (t, [v1, v2, v3]) ∈ Tp → Take Tp Ow v1 d1 Ow1 → Take Tp Ow1 v2 d2 Ow2 → Take Tp Ow2 v3 d3 Ow3 → Take Tp Ow (.ref t) (.tuple [d1, d2, d3]) Ow3
inductive Takes (Tp : List (Addr × List V)) : List (V × D) → List V → List D → List (V × D) → Prop
  | nil {Ow : List (V × D)} : Takes Tp Ow [] [] Ow
  | cons {Ow Ow1 Ow2 : List (V × D)} {v : V} {vs : List V} {d : D} {ds : List D} : Take Tp Ow v d Ow1 → Takes Tp Ow1 vs ds Ow2 → Takes Tp Ow (v :: vs) (d :: ds) Ow2
theorem Take.reps (hT : ∀ x ∈ Tp, H x.1 = some (.tup x.2)) (k : Take Tp Ow v d Ow') : ∀ {S : List Addr}, Reps H S (Ow.map (·.1)) (Ow.map (·.2)) → ∃ S1 S2, Rep H S1 v d ∧ Reps H S2 (Ow'.map (·.1)) (Ow'.map (·.2)) ∧ S.Perm (S1 ++ S2) := by
  induction k with
  | non => exact fun h => ⟨_, _, .non, h, .refl _⟩
  | bl b => exact fun h => ⟨_, _, .bl b, h, .refl _⟩
  | int i => exact fun h => ⟨_, _, .int i, h, .refl _⟩
  | str x => exact fun h => ⟨_, _, .str x, h, .refl _⟩
  | own p => exact fun h => Reps.pick p h
  | tp0 m => exact fun h => ⟨_, _, .tup (hT _ m) .nil, h, .refl _⟩
  | tp1 m _ i1 =>
    intro S h
    obtain ⟨S1, S2, r1, r2, p1⟩ := i1 h
    refine ⟨_, _, .tup (hT _ m) (.cons r1 .nil), r2, ?_⟩
    rw [List.append_nil]
    exact p1
  | tp2 m _ _ i1 i2 =>
    intro S h
    obtain ⟨S1, S2, r1, r2, p1⟩ := i1 h
    obtain ⟨S3, S4, r3, r4, p2⟩ := i2 r2
    refine ⟨_, _, .tup (hT _ m) (.cons r1 (.cons r3 .nil)), r4, ?_⟩
    rw [List.append_nil, List.append_assoc]
    exact p1.trans (List.Perm.append_left _ p2)
  | tp3 m _ _ _ i1 i2 i3 =>
    intro S h
    obtain ⟨S1, S2, r1, r2, p1⟩ := i1 h
    obtain ⟨S3, S4, r3, r4, p2⟩ := i2 r2
    obtain ⟨S5, S6, r5, r6, p3⟩ := i3 r4
    refine ⟨_, _, .tup (hT _ m) (.cons r1 (.cons r3 (.cons r5 .nil))), r6, ?_⟩
    rw [List.append_nil, List.append_assoc, List.append_assoc]
    exact p1.trans (List.Perm.append_left _ (p2.trans (List.Perm.append_left _ p3)))
theorem Takes.reps {vs : List V} {ds : List D} (hT : ∀ x ∈ Tp, H x.1 = some (.tup x.2)) (k : Takes Tp Ow vs ds Ow') : ∀ {S : List Addr}, Reps H S (Ow.map (·.1)) (Ow.map (·.2)) → ∃ S1 S2, Reps H S1 vs ds ∧ Reps H S2 (Ow'.map (·.1)) (Ow'.map (·.2)) ∧ S.Perm (S1 ++ S2) := by
  induction k with
  | nil => exact fun h => ⟨_, _, .nil, h, .refl _⟩
  | cons k1 _ ih =>
    intro S h
    obtain ⟨S1, S2, r1, r2, p1⟩ := k1.reps hT h
    obtain ⟨S3, S4, r3, r4, p2⟩ := ih r2
    refine ⟨_, _, .cons r1 r3, r4, ?_⟩
    rw [List.append_assoc]
    exact p1.trans (List.Perm.append_left _ p2)
theorem St.take (h : St H0 M pu Fz Ow Tp H) (k : Take Tp Ow v d Ow') : St H0 M pu Fz ((v, d) :: Ow') Tp H := by
  obtain ⟨Z, S, h1, h2, h3, h4, h5, h6, h7, h8⟩ := h
  obtain ⟨S1, S2, r1, r2, pm⟩ := k.reps h6 h3
  exact ⟨Z, S1 ++ S2, h1, h2, .cons r1 r2, pm.nodup_iff.mp h4, fun a m => h5 a (pm.mem_iff.mpr m), h6, fun p b e => ⟨(h7 p b e).1, (h7 p b e).2.1, fun m => (h7 p b e).2.2 (pm.mem_iff.mpr m)⟩, h8⟩
/-- a new tuple -/
theorem St.mkTup {p : Addr} {vs : List V} (h : St H0 M pu Fz Ow Tp H) (hp : H p = Option.none) : St H0 M pu Fz Ow ((p, vs) :: Tp) (upd H p (.tup vs)) := by
  have k := same_upd (o := .tup vs) hp
  obtain ⟨Z, S, h1, h2, h3, h4, h5, h6, h7, h8⟩ := h.same k
  refine ⟨Z, S, h1, h2, h3, h4, h5, fun x m => ?_, h7, h8⟩
  rcases List.mem_cons.mp m with rfl | m
  · exact upd_same
  · exact h6 x m
/-- a new list of things that are taken -/
theorem St.mkLst {p : Addr} {vs : List V} {ds : List D} (h : St H0 M pu Fz Ow Tp H) (hp : H p = Option.none) (t : Takes Tp Ow vs ds Ow') : St H0 M pu Fz ((.ref p, .list ds) :: Ow') Tp (upd H p (.lst vs)) := by
  obtain ⟨Z0, S0, g1, g2, g3, g4, g5, g6, g7, g8⟩ := h
  have pS0 : p ∉ S0 := fun m => by
    obtain ⟨xs, q⟩ := Reps.dom _ _ _ g3 p m
    rw [hp] at q
    cases q
  have h : St H0 M pu Fz Ow Tp H := ⟨Z0, S0, g1, g2, g3, g4, g5, g6, g7, g8⟩
  have k := same_upd (o := .lst vs) hp
  have nz : ∀ a, Z0 a ∨ M = some a → a ≠ p := fun a z e => by
    obtain ⟨o, q⟩ := g8 a z
    rw [e, hp] at q
    cases q
  obtain ⟨S1, S2, r1, r2, pm⟩ := t.reps g6 g3
  have k1 : ∀ a ∈ S1, ∀ o, H a = some o → upd H p (.lst vs) a = some o := fun a m o e => k a o e
  refine ⟨Z0, (p :: S1) ++ S2, fun a o e m => ⟨(g1 a o e m).1, k a o (g1 a o e m).2⟩, fun x m => ?_, .cons (.lst upd_same (Reps.mono (fun t xs e => k t _ e) _ _ _ r1 k1)) (Reps.mono (fun t xs e => k t _ e) _ _ _ r2 fun a m o e => k a o e), ?_, fun a m => ?_, fun x m => k _ _ (g6 x m), fun q b e => ⟨(g7 q b e).1.mono (k q), (g7 q b e).2.1, fun m => ?_⟩, fun a z => ?_⟩
  · obtain ⟨T, r, z⟩ := g2 x m
    exact ⟨T, Rep.mono (fun t xs e => k t _ e) _ _ _ r fun a _ o e => k a o e, z⟩
  · rw [List.cons_append]
    exact List.nodup_cons.mpr ⟨fun m => pS0 (pm.mem_iff.mpr m), pm.nodup_iff.mp g4⟩
  · rcases List.mem_cons.mp (List.cons_append ▸ m) with rfl | m
    · exact ⟨fun z => nz a (.inl z) rfl, fun z => nz a (.inr z.symm) rfl⟩
    · exact g5 a (pm.mem_iff.mpr m)
  · rcases List.mem_cons.mp (List.cons_append ▸ m) with rfl | m
    · obtain ⟨x, y, z, e2, _⟩ := (g7 q b e).1
      rw [hp] at e2
      cases e2
    · exact (g7 q b e).2.2 (pm.mem_iff.mpr m)
  · obtain ⟨o, e⟩ := g8 a z
    exact ⟨o, k a o e⟩
/-- a new list of ints -/
theorem St.mkInts {p : Addr} {ns : List Int} (h : St H0 M pu Fz Ow Tp H) (hp : H p = Option.none) : St H0 M pu Fz ((.ref p, dI ns) :: Ow) Tp (upd H p (.lst (ns.map V.int))) :=
  h.new (same_upd hp) ⟨[p], .lst upd_same (Reps.intsR ns), by simp, fun a m => by simp at m; rw [m]; exact hp⟩

/-! ### an owned list is changed -/
/-- the list at the front: its items are exchanged for others that are taken -/
theorem St.put {l : Addr} {ds es : List D} (h : St H0 M pu Fz ((.ref l, .list ds) :: Ow) Tp H)
    : ∃ vs, H l = some (.lst vs) ∧ vs.length = ds.length ∧ ∀ us, Takes Tp (vs.zip ds ++ Ow) us es Ow' → St H0 M pu Fz ((.ref l, .list es) :: Ow') Tp (upd H l (.lst us)) := by
  obtain ⟨Z, S, h1, h2, h3, h4, h5, h6, h7, h8⟩ := h
  cases h3 with
  | @cons Sl S' _ _ _ _ r r' =>
    cases r with
    | @lst _ vs Sd _ e rs =>
      have el := rs.length
      refine ⟨vs, e, el, fun us t => ?_⟩
      have q : Reps H (Sd ++ S') ((vs.zip ds ++ Ow).map (·.1)) ((vs.zip ds ++ Ow).map (·.2)) := by
        rw [List.map_append, List.map_append, List.map_fst_zip (by omega), List.map_snd_zip (by omega)]
        exact rs.append r'
      obtain ⟨S1, S2, r1, r2, pm⟩ := t.reps h6 q
      rw [List.cons_append] at h4
      have nd := List.nodup_cons.mp h4
      have nl1 : ∀ a ∈ S1 ++ S2, a ≠ l := fun a m z => nd.1 (z ▸ pm.mem_iff.mpr m)
      have nlz : ¬ Z l := (h5 l (by simp)).1
      have nlt : ∀ t xs, H t = some (.tup xs) → t ≠ l := fun t xs et z => by
        rw [z, e] at et
        cases et
      have kt : ∀ t xs, H t = some (.tup xs) → upd H l (.lst us) t = some (.tup xs) := fun t xs et => by
        rw [upd_ne (nlt t xs et)]
        exact et
      refine ⟨Z, (l :: S1) ++ S2, fun a o ea m => ⟨(h1 a o ea m).1, ?_⟩, fun x m => ?_, .cons (.lst upd_same (Reps.mono kt _ _ _ r1 fun a m o ea => ?_)) (Reps.mono kt _ _ _ r2 fun a m o ea => ?_), ?_, fun a m => ?_, fun x m => kt _ _ (h6 x m), fun p b ep => ?_, fun a z => ?_⟩
      · rw [upd_ne (show a ≠ l from fun z => nlz (z ▸ (h1 a o ea m).1))]
        exact (h1 a o ea m).2
      · obtain ⟨T, r, z⟩ := h2 x m
        refine ⟨T, Rep.mono kt _ _ _ r fun a q o ea => ?_, z⟩
        rw [upd_ne (show a ≠ l from fun y => nlz (y ▸ z a q))]
        exact ea
      · rw [upd_ne (nl1 a (List.mem_append_left _ m))]
        exact ea
      · rw [upd_ne (nl1 a (List.mem_append_right _ m))]
        exact ea
      · rw [List.cons_append]
        exact List.nodup_cons.mpr ⟨fun m => nd.1 (pm.mem_iff.mpr m), pm.nodup_iff.mp nd.2⟩
      · rcases List.mem_cons.mp (List.cons_append ▸ m) with rfl | m
        · exact h5 a (by simp)
        · exact h5 a (by rw [List.cons_append]; exact List.mem_cons_of_mem _ (pm.mem_iff.mpr m))
      · have npl : p ≠ l := fun z => (h7 p b ep).2.2 (by rw [z]; simp)
        refine ⟨(h7 p b ep).1.mono fun o eo => by rw [upd_ne npl]; exact eo, (h7 p b ep).2.1, fun m => ?_⟩
        rcases List.mem_cons.mp (List.cons_append ▸ m) with z | m
        · exact npl z
        · exact (h7 p b ep).2.2 (by rw [List.cons_append]; exact List.mem_cons_of_mem _ (pm.mem_iff.mpr m))
      · by_cases hl : a = l
        · exact ⟨_, by rw [hl]; exact upd_same⟩
        · obtain ⟨o, ea⟩ := h8 a z
          exact ⟨o, by rw [upd_ne hl]; exact ea⟩
theorem Takes.intsT {Tp : List (Addr × List V)} {Ow : List (V × D)} : ∀ (ns : List Int), Takes Tp Ow (ns.map V.int) (ns.map PyData.int) Ow
  | [] => .nil
  | n :: ns => .cons (.int n) (Takes.intsT ns)
/-- an owned list of ints -/
theorem St.putInts {l : Addr} {ns : List Int} (h : St H0 M pu Fz ((.ref l, dI ns) :: Ow) Tp H) : H l = some (.lst (ns.map V.int)) ∧ ∀ ms : List Int, St H0 M pu Fz ((.ref l, dI ms) :: Ow) Tp (upd H l (.lst (ms.map V.int))) := by
  obtain ⟨a, e0, e⟩ := h.rints (.ow List.mem_cons_self)
  cases e0
  refine ⟨e, fun ms => ?_⟩
  obtain ⟨vs, e1, el, k⟩ := h.put (es := ms.map PyData.int) (Ow' := (ns.map V.int).zip (ns.map PyData.int) ++ Ow)
  rw [e] at e1
  cases e1
  have q := k (ms.map V.int) (Takes.intsT ms)
  -- the old ints are dropped
  have dropN : ∀ (xs : List Int) {Ow : List (V × D)} {x : V × D} {H : Hp}, St H0 M pu Fz (x :: ((xs.map V.int).zip (xs.map PyData.int) ++ Ow)) Tp H → St H0 M pu Fz (x :: Ow) Tp H := by
    intro xs
    induction xs with
    | nil => exact fun h => h
    | cons y ys ih => exact fun h => ih ((h.front (.tl .hd)).drop)
  exact dropN ns q
/-- append -/
theorem St.app {l : Addr} {ds : List D} (h : St H0 M pu Fz ((.ref l, .list ds) :: Ow) Tp H) : ∃ vs, H l = some (.lst vs) ∧ vs.length = ds.length ∧ ∀ v d Ow', Take Tp Ow v d Ow' → St H0 M pu Fz ((.ref l, .list (ds ++ [d])) :: Ow') Tp (upd H l (.lst (vs ++ [v]))) := by
  obtain ⟨Z, S, h1, h2, h3, h4, h5, h6, h7, h8⟩ := id h
  cases h3 with
  | @cons Sl S' _ _ _ _ r r' =>
    cases r with
    | @lst _ vs Sd _ e rs =>
      have el := rs.length
      refine ⟨vs, e, el, fun v d Ow' t => ?_⟩
      obtain ⟨vs', e', el', k⟩ := h.put (es := ds ++ [d]) (Ow' := Ow')
      rw [e] at e'
      cases e'
      refine k _ ?_
      have all : ∀ (vs : List V) (ds : List D), vs.length = ds.length → Takes Tp (vs.zip ds ++ Ow) (vs ++ [v]) (ds ++ [d]) Ow' := by
        intro vs
        induction vs with
        | nil =>
          intro ds e
          match ds, e with
          | [], _ => exact .cons t .nil
        | cons y ys ih =>
          intro ds e
          match ds, e with
          | x :: xs, e => exact .cons (.own .hd) (ih xs (by simpa using e))
      exact all vs ds el
/-- an item of a frozen list -/
theorem St.fget {ds : List D} {i : Nat} (h : St H0 M pu Fz Ow Tp H) (m : (v, .list ds) ∈ Fz) (e : ds[i]? = some d) : ∃ a vs w, v = .ref a ∧ H a = some (.lst vs) ∧ vs.length = ds.length ∧ vs[i]? = some w ∧ St H0 M pu ((w, d) :: Fz) Ow Tp H := by
  obtain ⟨Z, S, h1, h2, h3, h4, h5, h6, h7, h8⟩ := h
  obtain ⟨T, r, z⟩ := h2 _ m
  cases r with
  | @lst a vs S1 _ ea rs =>
    obtain ⟨w, T', ew, r', z'⟩ := rs.get e
    refine ⟨a, vs, w, rfl, ea, rs.length, ew, Z, S, h1, fun x m => ?_, h3, h4, h5, h6, h7, h8⟩
    rcases List.mem_cons.mp m with rfl | m
    · exact ⟨T', r', fun a q => z a (List.mem_cons_of_mem _ (z' a q))⟩
    · exact h2 x m
mutual
/-- data without a list -/
def nolist : D → Bool
  | .list _ => false
  | .tuple ds => nolists ds
  | .dict _ => false
  | _ => true
def nolists : List D → Bool
  | [] => true
  | d :: ds => nolist d && nolists ds
end
mutual
theorem Rep.nolist : ∀ (d : D) (S : List Addr) (v : V), Rep H S v d → G.nolist d = true → S = []
  | .none, _, _, h, _ => by cases h; rfl
  | .bool b, _, _, h, _ => by cases h; rfl
  | .int i, _, _, h, _ => by cases h; rfl
  | .str x, _, _, h, _ => by cases h; rfl
  | .list ds, _, _, _, e => by simp [G.nolist] at e
  | .tuple ds, _, _, h, e => by
    cases h with
    | tup _ h2 => exact Reps.nolist ds _ _ h2 (by simpa [G.nolist] using e)
  | .dict _, _, _, h, _ => by cases h
theorem Reps.nolist : ∀ (ds : List D) (S : List Addr) (vs : List V), Reps H S vs ds → nolists ds = true → S = []
  | [], _, _, h, _ => by cases h; rfl
  | d :: ds, _, _, h, e => by
    cases h with
    | cons h1 h2 =>
      rw [nolists, Bool.and_eq_true] at e
      rw [Rep.nolist d _ _ h1 e.1, Reps.nolist ds _ _ h2 e.2]
      rfl
end
/-- frozen data without a list may be taken for owned -/
theorem St.unfreeze (h : St H0 M pu Fz Ow Tp H) (m : (v, d) ∈ Fz) (e : nolist d = true) : St H0 M pu Fz ((v, d) :: Ow) Tp H := by
  obtain ⟨Z, S, h1, h2, h3, h4, h5, h6, h7, h8⟩ := h
  obtain ⟨T, r, z⟩ := h2 _ m
  obtain rfl := Rep.nolist _ _ _ r e
  exact ⟨Z, S, h1, h2, .cons (S := []) r h3, h4, h5, h6, h7, h8⟩
/-- written data: what is made, item by item -/
def Lit (t : TE) (d : D) : Prop := ∀ (σ : L2.St) (H : Hp) (Q : VK) (H0 : Hp) (M : Option Addr) (pu : Option (Addr × Int)) (Fz Ow : List (V × D)) (Tp : List (Addr × List V)), St H0 M pu Fz Ow Tp H → (∀ v H', St H0 M pu Fz ((v, d) :: Ow) Tp H' → Q v H') → t σ H Q
def LitA (t : TA) (ds : List D) : Prop := ∀ (σ : L2.St) (H : Hp) (Q : List V → Hp → Prop) (H0 : Hp) (M : Option Addr) (pu : Option (Addr × Int)) (Fz Ow : List (V × D)) (Tp : List (Addr × List V)), St H0 M pu Fz Ow Tp H → (∀ vs H', vs.length = ds.length → St H0 M pu Fz ((vs.zip ds).reverse ++ Ow) Tp H' → Q vs H') → t σ H Q
theorem lit_int {i : Int} : Lit (tC (.int i)) (.int i) := fun _ H _ _ _ _ _ _ _ h k => k _ _ (h.take (.int i))
theorem lit_str {x : Str} : Lit (tC (.str x)) (.str x) := fun _ H _ _ _ _ _ _ _ h k => k _ _ (h.take (.str x))
theorem lit_bool {b : Bool} : Lit (tC (.bl b)) (.bool b) := fun _ H _ _ _ _ _ _ _ h k => k _ _ (h.take (.bl b))
theorem lit_none : Lit (tC .non) .none := fun _ H _ _ _ _ _ _ _ h k => k _ _ (h.take .non)
theorem litA_nil : LitA tNil [] := fun _ _ _ _ _ _ _ _ _ h k => k [] _ rfl h
theorem litA_cons {t : TE} {ts : TA} {d : D} {ds : List D} (h1 : Lit t d) (h2 : LitA ts ds) : LitA (tCons t ts) (d :: ds) := fun σ H Q H0 M pu Fz Ow Tp h k =>
  h1 σ H _ H0 M pu Fz Ow Tp h fun v H1 k1 => h2 σ H1 _ H0 M pu Fz _ Tp k1 fun vs H2 el k2 => k (v :: vs) H2 (by simp [el]) (by simpa using k2)
theorem takes_rev {Tp : List (Addr × List V)} {Ow : List (V × D)} : ∀ (vs : List V) (ds : List D) (pre : List (V × D)), vs.length = ds.length → Takes Tp (pre.reverse ++ (vs.zip ds) ++ Ow) vs ds (pre.reverse ++ Ow)
  | [], [], pre, _ => by simpa using Takes.nil
  | v :: vs, d :: ds, pre, e => by
    have pk : ∀ (l r : List (V × D)), Pick (v, d) (l ++ (v, d) :: r) (l ++ r) := fun l => by
      induction l with
      | nil => intro r; exact .hd
      | cons x l ih => intro r; exact .tl (ih r)
    have q := takes_rev (Tp := Tp) (Ow := Ow) vs ds pre (by simpa using e)
    refine .cons (Ow1 := pre.reverse ++ vs.zip ds ++ Ow) (.own ?_) q
    have := pk pre.reverse (vs.zip ds ++ Ow)
    simpa using this
theorem St.unrev (vs : List V) (ds : List D) (h : St H0 M pu Fz ((vs.zip ds).reverse ++ Ow) Tp H) : St H0 M pu Fz (vs.zip ds ++ Ow) Tp H := by
  obtain ⟨Z, S, h1, h2, h3, h4, h5, h6, h7, h8⟩ := h
  have perm : ∀ (l l' : List (V × D)), l.Perm l' → ∀ S, Reps H S (l.map (·.1)) (l.map (·.2)) → ∃ S', Reps H S' (l'.map (·.1)) (l'.map (·.2)) ∧ S.Perm S' := by
    intro l l' pm
    induction pm with
    | nil => exact fun S r => ⟨S, r, .refl _⟩
    | cons x _ ih =>
      intro S r
      cases r with
      | cons r1 r2 =>
        obtain ⟨S', r', p'⟩ := ih _ r2
        exact ⟨_, .cons r1 r', List.Perm.append_left _ p'⟩
    | swap x y l =>
      intro S r
      cases r with
      | @cons Sy _ _ _ _ _ r1 r2 =>
        cases r2 with
        | @cons Sx Sl _ _ _ _ r2 r3 =>
          refine ⟨_, .cons r2 (.cons r1 r3), ?_⟩
          rw [← List.append_assoc, ← List.append_assoc]
          exact List.Perm.append_right _ List.perm_append_comm
    | trans _ _ ih1 ih2 =>
      intro S r
      obtain ⟨S1, r1, p1⟩ := ih1 S r
      obtain ⟨S2, r2, p2⟩ := ih2 S1 r1
      exact ⟨S2, r2, p1.trans p2⟩
  obtain ⟨S', r', pm⟩ := perm _ _ (List.Perm.append_right Ow (List.reverse_perm (vs.zip ds))) S h3
  exact ⟨Z, S', h1, h2, r', pm.nodup_iff.mp h4, fun a m => h5 a (pm.mem_iff.mpr m), h6, fun p b e => ⟨(h7 p b e).1, (h7 p b e).2.1, fun m => (h7 p b e).2.2 (pm.mem_iff.mpr m)⟩, h8⟩
theorem lit_lst {t : TA} {ds : List D} (h1 : LitA t ds) (hl : ds.length ≤ 1000000 := by decide) : Lit (tLst t) (.list ds) := fun σ H Q H0 M pu Fz Ow Tp h k =>
  h1 σ H _ H0 M pu Fz Ow Tp h fun vs H1 el k1 => ⟨by rw [el]; exact Nat.le_trans hl (by decide), fun p hp => k _ _ ((k1.unrev vs ds).mkLst hp (takes_rev vs ds [] el))⟩
theorem lit_tup {t : TA} {ds : List D} (h1 : LitA t ds) (hl : ds.length ≤ 1000000 := by decide) : Lit (tTup t) (.tuple ds) := fun σ H Q H0 M pu Fz Ow Tp h k =>
  h1 σ H _ H0 M pu Fz Ow Tp h fun vs H1 el k1 => ⟨by rw [el]; exact Nat.le_trans hl (by decide), fun p hp => by
    have q := (k1.unrev vs ds).mkTup (vs := vs) hp
    obtain ⟨Z, S, h1, h2, h3, h4, h5, h6, h7, h8⟩ := q
    have h6' := h6 _ List.mem_cons_self
    rw [List.map_append, List.map_append, List.map_fst_zip (by omega), List.map_snd_zip (by omega)] at h3
    obtain ⟨S1, S2, u1, u2, eS, eu, r1, r2⟩ := h3.split
    have e1 : u1 = vs ∧ u2 = Ow.map (·.1) := by
      have l1 := r1.length
      have := List.append_inj eu (by omega)
      exact ⟨this.1.symm, this.2.symm⟩
    obtain ⟨rfl, rfl⟩ := e1
    refine k _ _ ⟨Z, S, h1, h2, ?_, h4, h5, fun x m => h6 x (List.mem_cons_of_mem _ m), h7, h8⟩
    rw [eS]
    exact .cons (.tup h6' r1) r2⟩
theorem rdF {Z : Addr → Prop} (h2 : ∀ x ∈ Fz, ∃ T, Rep H T x.1 x.2 ∧ ∀ a ∈ T, Z a) (h6 : ∀ x ∈ Tp, H x.1 = some (.tup x.2)) (r : Rdb Fz [] Tp v d) : ∃ T, Rep H T v d ∧ ∀ a ∈ T, Z a := by
  induction r with
  | non => exact ⟨_, .non, fun _ z => nomatch z⟩
  | bl b => exact ⟨_, .bl b, fun _ z => nomatch z⟩
  | int i => exact ⟨_, .int i, fun _ z => nomatch z⟩
  | str x => exact ⟨_, .str x, fun _ z => nomatch z⟩
  | fz m => exact h2 _ m
  | ow m => cases m
  | tp0 m => exact ⟨_, .tup (h6 _ m) .nil, fun _ z => nomatch z⟩
  | tp1 m _ i1 =>
    obtain ⟨T1, r1, z1⟩ := i1
    exact ⟨_, .tup (h6 _ m) (.cons r1 .nil), fun a q => z1 a (by simpa using q)⟩
  | tp2 m _ _ i1 i2 =>
    obtain ⟨T1, r1, z1⟩ := i1
    obtain ⟨T2, r2, z2⟩ := i2
    refine ⟨_, .tup (h6 _ m) (.cons r1 (.cons r2 .nil)), fun a q => ?_⟩
    simp at q
    exact q.elim (z1 a) (z2 a)
  | tp3 m _ _ _ i1 i2 i3 =>
    obtain ⟨T1, r1, z1⟩ := i1
    obtain ⟨T2, r2, z2⟩ := i2
    obtain ⟨T3, r3, z3⟩ := i3
    refine ⟨_, .tup (h6 _ m) (.cons r1 (.cons r2 (.cons r3 .nil))), fun a q => ?_⟩
    simp at q
    exact q.elim (z1 a) fun q => q.elim (z2 a) (z3 a)
theorem rdsF {Z : Addr → Prop} {vs : List V} {ds : List D} (h2 : ∀ x ∈ Fz, ∃ T, Rep H T x.1 x.2 ∧ ∀ a ∈ T, Z a) (h6 : ∀ x ∈ Tp, H x.1 = some (.tup x.2)) (r : Rdbs Fz [] Tp vs ds) : ∃ T, Reps H T vs ds ∧ ∀ a ∈ T, Z a := by
  induction r with
  | nil => exact ⟨[], .nil, fun _ z => nomatch z⟩
  | cons r _ ih =>
    obtain ⟨T2, r2, z2⟩ := ih
    obtain ⟨T1, r1, z1⟩ := rdF h2 h6 r
    exact ⟨_, .cons r1 r2, fun a q => (List.mem_append.mp q).elim (z1 a) (z2 a)⟩
/-- a tree of frozen things -/
theorem St.addF (h : St H0 M pu Fz Ow Tp H) (r : Rdb Fz [] Tp v d) : St H0 M pu ((v, d) :: Fz) Ow Tp H := by
  obtain ⟨Z, S, h1, h2, h3, h4, h5, h6, h7, h8⟩ := h
  refine ⟨Z, S, h1, fun x m => ?_, h3, h4, h5, h6, h7, h8⟩
  rcases List.mem_cons.mp m with rfl | m
  · exact rdF h2 h6 r
  · exact h2 x m
/-- a new list of frozen things, frozen itself -/
theorem St.mkLstF {p : Addr} {vs : List V} {ds : List D} (h : St H0 M pu Fz Ow Tp H) (hp : H p = Option.none) (r : Rdbs Fz [] Tp vs ds) : St H0 M pu ((.ref p, .list ds) :: Fz) Ow Tp (upd H p (.lst vs)) := by
  obtain ⟨Z, S, h1, h2, h3, h4, h5, h6, h7, h8⟩ := h
  obtain ⟨T, rs, zT⟩ := rdsF h2 h6 r
  have k := same_upd (o := .lst vs) hp
  have kt : ∀ t xs, H t = some (.tup xs) → upd H p (.lst vs) t = some (.tup xs) := fun t xs e => k t _ e
  have pS : p ∉ S := fun m => by
    obtain ⟨xs, q⟩ := Reps.dom _ _ _ h3 p m
    rw [hp] at q
    cases q
  refine ⟨fun a => Z a ∨ a = p, S, fun a o e m => ⟨.inl (h1 a o e m).1, k a o (h1 a o e m).2⟩, fun x m => ?_, Reps.mono kt _ _ _ h3 fun a _ o e => k a o e, h4, fun a m => ⟨?_, (h5 a m).2⟩, fun x m => kt _ _ (h6 x m), fun q b e => ⟨(h7 q b e).1.mono (k q), ?_, (h7 q b e).2.2⟩, fun a z => ?_⟩
  · rcases List.mem_cons.mp m with rfl | m
    · refine ⟨p :: T, .lst upd_same (Reps.mono kt _ _ _ rs fun a _ o e => k a o e), fun a q => ?_⟩
      rcases List.mem_cons.mp q with rfl | q
      · exact .inr rfl
      · exact .inl (zT a q)
    · obtain ⟨T', r, z⟩ := h2 x m
      exact ⟨T', Rep.mono kt _ _ _ r fun a _ o e => k a o e, fun a q => .inl (z a q)⟩
  · rintro (z | z)
    · exact (h5 a m).1 z
    · exact pS (z ▸ m)
  · rintro (z | z)
    · exact (h7 q b e).2.1 z
    · subst z
      obtain ⟨x, y, z, e2, _⟩ := (h7 q b e).1
      rw [hp] at e2
      cases e2
  · rcases z with (z | z) | z
    · obtain ⟨o, e⟩ := h8 a (.inl z)
      exact ⟨o, k a o e⟩
    · exact ⟨_, by rw [z]; exact upd_same⟩
    · obtain ⟨o, e⟩ := h8 a (.inr z)
      exact ⟨o, k a o e⟩
/-! ### the entry, the end -/
theorem St.enter {S : List Addr} {vs : List V} {ds : List D} (h : Reps H S vs ds) : St H .none .none (vs.zip ds) [] [] H := by
  have el := h.length
  refine ⟨fun a => ∃ o, H a = some o, [], fun a o e _ => ⟨⟨o, e⟩, e⟩, fun x m => ?_, .nil, List.nodup_nil, fun _ z => (nomatch z), fun _ z => (nomatch z), fun _ _ z => (nomatch z), fun a z => ?_⟩
  · have rs' : Reps H S ((vs.zip ds).map (·.1)) ((vs.zip ds).map (·.2)) := by
      rw [List.map_fst_zip (by omega), List.map_snd_zip (by omega)]
      exact h
    obtain ⟨T, r, z⟩ := reps_of_mem rs' m
    refine ⟨T, r, fun a q => ?_⟩
    obtain ⟨xs, e⟩ := Rep.dom _ _ _ r a q
    exact ⟨_, e⟩
  · rcases z with z | z
    · exact z
    · cases z
theorem St.enterP {p : Addr} {b : Int} {S : List Addr} {vs : List V} {ds : List D} (h : Reps H S vs ds) (hp : PuAt H p b) (np : p ∉ S) : St H (some p) (some (p, b)) (vs.zip ds) [] [] H := by
  have el := h.length
  refine ⟨fun a => a ≠ p ∧ ∃ o, H a = some o, [], fun a o e m => ⟨⟨fun z => m (by rw [z]), o, e⟩, e⟩, fun x m => ?_, .nil, List.nodup_nil, fun _ z => (nomatch z), fun _ z => (nomatch z), fun q b' z => ?_, fun a z => ?_⟩
  · have rs' : Reps H S ((vs.zip ds).map (·.1)) ((vs.zip ds).map (·.2)) := by
      rw [List.map_fst_zip (by omega), List.map_snd_zip (by omega)]
      exact h
    obtain ⟨T, r, z⟩ := reps_of_mem rs' m
    refine ⟨T, r, fun a q => ⟨fun e => np (e ▸ z a q), ?_⟩⟩
    obtain ⟨xs, e⟩ := Rep.dom _ _ _ r a q
    exact ⟨_, e⟩
  · cases z
    exact ⟨hp, fun z => z.1 rfl, fun z => (nomatch z)⟩
  · rcases z with z | z
    · exact z.2
    · cases z
      obtain ⟨x, y, z, e, _⟩ := hp
      exact ⟨_, e⟩
theorem St.leave (h : St H0 .none pu Fz ((v, d) :: Ow) Tp H) : Same H0 H ∧ New H0 H v d := by
  obtain ⟨Z, S, h1, h2, h3, h4, h5, h6, h7, h8⟩ := h
  refine ⟨fun a o e => (h1 a o e (by intro z; cases z)).2, ?_⟩
  cases h3 with
  | @cons S1 S2 _ _ _ _ r _ =>
    refine ⟨S1, r, (List.nodup_append.mp h4).1, fun a m => ?_⟩
    cases q : H0 a with
    | none => rfl
    | some o => exact absurd (h1 a o q (by intro z; cases z)).1 (h5 a (List.mem_append_left _ m)).1
theorem St.leaveP {p : Addr} {b c : Int} (h : St H0 (some p) (some (p, b)) Fz ((v, d) :: Ow) Tp H) (hc : b ≤ c) : (∀ a o, H0 a = some o → a ≠ p → H a = some o) ∧ PuAt H p c ∧ New H0 H v d := by
  obtain ⟨Z, S, h1, h2, h3, h4, h5, h6, h7, h8⟩ := h
  refine ⟨fun a o e n => (h1 a o e (by intro z; cases z; exact n rfl)).2, (h7 p b rfl).1.le hc, ?_⟩
  cases h3 with
  | @cons S1 S2 _ _ _ _ r _ =>
    refine ⟨S1, r, (List.nodup_append.mp h4).1, fun a m => ?_⟩
    have h5' := h5 a (List.mem_append_left _ m)
    cases q : H0 a with
    | none => rfl
    | some o => exact absurd (h1 a o q h5'.2).1 h5'.1
end

/-! ### promises -/
/-- what a def makes of trees: W says of the arguments what the result may be -/
abbrev Tw := List D → (D → Prop) → Prop
/-- a def that changes nothing, and whose lists are new -/
def spT (W : Tw) : Sp := fun vs H Q _ => ∃ S ds G, Reps H S vs ds ∧ W ds G ∧ ∀ d v H', G d → Same H H' → New H H' v d → Q v H'
/-- a def that draws at most c times from the purse, its first argument -/
def spP (c : Int) (W : Tw) : Sp := fun vs H Q _ => ∃ p b vs' S ds G, vs = .ref p :: vs' ∧ PuAt H p b ∧ b + c ≤ 2 ^ 100 ∧ Reps H S vs' ds ∧ p ∉ S ∧ W ds G ∧ ∀ d v H', G d → (∀ a o, H a = some o → a ≠ p → H' a = some o) → PuAt H' p (b + c) → New H H' v d → Q v H'

section
variable {H0 H H' : Hp} {M : Option Addr} {pu : Option (Addr × Int)} {Fz Ow Ow' : List (V × D)} {Tp : List (Addr × List V)} {v : V} {d : D} {Q : VK} {E : XK} {W : Tw} {vs : List V} {ds : List D}
theorem St.call (h : St H0 M pu Fz Ow Tp H) (r : Rdbs Fz Ow Tp vs ds) (w : W ds fun d => ∀ v H', St H0 M pu Fz ((v, d) :: Ow) Tp H' → Q v H') : spT W (vs ++ []) H Q E0 := by
  obtain ⟨T, r, _⟩ := h.rds r
  rw [List.append_nil]
  exact ⟨T, ds, _, r, w, fun d v H' k s n => k v H' (h.new s n)⟩
theorem St.callP {p : Addr} {b c : Int} (h : St H0 M (some (p, b)) Fz Ow Tp H) (hb : b + c ≤ 2 ^ 100) (r : Rdbs Fz Ow Tp vs ds) (w : W ds fun d => ∀ v H', St H0 M (some (p, b + c)) Fz ((v, d) :: Ow) Tp H' → Q v H') : spP c W (.ref p :: vs ++ []) H Q E0 := by
  obtain ⟨T, r, n⟩ := h.rds r
  rw [List.append_nil]
  exact ⟨p, b, vs, T, ds, _, rfl, h.purse, hb, r, n p b rfl, w, fun d v H' k s kp n => k v H' (h.newP s kp n)⟩
end
end G
/-! GCall: promises of defs in whose surroundings no repr is under way (guards told), so that repr of lists may be called. -/
namespace G
open PySem PySem.Spec PyProof.Rows L2

/-- no repr is under way -/
abbrev Bare (A : Around) : Prop := A.guards = some []
theorem Bare.deeper {A : Around} (h : Bare A) (env : Env) : Bare (A.deeper env) := h

/-- a def's promise, called where no repr is under way -/
structure FnG (P : Program) (w : World) (K : PySem.W.Frag) (mg : Str → Option Value) (base : Heap) (CX : CXT) (k : Nat) (f : Addr) (fd : FuncData) (ps : List Str) (sp : Sp) : Prop where
  len : ∀ vs H Q E, sp vs H Q E → vs.length = ps.length
  run : ∀ (A : Around) (outer : List Env) (s : Shared) (H : Hp) (args : Args) (us : List Value) (vs : List V) (Q : VK) (E : XK), Bare A → Room k A → Env0 P w K mg base A outer s H → BindsTo s fd args (ps.zip us) → Vals vs us → sp vs H Q E →
    codeAny (model P w) A (.call (.ref f) args) (CR CX outer P w H s Q E) s
section
variable {P : Program} {w : World} {K : PySem.W.Frag} {mg : Str → Option Value} {base : Heap} {CX : CXT} {k j : Nat} {f : Addr} {fd : FuncData} {ps : List Str} {sp : Sp}
theorem FnG.mono (F : FnG P w K mg base CX j f fd ps sp) (h : j ≤ k) : FnG P w K mg base CX k f fd ps sp :=
  ⟨F.len, fun A o s H args us vs Q E hg hr => F.run A o s H args us vs Q E hg (hr.mono h)⟩
theorem FnG.of (F : FnOk P w K mg base CX k f fd ps sp) : FnG P w K mg base CX k f fd ps sp := ⟨F.len, fun A o s H args us vs Q E _ hr => F.run A o s H args us vs Q E hr⟩

/-- a def by its body: as the layer's rule, with the guards told to the body -/
theorem fn_ofG {name qual : Str} {params : Arguments} {body : List Stmt} {scope : Scope} {dV kV doc pm cdv ct oc : Value} {an od : Option Addr} {osl : Array (Option Value)} {N : List Str}
    (lk : K.lookup f = some ⟨oc, od, .func (PySem.W.fnOf name qual params body scope dV kV doc pm an cdv ct), osl⟩) (hcd : PySem.W.codeIn K cdv qual = true) (S : FnScope N ps scope) (len : ∀ vs H Q E, sp vs H Q E → vs.length = ps.length)
    (hb : ∀ (A : Around) (outer : List Env) (s : Shared) (H : Hp) (vs : List V) (Q : VK) (E : XK), Bare (A.deeper (envOfC qual scope s.heap.objs.size f cdv)) → Room k (A.deeper (envOfC qual scope s.heap.objs.size f cdv)) → sp vs H Q E →
      ∃ t, PSs (cxOf CX P w K mg base N qual scope f cdv A outer s H E) body t ∧ t ⟨fun _ H' => Q .non H', Q, fun _ _ => False, fun _ _ => False⟩ (start N vs) H) :
    FnG P w K mg base CX (k + 1) f (PySem.W.fnOf name qual params body scope dV kV doc pm an cdv ct) ps sp := by
  refine ⟨len, fun A outer s H args us vs Q E hg hr e0 bt r q => ?_⟩
  have keep : ∀ b o, base.get? b = some o → s.heap.get? b = some o := fun b o e => (e0.bs b o e).1
  have KX : K.In s.heap := e0.mod.kin.keeps keep
  refine codeAny_call_function hr.depth (KX _ _ lk) rfl S.co S.gen rfl (PySem.W.codeRec_of KX hcd) (bt _ _ _ _ (wpAny_newFunctionEnv_cells S.kind (fun y hy => ?_) fun env he s1 x => ?_))
  · rcases S.par y.1 (List.of_mem_zip (a := y.1) (b := y.2) hy).1 with z | z
    · exact Or.inl z
    · exact Or.inr ⟨z, PySem.W.cellsFrom_some _ _ _ (Or.inl z)⟩
  · subst he
    obtain ⟨t, ht, hq⟩ := hb A outer s H vs Q E (hg.deeper _) (hr.deeper _) q
    refine ⟨(e0.mod.nolimit.keeps keep).keeps x.toInCall.keep, codeAny_func (wpAny_mono (ht.run [] s1 (start N vs) H _ (inv_start S hr.hd e0 (len _ _ _ _ q) r x) hq) (fun fl s' hs => ?_) fun e s' z => z)⟩
    cases fl with
    | next =>
      obtain ⟨_, H', J, z⟩ := hs
      exact ⟨V.non, H', J.os, J.bare, J.base, J.hok, rfl, z⟩
    | ret u =>
      obtain ⟨v, _, H', J, rv, z⟩ := hs
      exact ⟨v, H', J.os, J.bare, J.base, J.hok, rv, z⟩
    | brk => exact hs.elim fun _ z => z.elim fun _ z => z.2.elim
    | cont => exact hs.elim fun _ z => z.elim fun _ z => z.2.elim
/-- .. where no exception leaves the def -/
theorem okG {x qual : Str} {st : Stmt} {N : List Str} (F : Fun K x qual st f fd) (S : FnScope N ps (defScope st)) (len : ∀ vs H Q E, sp vs H Q E → vs.length = ps.length)
    (hb : ∀ (cdv : Value) (A : Around) (outer : List Env) (s : Shared) (H : Hp) (vs : List V) (Q : VK) (E : XK), Bare (A.deeper (envOfC qual (defScope st) s.heap.objs.size f cdv)) → Room k (A.deeper (envOfC qual (defScope st) s.heap.objs.size f cdv)) → sp vs H Q E →
      ∃ t, PSs (cxOf CX0 P w K mg base N qual (defScope st) f cdv A outer s H E).nox (defBody st) t ∧ t ⟨fun _ H' => Q .non H', Q, fun _ _ => False, fun _ _ => False⟩ (start N vs) H) : FnG P w K mg base CX0 (k + 1) f fd ps sp := by
  obtain ⟨oc, od, kV, doc, pm, an, cdv, ct, osl, rfl, lk, hcd⟩ := F.ex
  refine fn_ofG lk hcd S len fun A outer s H vs Q E hg hr q => ?_
  obtain ⟨t, h, z⟩ := hb cdv A outer s H vs Q E hg hr q
  exact ⟨t, h.nox, z⟩
end

/-! ### calls -/
section
variable {X : Cx} {CX : CXT} {k : Nat} {f : Addr} {fd : FuncData} {ps ks : List Str} {sp : Sp} {E : XK} {x : Str} {p pos kpos : Pos} {e : Expr} {es : List Expr} {kws : List Keyword} {t tk : TA}
theorem end_callG {pins : List (Addr × Obj)} {σ : L2.St} {H : Hp} {s : Shared} {Q : VK} (hx : Passes CX X E) (I : Inv X pins σ H s) {r : Result} {s' : Shared} (hq : CR CX X.stack X.prog X.w H s Q E r s') : callEnd (EP X pins σ Q) X.xe r s' := by
  match r, hq with
  | .error e, hq => exact hx pins σ H s e s' I hq
  | .ok (.ret u), hq => exact I.after hq
/-- f(e, ..) of a def of the module, all parameters given by place -/
theorem pe_callG (F : FnG X.prog X.w X.K X.mg X.base CX k f fd ps sp) (hb : Bare X.A) (hr : Room k X.A) (hg : Gl X x) (hm : X.mg x = some (.ref f)) (hk : PySem.W.keepIn X.K (.ref f) = true) (bd : Binds X.K fd ps []) (hx : Passes CX X E)
    (ha : PA X (e :: es) t) (hdb : (x == ("__debug__" : Str)) = false := by decide) (he : starEach (e :: es) X.env = (false, eval e X.env) :: starEach es X.env := by rfl) (hpl : (backTo pos (starEach es X.env)).any (·.1) = false := by rfl) :
    PE X (.Call (.Name x p) (e :: es) [] pos) (tCall sp [] E t) := by
  refine ⟨fun pins s σ H Q I h => wpAny_Call_Name_kw (ld_glob I hg hm (PySem.W.callWith_K (h₀ := X.base) I.ok.mod.kin hk (thn (ha.run pos pins s σ H _ I h) fun us s1 ⟨vs, H1, I1, r, q⟩ => ⟨I1.kIn, ?_⟩) he hpl) hdb)⟩
  have r2 : Vals (vs ++ []) (us ++ []) := by
    rw [List.append_nil, List.append_nil]
    exact r
  refine wpAny_call (codeAny_mono (F.run X.A X.stack s1 H1 ⟨us, []⟩ (us ++ []) (vs ++ []) Q E hb hr I1.env0 (bd s1 us I1.kIn (r2.length.symm.trans (F.len _ _ _ _ q))) r2 q) fun r s' hq => end_callG hx I1 hq)
variable {g : List Value → List Value → List Value} {gV : List V → List V → List V}
theorem run_fnkG {pins : List (Addr × Obj)} {σ : L2.St} {H : Hp} {s : Shared} {Q : VK} {us ws : List Value} {vs zs : List V} (F : FnG X.prog X.w X.K X.mg X.base CX k f fd ps sp) (hg : Bare X.A) (hr : Room k X.A) (hb : KBinds X.K fd ps ks g gV) (hx : Passes CX X E)
    (I : Inv X pins σ H s) (r : Vals vs us) (rz : Vals zs ws) (h : sp (gV vs zs) H Q E) : wpAny (model X.prog X.w) X.A (call (.ref f) us (ks.zip ws)) (EP X pins σ Q) X.xe s := by
  have r2 := hb.rel r rz
  exact wpAny_call (codeAny_mono (F.run X.A X.stack s H ⟨us, ks.zip ws⟩ (g us ws) (gV vs zs) Q E hg hr I.env0 (hb.to s us ws I.kIn (r2.length.symm.trans (F.len _ _ _ _ h))) r2 h) fun r s' hq => end_callG hx I hq)
/-- f(k = v, ..): all parameters given by name -/
theorem pe_callK0G (F : FnG X.prog X.w X.K X.mg X.base CX k f fd ps sp) (hb : Bare X.A) (hr : Room k X.A) (hg : Gl X x) (hm : X.mg x = some (.ref f)) (hk : PySem.W.keepIn X.K (.ref f) = true) (kb : KBinds X.K fd ps ks g gV) (hx : Passes CX X E)
    (hkw : PK X kws tk) (hall : (backToKw pos (keywordEach kws X.env)).all (·.1.isSome) = true := by rfl) (hks : (backToKw pos (keywordEach kws X.env)).filterMap (·.1) = ks := by rfl) (hdb : (x == ("__debug__" : Str)) = false := by decide)
    (hpl : ((backTo pos (starEach [] X.env)).any (·.1) || (backToKw pos (keywordEach kws X.env)).any (·.1.isNone)) = false := by rfl) : PE X (.Call (.Name x p) [] kws pos) (tCallK sp gV E tNil tk) := by
  refine ⟨fun pins s σ H Q I h => wpAny_Call_Name_kw (ld_glob I hg hm (PySem.W.callWith_KW0 (h₀ := X.base) I.ok.mod.kin hk hall (thn (hkw.run pos pins s σ H _ I h) fun ws s1 ⟨zs, H1, I1, rz, q⟩ => ⟨I1.kIn, ?_⟩) hpl) hdb)⟩
  rw [hks]
  exact run_fnkG F hb hr kb hx I1 .nil rz q
end

/-- all parameters by name: f i tells which of the keywords' values is the i-th parameter's -/
def gKw (ix : List Nat) (us ws : List Value) : List Value := match us with
  | [] => ix.filterMap fun i => ws[i]?
  | _ :: _ => []
def gKwV (ix : List Nat) (vs zs : List V) : List V := match vs with
  | [] => ix.filterMap fun i => zs[i]?
  | _ :: _ => []
theorem vals_pick {zs : List V} {ws : List Value} (r : Vals zs ws) : ∀ ix : List Nat, Vals (ix.filterMap fun i => zs[i]?) (ix.filterMap fun i => ws[i]?)
  | [] => .nil
  | i :: ix => by
    cases e : zs[i]? with
    | none =>
      have e2 := r.none_of e
      rw [List.filterMap_cons_none e, List.filterMap_cons_none e2]
      exact vals_pick r ix
    | some v =>
      obtain ⟨u, e2, ru⟩ := r.get e
      rw [List.filterMap_cons_some e, List.filterMap_cons_some e2]
      exact .cons ru (vals_pick r ix)
theorem kb_of {K : PySem.W.Frag} {fd : FuncData} {ps ks : List Str} {ix : List Nat} (h0 : 0 < ps.length) (h : ∀ ws : List Value, (ix.filterMap fun i => ws[i]?).length = ps.length → bindArgs fd ⟨[], ks.zip ws⟩ = pure (ps.zip (ix.filterMap fun i => ws[i]?))) : KBinds K fd ps ks (gKw ix) (gKwV ix) := by
  refine ⟨fun s us ws _ hl => ?_, fun {vs us zs ws} r rz => ?_⟩
  · cases us with
    | nil => exact .of_eq (h ws hl)
    | cons u us =>
      change ([] : List Value).length = ps.length at hl
      simp at hl
      omega
  · cases r with
    | nil => exact vals_pick rz ix
    | cons _ _ => exact .nil

/-! ### the law's call -/
theorem law_callG {P : Program} {w : World} {K : PySem.W.Frag} {mg mb : Str → Option Value} {CX : CXT} {k : Nat} {fa a : Addr} {fd : FuncData} {x : Str} {sp : Sp} {s : Shared} {vs : List Value} {ns : List Int}
    (KX : K.In s.heap) (hns : s.heap.Ns mainGlobals mg) (hb : s.heap.Ns builtinsNs mb) (hbb : ∀ y : Str, y ≠ "__name__" → mb y = bootBuiltins y) (hlim : s.heap.NoLimit) (hg : s.gens = #[])
    (ha : s.heap.get? a = some { cls := .type "list", data := .seq vs.toArray }) (hi : IntsAre vs ns) (hl : ns.length ≤ sizeLine) (hr : Room k callerA)
    (F : ∀ base : Heap, K.In base → base.Ns mainGlobals mg → FnG P w K mg base CX k fa fd [x] sp) (hbind : ∀ (s : Shared) (u : Value), BindsTo s fd ⟨[u], []⟩ [(x, u)])
    (hsp : ∀ H : Hp, Only H → SqL K H a (ns.map V.int) → sp [.ref a] H (fun v _ => v = .bl true) fun _ _ _ => False) (hCX : ∀ H e s', CX [] H s (fun _ _ _ => False) e s' → False) :
    codeAny (model P w) callerA (.call (.ref fa) ⟨[.ref a], []⟩) (fun r s' => r = .ok (.ret (.bool true)) ∧ OldK s.heap s'.heap ∧ s'.os = s.os ∧ AllBare s'.gens) s := by
  have rv : Vals (ns.map V.int) vs := vals_ints hi
  have lenV : vs.length = ns.length := by rw [← rv.length, List.length_map]
  -- for a heap H that tracks the script alone, or nothing
  have main : ∀ H : Hp, Only H → SqL K H a (ns.map V.int) → HOk P w H s.heap → (∀ b, H b ≠ none → b = a) → (H a ≠ none → K.lookup a = none) →
      codeAny (model P w) callerA (.call (.ref fa) ⟨[.ref a], []⟩) (fun r s' => r = .ok (.ret (.bool true)) ∧ OldK s.heap s'.heap ∧ s'.os = s.os ∧ AllBare s'.gens) s := fun H hO hS hok hA hK => by
    have dictless : ∀ {b : Addr} {o : Obj} {es : Array DictEntry} {ep : Nat}, s.heap.get? b = some o → o.data = .dict es ep → H b = none := fun {b o es ep} e d => by
      cases z : H b with
      | none => rfl
      | some u =>
        rw [hA b (by rw [z]; intro q; cases q), ha] at e
        cases e
        cases (show Data.seq vs.toArray _ = Data.dict es ep from d)
    have nsB : ∀ {b : Addr} {m : Str → Option Value}, s.heap.Ns b m → (hidT s.heap H).Ns b m := fun {b m} ⟨o, es, ep, e, d, r⟩ => ⟨o, es, ep, hidT_get e (dictless e d), d, r⟩
    have kinB : K.In (hidT s.heap H) := fun b o e => hidT_get (KX b o e) (by
      cases z : H b with
      | none => rfl
      | some u =>
        have eb := hA b (by rw [z]; intro q; cases q)
        subst eb
        rw [hK (by rw [z]; intro q; cases q)] at e
        cases e)
    obtain ⟨mc, l1, l2⟩ := hlim
    have e0 : Env0 P w K mg (hidT s.heap H) callerA [] s H := ⟨rfl, ⟨kinB, nsB hns, ⟨mb, nsB hb, hbb⟩, ⟨mc, nsB l1, l2⟩⟩, fun b o e => of_hidT e, Nat.le_of_eq (hidT_size _ _), trivial, fun b z => (nomatch (show b ∈ ([] : List Addr) from z)), hok, .of_eq hg⟩
    refine codeAny_mono ((F _ kinB (nsB hns)).run callerA [] s H ⟨[.ref a], []⟩ [.ref a] [.ref a] _ _ rfl hr e0 (hbind s (.ref a)) (.cons rfl .nil) (hsp H hO hS)) fun r s' h => ?_
    match r, h with
    | .error e, h => exact (hCX H e s' h).elim
    | .ok (.ret u), ⟨v, H', os, bare, un, hok', r', q⟩ =>
      have q' : v = .bl true := q
      subst q'
      obtain rfl : u = Value.bool true := r'
      refine ⟨rfl, OldK.of_keep fun b o e => ?_, os, bare⟩
      cases z : H b with
      | none => exact un.keep b o e z (fun m => nomatch (show b ∈ ([] : List Addr) from m)) (fun m => nomatch m)
      | some u =>
        rcases hO b with y | ⟨ob, xs, y⟩
        · rw [z] at y
          cases y
        · have e1 := (hok b _ y).1
          rw [e] at e1
          cases e1
          exact (hok' b _ (un.frzs b _ _ y)).1
  cases hk : K.lookup a with
  | some o =>
    have e := KX a o hk
    rw [ha] at e
    cases e
    exact main (fun _ => none) (fun _ => .inl rfl) (.inr ⟨_, vs.toArray, _, hk, rfl, rfl, rfl, by rw [List.size_toArray, lenV]; exact hl, by simpa using rv⟩) (fun b u z => nomatch z) (fun b z => absurd rfl z) fun z => absurd rfl z
  | none =>
    have at_a : (fun b : Addr => if b = a then some (HO.frz { cls := .type "list", data := .seq vs.toArray } (.lst (ns.map V.int))) else none) a = some (HO.frz { cls := .type "list", data := .seq vs.toArray } (.lst (ns.map V.int))) := if_pos rfl
    have off : ∀ b, b ≠ a → (fun b : Addr => if b = a then some (HO.frz { cls := .type "list", data := .seq vs.toArray } (.lst (ns.map V.int))) else none) b = none := fun b h => if_neg h
    refine main (fun b => if b = a then some (.frz { cls := .type "list", data := .seq vs.toArray } (.lst (ns.map V.int))) else none) (fun b => ?_) (.inl (.inr ⟨_, at_a⟩)) (fun b u z => ?_) (fun b z => ?_) fun _ => hk
    · by_cases h : b = a
      · exact .inr ⟨_, _, by subst h; exact at_a⟩
      · exact .inl (off b h)
    · by_cases h : b = a
      · subst h
        rw [at_a] at z
        cases z
        exact ⟨ha, by rw [List.length_map]; exact hl, vs, _, rv, ha⟩
      · rw [off b h] at z
        cases z
    · exact Classical.byContradiction fun h => z (off b h)
theorem walk_ofG {l : PySem.W.OpenLaw} {n k : Nat} {q : Program} {loose : List Str} {XP : (Str → Option Value) → Heap → Prop} {YP : World → Heap → Prop} {d : DefRec} {K : Params → PySem.W.Frag} {CX : World → CXT} {sp : World → Sp} {x : Str}
    (hn : l.most = some n) (hn2 : n ≤ sizeLine) (hdf : d.params.defaults = []) (hr : Room k callerA) (hY : ∀ (w : World) (h : Heap), YP w h → (K w.params).In h)
    (F : ∀ (w : World) (mg : Str → Option Value) (fa : Addr) (h : Heap), (K w.params).In h → h.Ns mainGlobals mg → mg d.name = some (.ref fa) →
      ∃ fd : FuncData, (∀ (s : Shared) (u : Value), BindsTo s fd ⟨[u], []⟩ [(x, u)]) ∧ ∀ base : Heap, (K w.params).In base → base.Ns mainGlobals mg → FnG l.prog w (K w.params) mg base (CX w) k fa fd [x] (sp w))
    (hsp : ∀ (w : World) (H : Hp) (a : Addr) (ns : List Int), ns.length ≤ n → (∀ z ∈ ns, Builtin.Int.intBits z ≤ 1048576) → Only H → SqL (K w.params) H a (ns.map V.int) → sp w [.ref a] H (fun v _ => v = .bl true) fun _ _ _ => False)
    (hCX : ∀ (w : World) (H : Hp) (s : Shared) (e : Value) (s' : Shared), CX w [] H s (fun _ _ _ => False) e s' → False) : PySem.W.WalkO q loose XP YP l.row.toRowW d [] (fun f vs => PySem.call f vs) :=
  Att.attach_callB hn hdf fun w _ s1 mg mb fa _ _ _ _ a vs ns G Y _ _ _ hmg hobj hints hlen hbits hg => by
    have KX := hY w _ Y
    obtain ⟨fd, hb, hF⟩ := F w mg fa _ KX G.T.g hmg
    exact law_callG KX G.T.g G.T.b G.T.builtins G.T.nolimit hg hobj hints (Nat.le_trans hlen hn2) hr hF hb (fun H hO hS => hsp w H a ns hlen hbits hO hS) fun H e s' => hCX w H s1 e s'

/-! ### operations -/
section
variable {X : Cx}
/-- repr of plain data -/
def rRepr (K : PySem.W.Frag) : List V → Hp → VK → Prop := fun vs H Q => ∃ x d, vs = [x] ∧ Dp K H x d ∧ d.showable = true ∧ d.depth ≤ 60 ∧ d.shown.length ≤ sizeLine ∧ Q (.str d.shown) H
theorem Dp.nodict {K : PySem.W.Frag} {H : Hp} : ∀ (d : D) (x : V), Dp K H x d → d.hasDict = false
  | .none, _, _ => by simp [PyData.hasDict]
  | .bool _, _, _ => by simp [PyData.hasDict]
  | .int _, _, _ => by simp [PyData.hasDict]
  | .str _, _, _ => by simp [PyData.hasDict]
  | .list ds, _, h => by
    cases h with
    | lst _ hs =>
      rw [PyData.hasDict]
      exact all ds _ hs
  | .tuple ds, _, h => by
    cases h with
    | tup _ hs =>
      rw [PyData.hasDict]
      exact all ds _ hs
  | .dict _, _, h => by cases h
where all : ∀ (ds : List D) (vs : List V), DpAll K H vs ds → PyData.hasDictAll ds = false
  | [], _, _ => by simp [PyData.hasDictAll]
  | d :: ds, _, h => by
    cases h with
    | cons h1 h2 =>
      rw [PyData.hasDictAll, Dp.nodict d _ h1, all ds _ h2]
      rfl
theorem cr_repr (hg : Bare X.A) (hu : X.A.units + 64 < cLine) : CallR X (.builtin "repr") (rRepr X.K) := by
  intro pins s σ H xs us Q I r h
  obtain ⟨x, d, rfl, hd, sh, dp, sz, q⟩ := h
  obtain ⟨u, rfl, rx⟩ := vals1 r
  obtain ⟨as, hr⟩ := Dp.reads I d x u hd rx
  have nd := Dp.nodict d x hd
  cases d with
  | none =>
    cases hd
    cases rx
    exact PySem.P.repr_of_none ⟨.str _, H, I.tok _, ⟨_, rfl⟩, q⟩
  | bool b =>
    cases hd
    cases rx
    refine PySem.P.repr_of_bool ⟨.str _, H, I.tok _, ⟨_, rfl⟩, ?_⟩
    cases b <;> exact q
  | int i =>
    cases hd
    obtain ⟨t, rfl⟩ := rx
    refine PySem.P.repr_of_int (by simpa [PyData.showable] using sh) ⟨.str _, H, I.tok _, ⟨_, rfl⟩, q⟩
  | str z =>
    cases hd
    obtain ⟨t, rfl⟩ := rx
    exact PySem.P.repr_of_str ⟨.str _, H, I.tok _, ⟨_, rfl⟩, q⟩ (by simpa [PyData.shown] using sz)
  | list ds =>
    cases hd
    cases rx
    exact repr_of_reads' hr sh (fun z => by rw [nd] at z; cases z) hg (by omega) (fun _ _ e => e) (fun h' u tk k => ⟨.str _, H, I.kept k, ⟨_, rfl⟩, q⟩) sz
  | tuple ds =>
    cases hd
    cases rx
    exact repr_of_reads' hr sh (fun z => by rw [nd] at z; cases z) hg (by omega) (fun _ _ e => e) (fun h' u tk k => ⟨.str _, H, I.kept k, ⟨_, rfl⟩, q⟩) sz
  | dict _ => cases hd
/-- a ** b of great numbers -/
def CPowW (i j : Int) : Prop := 0 ≤ j ∧ (Builtin.Int.intBits i : Int) * j ≤ 2 ^ 27
theorem op_powW : OpR X (binaryOp .Pow) (rI CPowW fun i j => .int (i ^ j.toNat)) := opI fun _ _ _ _ _ _ _ hc q => pow_int hc.1 hc.2 q
/-- a * b: together below a hundred million bits -/
def CMulB (i j : Int) : Prop := Builtin.Int.intBits i + Builtin.Int.intBits j < 100000000
theorem CMulB.ok {i j : Int} (h : CMulB i j) : IntMulOk i j := by
  have e : bitsLine = 134217728 := by decide
  unfold IntMulOk
  intro z
  rw [Bool.and_eq_true] at z
  have z2 := z.2
  unfold Builtin.Int.intTooBig at z2
  have z3 := of_decide_eq_true z2
  rw [e] at z3
  unfold CMulB at h
  omega
theorem op_mulB : OpR X (binaryOp .Mult) (rI CMulB fun i j => .int (i * j)) := opI fun _ _ _ _ _ _ _ hc q => mul_int q hc.ok
theorem call_min3 (hc : X.calm = true) : CallR X (.builtin "min") (fun xs H Q => ∃ i j k, xs = [.int i, .int j, .int k] ∧ Q (.int (min i (min j k))) H) := by
  intro pins s σ H xs us Q I r h
  obtain ⟨i, j, k, rfl, q⟩ := h
  cases r with
  | cons r1 r =>
    cases r with
    | cons r2 r =>
      cases r with
      | cons r3 r =>
        cases r
        obtain ⟨t1, rfl⟩ := r1
        obtain ⟨t2, rfl⟩ := r2
        obtain ⟨t3, rfl⟩ := r3
        refine min_three_ints (I.ok.hd hc) fun h' tk kk => ⟨_, H, I.kept kk, ?_, q⟩
        split <;> split <;> exact ⟨_, by congr 1; omega⟩
end
end G
/-! GStep: what the top leaves, entries, loops, reads. -/
namespace G
open PySem PySem.Spec PyProof.Rows L2

/-- the built-in names that no def hides -/
structure Blt (mg : Str → Option Value) : Prop where
  len : mg "len" = none
  range : mg "range" = none
  max : mg "max" = none
  min : mg "min" = none
  abs : mg "abs" = none
  int : mg "int" = none
  list : mg "list" = none
  tuple : mg "tuple" = none
  repr : mg "repr" = none
  all : mg "all" = none
  any : mg "any" = none
  sum : mg "sum" = none
  sorted : mg "sorted" = none
  isinstance : mg "isinstance" = none
  set : mg "set" = none
  enumerate : mg "enumerate" = none
  zip : mg "zip" = none
  str : mg "str" = none
  divmod : mg "divmod" = none
  dict : mg "dict" = none
  bool : mg "bool" = none
  reversed : mg "reversed" = none
/-- a def of the top as it stands -/
structure DefAt (K : PySem.W.Frag) (mg : Str → Option Value) (x : Str) (st : Stmt) (f : Addr) (fd : FuncData) (ps : List Str) : Prop where
  F : Fun K x x st f fd
  gl : mg x = some (.ref f)
  bd : Binds K fd ps []
theorem DefAt.kp {K : PySem.W.Frag} {mg : Str → Option Value} {x : Str} {st : Stmt} {f : Addr} {fd : FuncData} {ps : List Str} (d : DefAt K mg x st f fd ps) : PySem.W.keepIn K (.ref f) = true := d.F.kp

theorem szle {n : Nat} (h : n ≤ 10000000) : n ≤ sizeLine := Nat.le_trans h (by decide)
theorem szlt {n : Nat} (h : n ≤ 10000000) : n < sizeLine := Nat.lt_of_le_of_lt h (by decide)

section
variable {H : Hp} {S : List Addr} {vs : List V}
theorem Reps.one {d1 : D} (r : Reps H S vs [d1]) : ∃ v1, vs = [v1] := by
  cases r with
  | cons _ r => cases r; exact ⟨_, rfl⟩
theorem Reps.two {d1 d2 : D} (r : Reps H S vs [d1, d2]) : ∃ v1 v2, vs = [v1, v2] := by
  cases r with
  | cons _ r => obtain ⟨_, rfl⟩ := Reps.one r; exact ⟨_, _, rfl⟩
theorem Reps.three {d1 d2 d3 : D} (r : Reps H S vs [d1, d2, d3]) : ∃ v1 v2 v3, vs = [v1, v2, v3] := by
  cases r with
  | cons _ r => obtain ⟨_, _, rfl⟩ := Reps.two r; exact ⟨_, _, _, rfl⟩
theorem Reps.four {d1 d2 d3 d4 : D} (r : Reps H S vs [d1, d2, d3, d4]) : ∃ v1 v2 v3 v4, vs = [v1, v2, v3, v4] := by
  cases r with
  | cons _ r => obtain ⟨_, _, _, rfl⟩ := Reps.three r; exact ⟨_, _, _, _, rfl⟩
/-- the entry of a def that only reads -/
theorem enter1 {d1 : D} (r : Reps H S vs [d1]) : ∃ v1, vs = [v1] ∧ St H .none .none [(v1, d1)] [] [] H := by
  obtain ⟨v1, rfl⟩ := r.one
  exact ⟨v1, rfl, St.enter r⟩
theorem enter2 {d1 d2 : D} (r : Reps H S vs [d1, d2]) : ∃ v1 v2, vs = [v1, v2] ∧ St H .none .none [(v1, d1), (v2, d2)] [] [] H := by
  obtain ⟨v1, v2, rfl⟩ := r.two
  exact ⟨v1, v2, rfl, St.enter r⟩
theorem enter3 {d1 d2 d3 : D} (r : Reps H S vs [d1, d2, d3]) : ∃ v1 v2 v3, vs = [v1, v2, v3] ∧ St H .none .none [(v1, d1), (v2, d2), (v3, d3)] [] [] H := by
  obtain ⟨v1, v2, v3, rfl⟩ := r.three
  exact ⟨v1, v2, v3, rfl, St.enter r⟩
theorem enter4 {d1 d2 d3 d4 : D} (r : Reps H S vs [d1, d2, d3, d4]) : ∃ v1 v2 v3 v4, vs = [v1, v2, v3, v4] ∧ St H .none .none [(v1, d1), (v2, d2), (v3, d3), (v4, d4)] [] [] H := by
  obtain ⟨v1, v2, v3, v4, rfl⟩ := r.four
  exact ⟨v1, v2, v3, v4, rfl, St.enter r⟩
/-- .. of a def that draws -/
theorem enterP0 {p : Addr} {b : Int} (r : Reps H S vs []) (hp : PuAt H p b) (n : p ∉ S) : vs = [] ∧ St H (some p) (some (p, b)) [] [] [] H := by
  cases r
  exact ⟨rfl, St.enterP .nil hp (by simp)⟩
theorem enterP1 {p : Addr} {b : Int} {d1 : D} (r : Reps H S vs [d1]) (hp : PuAt H p b) (n : p ∉ S) : ∃ v1, vs = [v1] ∧ St H (some p) (some (p, b)) [(v1, d1)] [] [] H := by
  obtain ⟨v1, rfl⟩ := r.one
  exact ⟨v1, rfl, St.enterP r hp n⟩
theorem enterP2 {p : Addr} {b : Int} {d1 d2 : D} (r : Reps H S vs [d1, d2]) (hp : PuAt H p b) (n : p ∉ S) : ∃ v1 v2, vs = [v1, v2] ∧ St H (some p) (some (p, b)) [(v1, d1), (v2, d2)] [] [] H := by
  obtain ⟨v1, v2, rfl⟩ := r.two
  exact ⟨v1, v2, rfl, St.enterP r hp n⟩
theorem enterP3 {p : Addr} {b : Int} {d1 d2 d3 : D} (r : Reps H S vs [d1, d2, d3]) (hp : PuAt H p b) (n : p ∉ S) : ∃ v1 v2 v3, vs = [v1, v2, v3] ∧ St H (some p) (some (p, b)) [(v1, d1), (v2, d2), (v3, d3)] [] [] H := by
  obtain ⟨v1, v2, v3, rfl⟩ := r.three
  exact ⟨v1, v2, v3, rfl, St.enterP r hp n⟩
end

/-! ### loops -/
section
variable {K : PySem.W.Frag} {g : TG} {tb : TS} {De : Ends} {σ : L2.St} {H : Hp}
/-- for over a list of ints: the word speaks of the part that is done -/
theorem for_ints {a : Addr} {ns : List Int} (Pv : List Int → L2.St → Hp → Prop) (h0 : Pv [] σ H) (hl : ∀ pre σ H, Pv pre σ H → H a = some (.lst (ns.map V.int)))
    (hs : ∀ pre n post σ H, ns = pre ++ n :: post → Pv pre σ H → g (.int n) σ H fun σ2 H2 => tb ⟨Pv (pre ++ [n]), De.rt, De.nx, Pv (pre ++ [n])⟩ σ2 H2) (hd : ∀ σ H, Pv ns σ H → De.nx σ H) :
    ∃ W : Nat → Nat → L2.St → Hp → Prop, (∃ m, W 0 m σ H) ∧ ∀ i m σ H, W i m σ H →
      ((Itl K a).stop i H ∧ De.nx σ H) ∨ ((Itl K a).go i H ∧ ∃ N : L2.St → Hp → Prop, (∀ σ' H', N σ' H' → ∃ m', m' < m ∧ W (i + 1) m' σ' H') ∧ ∀ x H', (Itl K a).yld i H x H' → g x σ H' fun σ2 H2 => tb { De with nx := N, ct := N, bk := De.nx } σ2 H2) := by
  refine for_list (K := K) (a := a) (xs := ns.map V.int) (fun i σ H => i ≤ ns.length ∧ Pv (ns.take i) σ H) ⟨Nat.zero_le _, h0⟩ (fun i σ H _ h => SqL.of (hl _ _ _ h.2)) (fun i x σ H e h => ?_) (fun σ H h => ?_)
  · rw [List.getElem?_map] at e
    cases q : ns[i]? with
    | none => rw [q] at e; cases e
    | some n =>
      rw [q] at e
      cases e
      have hi : i < ns.length := (List.getElem?_eq_some_iff.mp q).1
      have en : ns[i] = n := (List.getElem?_eq_some_iff.mp q).2
      have e2 : ns = ns.take i ++ n :: ns.drop (i + 1) := by
        rw [← en, List.getElem_cons_drop, List.take_append_drop]
      have e3 : ns.take (i + 1) = ns.take i ++ [n] := by rw [List.take_add_one, q]; rfl
      have e4 : (fun (σ : L2.St) (H : Hp) => i + 1 ≤ ns.length ∧ Pv (ns.take (i + 1)) σ H) = Pv (ns.take i ++ [n]) := by
        funext σ H
        rw [e3]
        exact propext ⟨fun z => z.2, fun z => ⟨hi, z⟩⟩
      show g (.int n) σ H fun σ2 H2 => tb ⟨fun σ H => i + 1 ≤ ns.length ∧ Pv (ns.take (i + 1)) σ H, De.rt, De.nx, fun σ H => i + 1 ≤ ns.length ∧ Pv (ns.take (i + 1)) σ H⟩ σ2 H2
      rw [e4]
      exact hs _ _ _ _ _ e2 h.2
  · have e : ns.take (ns.map V.int).length = ns := by rw [List.length_map, List.take_length]
    rw [e] at h
    exact hd _ _ h.2
end
section
variable {g : TG} {tt : TT} {te : TE} {ws : List Nat} {σ : L2.St} {H1 : Hp} {Dl : Addr} {Qd : Hp → Prop} {K : PySem.W.Frag}
/-- a comprehension over a list of ints -/
theorem lc_ints {a : Addr} {ns : List Int} (Pv : List Int → Hp → Prop) (h0 : Pv [] (upd H1 Dl (.lst []))) (hl : ∀ pre H, Pv pre H → H a = some (.lst (ns.map V.int)))
    (hs : ∀ pre n post H, ns = pre ++ n :: post → Pv pre H → g (.int n) (wipe σ ws) H fun σ2 H2 => wipe σ2 ws = wipe σ ws ∧ tt σ2 H2 fun b H3 =>
      if b = true then te σ2 H3 fun y H4 => ∃ acc, H4 Dl = some (.lst acc) ∧ acc.length < sizeLine ∧ Pv (pre ++ [n]) (upd H4 Dl (.lst (acc ++ [y]))) else Pv (pre ++ [n]) H3) (hd : ∀ H, Pv ns H → Qd H) :
    ∃ W : Nat → Nat → Hp → Prop, (∃ m, W 0 m (upd H1 Dl (.lst []))) ∧ ∀ i m H, W i m H →
      ((Itl K a).stop i H ∧ Qd H) ∨ ((Itl K a).go i H ∧ ∃ Nx : Hp → Prop, (∀ H', Nx H' → ∃ m', m' < m ∧ W (i + 1) m' H') ∧ ∀ x H', (Itl K a).yld i H x H' → g x (wipe σ ws) H' fun σ2 H2 => wipe σ2 ws = wipe σ ws ∧ tt σ2 H2 fun b H3 =>
        if b = true then te σ2 H3 fun y H4 => ∃ acc, H4 Dl = some (.lst acc) ∧ acc.length < sizeLine ∧ Nx (upd H4 Dl (.lst (acc ++ [y]))) else Nx H3) := by
  refine lc_list (K := K) (a := a) (xs := ns.map V.int) (fun i H => i ≤ ns.length ∧ Pv (ns.take i) H) ⟨Nat.zero_le _, h0⟩ (fun i H _ h => SqL.of (hl _ _ h.2)) (fun i x H e h => ?_) (fun H h => ?_)
  · rw [List.getElem?_map] at e
    cases q : ns[i]? with
    | none => rw [q] at e; cases e
    | some n =>
      rw [q] at e
      cases e
      have hi : i < ns.length := (List.getElem?_eq_some_iff.mp q).1
      have en : ns[i] = n := (List.getElem?_eq_some_iff.mp q).2
      have e2 : ns = ns.take i ++ n :: ns.drop (i + 1) := by
        rw [← en, List.getElem_cons_drop, List.take_append_drop]
      have e3 : ns.take (i + 1) = ns.take i ++ [n] := by rw [List.take_add_one, q]; rfl
      have e4 : (fun (H : Hp) => i + 1 ≤ ns.length ∧ Pv (ns.take (i + 1)) H) = Pv (ns.take i ++ [n]) := by
        funext H
        rw [e3]
        exact propext ⟨fun z => z.2, fun z => ⟨hi, z⟩⟩
      show g (.int n) (wipe σ ws) H fun σ2 H2 => wipe σ2 ws = wipe σ ws ∧ tt σ2 H2 fun b H3 =>
        if b = true then te σ2 H3 fun y H4 => ∃ acc, H4 Dl = some (.lst acc) ∧ acc.length < sizeLine ∧ (fun (H : Hp) => i + 1 ≤ ns.length ∧ Pv (ns.take (i + 1)) H) (upd H4 Dl (.lst (acc ++ [y]))) else (fun (H : Hp) => i + 1 ≤ ns.length ∧ Pv (ns.take (i + 1)) H) H3
      rw [e4]
      exact hs _ _ _ _ e2 h.2
  · have e : ns.take (ns.map V.int).length = ns := by rw [List.length_map, List.take_length]
    rw [e] at h
    exact hd _ h.2
end

/-! ### slices, items of lists of ints -/
theorem cutV_to (xs : List V) (n : Nat) : cutV xs none (some (n : Int)) = xs.take n := by
  unfold cutV
  rw [HT.sIx_none, HT.sIx_nat]
  simp
theorem cutV_from (xs : List V) (n : Nat) : cutV xs (some (n : Int)) none = xs.drop n := by
  unfold cutV
  rw [HT.sIx_none, HT.sIx_nat]
  by_cases h : n ≤ xs.length
  · rw [Nat.min_eq_left h]
    exact List.take_of_length_le (by rw [List.length_drop]; omega)
  · rw [Nat.min_eq_right (by omega), List.drop_of_length_le (Nat.le_refl _), List.drop_of_length_le (by omega)]
    simp
theorem at_nat {xs : List V} {i : Int} {k : Nat} {v : V} (hi : i = (k : Int)) (h : xs[k]? = some v) : atI xs i = some v := by
  subst hi
  exact atI_nat h
theorem ints_at {ns : List Int} {k : Nat} {n : Int} (h : ns[k]? = some n) : (ns.map V.int)[k]? = some (.int n) := by
  rw [List.getElem?_map, h]
  rfl
theorem ints_len {ns : List Int} : (ns.map V.int).length = ns.length := List.length_map ..
/-- the ints a, a + 1, .. below b -/
def rg (a b : Int) : List Int := (List.range (b - a).toNat).map fun i => a + (i : Nat)
theorem rgV_map (a b : Int) : rgV a b = (rg a b).map V.int := by
  unfold rgV rg
  rw [List.map_map]
  rfl
theorem map_erase {α β : Type} (f : α → β) : ∀ (l : List α) (k : Nat), (l.map f).eraseIdx k = (l.eraseIdx k).map f
  | [], _ => rfl
  | _ :: _, 0 => rfl
  | x :: l, k + 1 => by simp [map_erase f l k]
theorem rg_length (a b : Int) : (rg a b).length = (b - a).toNat := by unfold rg; rw [List.length_map, List.length_range]
theorem mem_rg {a b x : Int} : x ∈ rg a b ↔ a ≤ x ∧ x < b := by
  unfold rg
  rw [List.mem_map]
  constructor
  · rintro ⟨i, hi, rfl⟩
    rw [List.mem_range] at hi
    omega
  · rintro ⟨h1, h2⟩
    exact ⟨(x - a).toNat, by rw [List.mem_range]; omega, by omega⟩
theorem dec_eq_int {i j : Int} : decide (V.int i = V.int j) = decide (i = j) := by
  by_cases h : i = j
  · subst h; simp
  · rw [decide_eq_false h, decide_eq_false fun e => h (V.int.inj e)]

theorem iteB {b : Bool} {A B : Prop} (h1 : b = true → A) (h2 : b = false → B) : if b = true then A else B := by
  cases b with
  | true => exact iteT (h1 rfl)
  | false => exact iteF (h2 rfl)
/-- a, b, .. <= .. <= .. of ints, whatever the outcome -/
theorem w_chain {ta tb tc : TE} {σ : L2.St} {H : Hp} {Q : VK} {i j k : Int} (h : ta σ H fun x H1 => x = .int i ∧ tb σ H1 fun y H2 => y = .int j ∧ ∀ Q' : VK, Q' (.int k) H2 → tc σ H2 Q') : True := trivial
/-- an effect as data -/
abbrev dE (e : Int × List Int) : D := .tuple [.int e.1, dI e.2]
end G
/-! GShow: how long the text of plain data may be; == and in over lists of ints. -/
namespace G
open PySem PySem.Spec PyProof.Rows L2

mutual
/-- no less than the signs of the text -/
def wd : D → Nat
  | .none => 4
  | .bool _ => 5
  | .int i => i.natAbs.log2 + 3
  | .str x => (reprText x).length
  | .list ds => wds ds + 3
  | .tuple ds => wds ds + 3
  | .dict _ => 0
def wds : List D → Nat
  | [] => 0
  | d :: ds => wd d + 2 + wds ds
end
theorem shownAll_len : ∀ ds : List D, (PyData.shownAll ds).length = ds.length
  | [] => by simp [PyData.shownAll]
  | d :: ds => by simp [PyData.shownAll, shownAll_len ds]
mutual
theorem shown_wd : ∀ d : D, d.hasDict = false → d.shown.length ≤ wd d
  | .none, _ => by
    have e : (PyData.shown .none).length = 4 := rfl
    simp only [wd]
    omega
  | .bool b, _ => by
    have e : (PyData.shown (.bool b)).length ≤ 5 := by cases b <;> decide
    simpa only [wd] using e
  | .int i, _ => by
    have h := int_text_length_le (a := i) (k := i.natAbs.log2 + 1) (by omega) (by omega)
    have e : (PyData.shown (.int i)).length = (toString i).length := by
      show (Str.ofString (toString i)).length = _
      rw [PySem.ofString_length]
    rw [e]
    simp only [wd]
    omega
  | .str x, _ => by simp only [PyData.shown, wd]; exact Nat.le_refl _
  | .list ds, h => by
    have h1 := shownAll_wds ds (by simpa [PyData.hasDict] using h)
    have h2 := listText_len_le (PyData.shownAll ds)
    rw [shownAll_len] at h2
    simp only [PyData.shown, wd]
    omega
  | .tuple ds, h => by
    have h1 := shownAll_wds ds (by simpa [PyData.hasDict] using h)
    have h2 := tupleText_len_le (PyData.shownAll ds)
    rw [shownAll_len] at h2
    simp only [PyData.shown, wd]
    omega
  | .dict _, h => by simp [PyData.hasDict] at h
theorem shownAll_wds : ∀ ds : List D, PyData.hasDictAll ds = false → ((PyData.shownAll ds).map (·.length)).sum + 2 * ds.length ≤ wds ds
  | [], _ => by simp [PyData.shownAll, wds]
  | d :: ds, h => by
    have h' : d.hasDict = false ∧ PyData.hasDictAll ds = false := by simpa [PyData.hasDictAll] using h
    have h1 := shown_wd d h'.1
    have h2 := shownAll_wds ds h'.2
    simp only [PyData.shownAll, wds, List.map_cons, List.sum_cons, List.length_cons]
    omega
end
/-- it may be shown: at most k deep, at most B signs -/
structure Sh (k B : Nat) (d : D) : Prop where
  sh : d.showable = true
  dp : d.depth ≤ k
  wd : wd d ≤ B
theorem Sh.mono {k k' B B' : Nat} {d : D} (h : Sh k B d) (h1 : k ≤ k') (h2 : B ≤ B') : Sh k' B' d := ⟨h.sh, Nat.le_trans h.dp h1, Nat.le_trans h.wd h2⟩
theorem sh_none : Sh 1 5 .none := ⟨by simp [PyData.showable], by simp [PyData.depth], by simp [G.wd]⟩
theorem sh_bool (b : Bool) : Sh 1 5 (.bool b) := ⟨by simp [PyData.showable], by simp [PyData.depth], by simp [G.wd]⟩
theorem log2_of {n : Nat} (h : n < 2 ^ 200) : n.log2 < 200 := PySem.Flt.log2_lt_of (by decide) h
theorem sh_int {i : Int} (h : i.natAbs < 2 ^ 200) : Sh 1 205 (.int i) := by
  have := log2_of h
  exact ⟨by simp [PyData.showable]; omega, by simp [PyData.depth], by simp [G.wd]; omega⟩
theorem sh_all {k B : Nat} : ∀ {ds : List D}, (∀ d ∈ ds, Sh k B d) → PyData.showableAll ds = true ∧ PyData.depthAll ds ≤ k ∧ wds ds ≤ (B + 2) * ds.length
  | [], _ => ⟨by simp [PyData.showableAll], by simp [PyData.depthAll], by simp [wds]⟩
  | d :: ds, h => by
    have h1 := h d List.mem_cons_self
    obtain ⟨a, b, c⟩ := sh_all fun x m => h x (List.mem_cons_of_mem _ m)
    refine ⟨by simp [PyData.showableAll, h1.sh, a], ?_, ?_⟩
    · have := h1.dp
      simp only [PyData.depthAll]
      omega
    · have := h1.wd
      simp only [wds, List.length_cons]
      rw [Nat.mul_add]
      omega
theorem sh_list {k B n : Nat} {ds : List D} (h : ∀ d ∈ ds, Sh k B d) (hn : ds.length ≤ n) : Sh (k + 1) ((B + 2) * n + 3) (.list ds) := by
  obtain ⟨a, b, c⟩ := sh_all h
  have := Nat.mul_le_mul_left (B + 2) hn
  exact ⟨by simpa [PyData.showable] using a, by simp only [PyData.depth]; omega, by simp only [G.wd]; omega⟩
theorem sh_tuple {k B n : Nat} {ds : List D} (h : ∀ d ∈ ds, Sh k B d) (hn : ds.length ≤ n) : Sh (k + 1) ((B + 2) * n + 3) (.tuple ds) := by
  obtain ⟨a, b, c⟩ := sh_all h
  have := Nat.mul_le_mul_left (B + 2) hn
  exact ⟨by simpa [PyData.showable] using a, by simp only [PyData.depth]; omega, by simp only [G.wd]; omega⟩
theorem sh_ints {n : Nat} {gs : List Int} (h : ∀ x ∈ gs, x.natAbs < 2 ^ 200) (hn : gs.length ≤ n) : Sh 2 (207 * n + 3) (dI gs) := by
  refine sh_list (k := 1) (B := 205) (fun d m => ?_) (by rw [List.length_map]; exact hn)
  obtain ⟨x, hx, rfl⟩ := List.mem_map.mp m
  exact sh_int (h x hx)
/-- an effect of moderate size -/
theorem sh_eff {e : Int × List Int} (h1 : e.1.natAbs < 2 ^ 200) (h : ∀ x ∈ e.2, x.natAbs < 2 ^ 200) (hn : e.2.length ≤ 4000) : Sh 3 1700000 (dE e) := by
  refine (sh_tuple (k := 2) (B := 828003) (n := 2) (fun d m => ?_) (by simp)).mono (by omega) (by omega)
  rcases List.mem_cons.mp m with rfl | m
  · exact (sh_int h1).mono (by omega) (by omega)
  · rcases List.mem_cons.mp m with rfl | m
    · exact (sh_ints h hn).mono (by omega) (by omega)
    · cases m

/-! ### one step into a reading -/
section
variable {ta tb : TE} {ts : TA} {g : TG} {r : R2} {rc : List V → Hp → VK → Prop} {σ : L2.St} {H : Hp} {Q : VK} {De : Ends}
theorem w_op (h : ta σ H fun x H1 => tb σ H1 fun y H2 => r x y H2 Q) : tOp r ta tb σ H Q := h
theorem w_cb (h : ts σ H fun vs H1 => rc vs H1 Q) : tCB rc ts σ H Q := h
theorem w_cons {Q : List V → Hp → Prop} (h : ta σ H fun x H1 => ts σ H1 fun xs H2 => Q (x :: xs) H2) : tCons ta ts σ H Q := h
theorem w_asg (h : ta σ H fun x H1 => g x σ H1 De.nx) : tAsg ta g De σ H := h
theorem w_ret (h : ta σ H De.rt) : tRet ta De σ H := h
theorem w_lit {d : D} {H0 : Hp} {M : Option Addr} {pu : Option (Addr × Int)} {Fz Ow : List (V × D)} {Tp : List (Addr × List V)} (hS : St H0 M pu Fz Ow Tp H) (l : Lit ta d) (k : ∀ v H', St H0 M pu Fz ((v, d) :: Ow) Tp H' → Q v H') : ta σ H Q := l _ _ _ _ _ _ _ _ _ hS k
end

theorem tyL {K : PySem.W.Frag} {H : Hp} {p : Addr} {xs : List V} (h : H p = some (.lst xs)) : tyV K "list" (.ref p) H := Or.inl ⟨rfl, _, SqL.of h⟩

/-! ### == and in of lists of ints -/
theorem eqvAll_ints : ∀ xs ys : List Int, PyData.eqvAll (xs.map PyData.int) (ys.map PyData.int) = decide (xs = ys)
  | [], [] => by simp [PyData.eqvAll]
  | [], _ :: _ => by simp [PyData.eqvAll]
  | _ :: _, [] => by simp [PyData.eqvAll]
  | x :: xs, y :: ys => by
    rw [List.map_cons, List.map_cons, PyData.eqvAll, eqvAll_ints xs ys, PyData.eqv]
    by_cases h : x = y
    · subst h
      simp
    · rw [beq_eq_false_iff_ne.mpr h, decide_eq_false (fun e => h (List.cons.inj e).1)]
      rfl
theorem eqv_ints (xs ys : List Int) : PyData.eqv (dI xs) (dI ys) = decide (xs = ys) := by rw [PyData.eqv, eqvAll_ints]
theorem canLay_ints : ∀ xs : List Int, PyData.canLayAll0 (xs.map PyData.int) = true
  | [] => by simp [PyData.canLayAll0]
  | x :: xs => by simp [PyData.canLayAll0, PyData.canLay0, canLay_ints xs]
theorem depth_ints : ∀ xs : List Int, PyData.depthAll (xs.map PyData.int) = 0
  | [] => by simp [PyData.depthAll]
  | x :: xs => by simp [PyData.depthAll, PyData.depth, depth_ints xs]
theorem shaped_ints (xs : List Int) : SeqAt.shaped (dI xs) = true := by
  unfold SeqAt.shaped
  simp [PyData.canLay0, PyData.depth, canLay_ints, depth_ints]
theorem inV_ints (t : Int) (ns : List Int) : inV (.int t) (ns.map V.int) = decide (t ∈ ns) := by
  unfold inV
  rw [List.any_map]
  induction ns with
  | nil => rfl
  | cons n ns ih =>
    rw [List.any_cons, ih]
    by_cases h : t = n
    · subst h
      simp [eqV]
    · have h2 : ¬ n = t := fun e => h e.symm
      simp [eqV, h, h2]
theorem flat_ints (ns : List Int) : (ns.map V.int).all flatV = true := by
  rw [List.all_map, List.all_eq_true]
  intro x _
  rfl
theorem dp_ints {K : PySem.W.Frag} {H : Hp} {a : Addr} {ns : List Int} (h : H a = some (.lst (ns.map V.int))) : Dp K H (.ref a) (dI ns) := Rep.dp K _ _ _ (.lst h (Reps.intsR ns))
theorem cutV_mid (xs : List V) (a b : Nat) : cutV xs (some (a : Int)) (some (b : Int)) = (xs.drop a).take (b - a) := by
  unfold cutV
  rw [HT.sIx_nat, HT.sIx_nat]
  by_cases h : a ≤ xs.length
  · rw [Nat.min_eq_left h]
    by_cases h2 : b ≤ xs.length
    · rw [Nat.min_eq_left h2]
    · rw [Nat.min_eq_right (by omega), List.take_of_length_le (by rw [List.length_drop]; omega), List.take_of_length_le (by rw [List.length_drop]; omega)]
  · rw [Nat.min_eq_right (show xs.length ≤ a by omega), List.drop_of_length_le (Nat.le_refl _), List.drop_of_length_le (show xs.length ≤ a by omega)]
    simp
theorem cutV_neg (xs : List V) (i : Int) : cutV xs (some i) (some 0) = [] := by
  unfold cutV
  have e : HT.sIx xs.length xs.length (some (0 : Int)) = 0 := by
    have := HT.sIx_nat xs.length xs.length 0
    simpa using this
  rw [e, Nat.zero_sub, List.take_zero]
end G
/-! GIsi: isinstance of plain data; depth and size of the parts. -/
namespace G
open PySem PySem.Spec PyProof.Rows L2

def tyN : D → String
  | .none => "NoneType"
  | .bool _ => "bool"
  | .int _ => "int"
  | .str _ => "str"
  | .list _ => "list"
  | .tuple _ => "tuple"
  | .dict _ => "dict"
theorem tyx {K : PySem.W.Frag} {H : Hp} {S : List Addr} {v : V} {d : D} (r : Rep H S v d) : TyX K H v (.type (tyN d)) := by
  cases r with
  | non => exact .base .non
  | bl b => exact .base (.bl b)
  | int i => exact .base (.int i)
  | str x => exact .base (.str x)
  | lst e _ => exact .base (.lst e)
  | tup e _ => exact .base (.tup e)
def isList : D → Bool
  | .list _ => true
  | _ => false
def isTuple : D → Bool
  | .tuple _ => true
  | _ => false
theorem kit_list {K : PySem.W.Frag} : ∀ {H : Hp} {S : List Addr} {v : V} {d : D}, Rep H S v d → PySem.W.kitOne K (.type (tyN d)) (.type "list") = some (isList d) := fun r => by
  cases r with
  | non => exact kit_ty (by decide +kernel)
  | bl b => exact kit_ty (show kitB "bool" "list" = some false by decide +kernel)
  | int i => exact kit_ty (show kitB "int" "list" = some false by decide +kernel)
  | str x => exact kit_ty (show kitB "str" "list" = some false by decide +kernel)
  | lst e _ => exact kit_ty (show kitB "list" "list" = some true by decide +kernel)
  | tup e _ => exact kit_ty (show kitB "tuple" "list" = some false by decide +kernel)
theorem kit_tuple {K : PySem.W.Frag} : ∀ {H : Hp} {S : List Addr} {v : V} {d : D}, Rep H S v d → PySem.W.kitOne K (.type (tyN d)) (.type "tuple") = some (isTuple d) := fun r => by
  cases r with
  | non => exact kit_ty (by decide +kernel)
  | bl b => exact kit_ty (show kitB "bool" "tuple" = some false by decide +kernel)
  | int i => exact kit_ty (show kitB "int" "tuple" = some false by decide +kernel)
  | str x => exact kit_ty (show kitB "str" "tuple" = some false by decide +kernel)
  | lst e _ => exact kit_ty (show kitB "list" "tuple" = some false by decide +kernel)
  | tup e _ => exact kit_ty (show kitB "tuple" "tuple" = some true by decide +kernel)
theorem isi_list {K : PySem.W.Frag} {H : Hp} {S : List Addr} {v : V} {d : D} {Q : VK} (r : Rep H S v d) (q : Q (.bl (isList d)) H) : rIsi K [v, .ty "list"] H Q := ⟨v, _, _, _, _, rfl, .ty _, tyx r, kit_list r, q⟩
theorem isi_tuple {K : PySem.W.Frag} {H : Hp} {S : List Addr} {v : V} {d : D} {Q : VK} (r : Rep H S v d) (q : Q (.bl (isTuple d)) H) : rIsi K [v, .ty "tuple"] H Q := ⟨v, _, _, _, _, rfl, .ty _, tyx r, kit_tuple r, q⟩
theorem isi_seq {K : PySem.W.Frag} {H : Hp} {S : List Addr} {v : V} {d : D} {Q : VK} {t : Addr} (r : Rep H S v d) (ht : H t = some (.tup [.ty "list", .ty "tuple"])) (q : Q (.bl (isList d || isTuple d)) H) : rIsiT K [v, .ref t] H Q := by
  refine ⟨v, t, _, _, [.type "list", .type "tuple"], _, rfl, ht, .cons (.ty _) (.cons (.ty _) .nil), tyx r, ?_, q⟩
  refine kitAny_cons (kit_list r) (fun e => ?_) (fun e => by rw [e]; rfl)
  rw [e, Bool.false_or]
  refine kitAny_cons (kit_tuple r) (fun e => ?_) (fun e => e)
  rw [e]
  exact kitAny_nil
/-- one of two rules -/
theorem pi_or {X : Cx} {tg l : Expr} {w1 w2 : TI} (h1 : PI X tg l w1) (h2 : PI X tg l w2) : PI X tg l (fun σ H R => w1 σ H R ∨ w2 σ H R) :=
  ⟨fun pins s σ H R I h => h.elim (h1.run pins s σ H R I) (h2.run pins s σ H R I)⟩
theorem pe_or2 {X : Cx} {e : Expr} {t1 t2 : TE} (h1 : PE X e t1) (h2 : PE X e t2) : PE X e (fun σ H Q => t1 σ H Q ∨ t2 σ H Q) :=
  ⟨fun pins s σ H Q I h => h.elim (h1.run pins s σ H Q I) (h2.run pins s σ H Q I)⟩

theorem depth_mem : ∀ {ds : List D} {d : D}, d ∈ ds → d.depth ≤ PyData.depthAll ds
  | x :: ds, d, h => by
    simp only [PyData.depthAll]
    rcases List.mem_cons.mp h with rfl | h
    · omega
    · have := depth_mem h
      omega
theorem wd_mem : ∀ {ds : List D} {d : D}, d ∈ ds → wd d + 2 ≤ wds ds
  | x :: ds, d, h => by
    simp only [wds]
    rcases List.mem_cons.mp h with rfl | h
    · omega
    · have := wd_mem h
      omega
theorem wds_len : ∀ ds : List D, 2 * ds.length ≤ wds ds
  | [] => Nat.zero_le _
  | d :: ds => by
    have := wds_len ds
    simp only [wds, List.length_cons]
    omega
theorem zip_mem {α β : Type} : ∀ {vs : List α} {ds : List β} {i : Nat} {v : α} {d : β}, vs[i]? = some v → ds[i]? = some d → (v, d) ∈ vs.zip ds
  | [], _, _, _, _, h, _ => by simp at h
  | _ :: _, [], _, _, _, _, h => by simp at h
  | v :: vs, d :: ds, 0, _, _, h1, h2 => by
    simp at h1 h2
    subst h1
    subst h2
    simp
  | v :: vs, d :: ds, i + 1, _, _, h1, h2 => by
    rw [List.zip_cons_cons]
    exact List.mem_cons_of_mem _ (zip_mem (i := i) (by simpa using h1) (by simpa using h2))
/-- a comprehension over a list of ints whose items are ints: the list of what they become -/
theorem lc_map {K : PySem.W.Frag} {te : TE} {σ : L2.St} {H H0 : Hp} {M : Option Addr} {pu : Option (Addr × Int)} {Fz Ow : List (V × D)} {Tp : List (Addr × List V)} {Dl a : Addr} {ns : List Int} {j : Nat} {Qd : Hp → Prop} (f : Int → Int)
    (hS : St H0 M pu Fz Ow Tp H) (hD : H Dl = none) (hr : ∀ gs : List Int, Rdb Fz ((.ref Dl, dI gs) :: Ow) Tp (.ref a) (dI ns)) (len : ns.length ≤ 1000000)
    (step : ∀ x ∈ ns, ∀ gs H1, St H0 M pu Fz ((.ref Dl, dI gs) :: Ow) Tp H1 → ∀ R : VK, R (.int (f x)) H1 → te ((wipe σ [j]).set j (some (.int x))) H1 R)
    (k : ∀ H', St H0 M pu Fz ((.ref Dl, dI (ns.map f)) :: Ow) Tp H' → Qd H') :
    ∃ W : Nat → Nat → Hp → Prop, (∃ m, W 0 m (upd H Dl (.lst []))) ∧ ∀ i m H, W i m H →
      ((Itl K a).stop i H ∧ Qd H) ∨ ((Itl K a).go i H ∧ ∃ Nx : Hp → Prop, (∀ H', Nx H' → ∃ m', m' < m ∧ W (i + 1) m' H') ∧ ∀ x H', (Itl K a).yld i H x H' → gName j x (wipe σ [j]) H' fun σ2 H2 => wipe σ2 [j] = wipe σ [j] ∧ tYes σ2 H2 fun b H3 =>
        if b = true then te σ2 H3 fun y H4 => ∃ acc, H4 Dl = some (.lst acc) ∧ acc.length < sizeLine ∧ Nx (upd H4 Dl (.lst (acc ++ [y]))) else Nx H3) := by
  refine lc_ints (fun pre H1 => St H0 M pu Fz ((.ref Dl, dI (pre.map f)) :: Ow) Tp H1) (by simpa using hS.mkInts (ns := []) hD) (fun pre H1 h => ?_) (fun pre x post H1 e h => ?_) (fun H1 h => k _ h)
  · obtain ⟨a', e, ha⟩ := h.rints (v := .ref a) (ns := ns) (hr _)
    cases e
    exact ha
  · refine ⟨?_, ?_⟩
    · show ((σ.set j none).set j _).set j none = σ.set j none
      rw [List.set_set, List.set_set]
    · unfold tYes; dsimp only
      rw [if_pos rfl]
      refine step x (by rw [e]; simp) _ _ h _ ?_
      obtain ⟨hD2, kp⟩ := h.putInts
      refine ⟨_, hD2, szlt (by rw [ints_len, List.length_map]; rw [e] at len; simp at len; omega), ?_⟩
      have h4 := kp (pre.map f ++ [f x])
      simpa using h4
/-- all that is owned is frozen -/
theorem St.frz {H0 H : Hp} {M : Option Addr} {pu : Option (Addr × Int)} {Tp : List (Addr × List V)} : ∀ {Ow Fz : List (V × D)}, St H0 M pu Fz Ow Tp H → St H0 M pu (Ow ++ Fz) [] Tp H
  | [], _, h => h
  | (_, _) :: _, _, h => (St.frz h.freeze).fzs fun x hx => by
    rcases List.mem_append.mp hx with hx | hx
    · rcases List.mem_cons.mp hx with rfl | hx
      · exact List.mem_append_right _ List.mem_cons_self
      · exact List.mem_append_left _ hx
    · exact List.mem_append_right _ (List.mem_cons_of_mem _ hx)
/-- nothing is owned any more -/
theorem St.ow0 {H0 H : Hp} {M : Option Addr} {pu : Option (Addr × Int)} {Tp : List (Addr × List V)} {Fz : List (V × D)} : ∀ {Ow : List (V × D)}, St H0 M pu Fz Ow Tp H → St H0 M pu Fz [] Tp H
  | [], h => h
  | _ :: _, h => St.ow0 h.drop
end G
/-! GEat: owned trees that a callee spoils. -/
namespace G
open PySem PySem.Spec PyProof.Rows L2

theorem Rep.same {H H1 : Hp} {S : List Addr} {v : V} {d : D} (r : Rep H S v d) (sm : Same H H1) : Rep H1 S v d := Rep.mono (fun t vs e => sm _ _ e) _ _ _ r fun a m o e => sm a o e
theorem kit_seq {K : PySem.W.Frag} {H : Hp} {S : List Addr} {v : V} {d : D} (r : Rep H S v d) : PySem.W.kitAny K (.type (tyN d)) [.type "list", .type "tuple"] = some (isList d || isTuple d) := by
  refine kitAny_cons (kit_list r) (fun e => ?_) (fun e => by rw [e]; rfl)
  rw [e, Bool.false_or]
  refine kitAny_cons (kit_tuple r) (fun e => ?_) (fun e => e)
  rw [e]
  exact kitAny_nil
/-! ### the tree with a number behind each list -/
mutual
def spD : D → Int → D × Int
  | .list ds, k => (.list ((spDs ds k).1 ++ [.int (-((spDs ds k).2 + 1))]), (spDs ds k).2 + 1)
  | .tuple ds, k => (.tuple (spDs ds k).1, (spDs ds k).2)
  | .none, k => (.none, k)
  | .bool b, k => (.bool b, k)
  | .int i, k => (.int i, k)
  | .str x, k => (.str x, k)
  | .dict x, k => (.dict x, k)
def spDs : List D → Int → List D × Int
  | [], k => ([], k)
  | d :: ds, k => ((spD d k).1 :: (spDs ds (spD d k).2).1, (spDs ds (spD d k).2).2)
end
theorem spDs_snoc : ∀ (ds : List D) (d : D) (k : Int), spDs (ds ++ [d]) k = ((spDs ds k).1 ++ [(spD d (spDs ds k).2).1], (spD d (spDs ds k).2).2)
  | [], d, k => by simp [spDs]
  | x :: ds, d, k => by
    rw [List.cons_append, spDs, spDs_snoc ds d]
    simp [spDs]
mutual
/-- how many lists -/
def nl : D → Nat
  | .list ds => nls ds + 1
  | .tuple ds => nls ds
  | _ => 0
def nls : List D → Nat
  | [] => 0
  | d :: ds => nl d + nls ds
end
theorem depthAll_app : ∀ (ds es : List D), PyData.depthAll (ds ++ es) = max (PyData.depthAll ds) (PyData.depthAll es)
  | [], es => by simp [PyData.depthAll]
  | d :: ds, es => by simp only [List.cons_append, PyData.depthAll, depthAll_app ds es]; omega
theorem wds_app : ∀ (ds es : List D), wds (ds ++ es) = wds ds + wds es
  | [], es => by simp [wds]
  | d :: ds, es => by simp only [List.cons_append, wds, wds_app ds es]; omega
theorem showableAll_app : ∀ (ds es : List D), PyData.showableAll (ds ++ es) = (PyData.showableAll ds && PyData.showableAll es)
  | [], es => by simp [PyData.showableAll]
  | d :: ds, es => by simp [PyData.showableAll, showableAll_app ds es, Bool.and_assoc]
mutual
theorem sp_sh : ∀ (d : D) (k : Int), d.showable = true → 0 ≤ k → k + nl d < 2 ^ 100 → (spD d k).1.showable = true ∧ (spD d k).1.depth = d.depth ∧ wd (spD d k).1 ≤ wd d + 207 * nl d ∧ k ≤ (spD d k).2 ∧ (spD d k).2 = k + nl d
  | .list ds, k, h, h0, h1 => by
    simp only [nl] at h1
    obtain ⟨a1, a2, a3, a4, a5⟩ := sps_sh ds k (by simpa [PyData.showable] using h) h0 (by omega)
    have si := sh_int (i := -((spDs ds k).2 + 1)) (by omega)
    have w := si.wd
    have dd := si.sh
    have d0 : (PyData.int (-((spDs ds k).2 + 1))).depth = 0 := by simp [PyData.depth]
    refine ⟨?_, ?_, ?_, ?_, ?_⟩
    · simp only [spD, PyData.showable]
      rw [showableAll_app, a1]
      simp only [PyData.showableAll, dd, Bool.and_true, Bool.true_and]
    · simp only [spD, PyData.depth]
      rw [depthAll_app, a2]
      simp only [PyData.depthAll, d0]
      omega
    · simp only [spD, G.wd, nl] at w ⊢
      rw [wds_app]
      simp only [wds, G.wd]
      omega
    · simp only [spD]
      omega
    · simp only [spD, nl]
      omega
  | .tuple ds, k, h, h0, h1 => by
    simp only [nl] at h1
    obtain ⟨a1, a2, a3, a4, a5⟩ := sps_sh ds k (by simpa [PyData.showable] using h) h0 (by omega)
    refine ⟨by simpa only [spD, PyData.showable] using a1, ?_, ?_, by simpa only [spD] using a4, by simpa only [spD, nl] using a5⟩
    · simp only [spD, PyData.depth]
      omega
    · simp only [spD, G.wd, nl]
      omega
  | .none, k, h, h0, h1 => by simp [spD, nl, h]
  | .bool _, k, h, h0, h1 => by simp [spD, nl, h]
  | .int _, k, h, h0, h1 => by simp only [spD, nl]; exact ⟨h, trivial, by omega, by omega, by omega⟩
  | .str _, k, h, h0, h1 => by simp only [spD, nl]; exact ⟨h, trivial, by omega, by omega, by omega⟩
  | .dict _, k, h, h0, h1 => by simp only [spD, nl]; exact ⟨h, trivial, by omega, by omega, by omega⟩
theorem sps_sh : ∀ (ds : List D) (k : Int), PyData.showableAll ds = true → 0 ≤ k → k + nls ds < 2 ^ 100 → PyData.showableAll (spDs ds k).1 = true ∧ PyData.depthAll (spDs ds k).1 = PyData.depthAll ds ∧ wds (spDs ds k).1 ≤ wds ds + 207 * nls ds ∧ k ≤ (spDs ds k).2 ∧ (spDs ds k).2 = k + nls ds
  | [], k, h, h0, h1 => by simp [spDs, nls, h]
  | d :: ds, k, h, h0, h1 => by
    simp only [nls] at h1
    simp only [PyData.showableAll, Bool.and_eq_true] at h
    obtain ⟨a1, a2, a3, a4, a5⟩ := sp_sh d k h.1 h0 (by omega)
    obtain ⟨b1, b2, b3, b4, b5⟩ := sps_sh ds (spD d k).2 h.2 (by omega) (by omega)
    refine ⟨by simp only [spDs, PyData.showableAll, a1, b1, Bool.and_self], ?_, ?_, ?_, ?_⟩
    · simp only [spDs, PyData.depthAll, a2, b2]
    · simp only [spDs, wds, nls]
      omega
    · simp only [spDs]
      omega
    · simp only [spDs, nls]
      omega
end
theorem sp_Sh {k B : Nat} {d : D} (h : Sh k B d) (hn : nl d ≤ 100000) : Sh k (B + 207 * nl d) (spD d 0).1 := by
  obtain ⟨a1, a2, a3, _, _⟩ := sp_sh d 0 h.sh (Int.le_refl _) (by omega)
  have := h.dp
  have := h.wd
  exact ⟨a1, by omega, by omega⟩
theorem nls_ints : ∀ ns : List Int, nls (ns.map PyData.int) = 0
  | [] => rfl
  | n :: ns => by simp only [List.map_cons, nls, nl, nls_ints ns]
theorem nl_ints (ns : List Int) : nl (dI ns) = 1 := by show nls _ + 1 = 1; rw [nls_ints]

/-- what spoils a tree: the tree is changed in place, and a count -/
def spSpoil (n : Nat) : Sp := fun vs H Q _ => ∃ (v : V) (l : Addr) (d : D) (k : Int) (S : List Addr), vs = [v, .ref l] ∧ Rep H S v d ∧ S.Nodup ∧ l ∉ S ∧ H l = some (.lst [.int k]) ∧ d.depth < n ∧ wd d ≤ 10000000 ∧
  ∀ H', (∀ a o, H a = some o → a ∉ S → a ≠ l → H' a = some o) → Rep H' S v (spD d k).1 → H' l = some (.lst [.int (spD d k).2]) → Q .non H'
/-- what is given a tree of its own, and leaves all else -/
def spEat : Sp := fun vs H Q _ => ∃ (v : V) (d : D) (S : List Addr), vs = [v] ∧ Rep H S v d ∧ S.Nodup ∧ Sh 7 1000000 d ∧ nl d ≤ 10000 ∧
  ∀ r H', r = V.bl true → (∀ a o, H a = some o → a ∉ S → H' a = some o) → Q r H'
theorem St.eat {H0 H : Hp} {M : Option Addr} {pu : Option (Addr × Int)} {Fz Ow : List (V × D)} {Tp : List (Addr × List V)} {v : V} {d : D} (h : St H0 M pu Fz ((v, d) :: Ow) Tp H) :
    ∃ S, Rep H S v d ∧ S.Nodup ∧ ∀ H', (∀ a o, H a = some o → a ∉ S → H' a = some o) → St H0 M pu Fz Ow Tp H' := by
  obtain ⟨Z, S, h1, h2, h3, h4, h5, h6, h7, h8⟩ := h
  cases h3 with
  | @cons S1 S2 _ _ _ _ r1 r2 =>
    have nd := List.nodup_append.mp h4
    refine ⟨S1, r1, nd.1, fun H' fr => ?_⟩
    have nt : ∀ t vs, H t = some (.tup vs) → H' t = some (.tup vs) := fun t vs e => fr t _ e fun z => by
      obtain ⟨xs, e2⟩ := Rep.dom _ _ _ r1 t z
      rw [e] at e2
      cases e2
    have nz : ∀ a, Z a → a ∉ S1 := fun a z m => (h5 a (List.mem_append_left _ m)).1 z
    refine ⟨Z, S2, fun a o e m => ⟨(h1 a o e m).1, fr a o (h1 a o e m).2 (nz a (h1 a o e m).1)⟩, fun x m => ?_, ?_, nd.2.1, fun a m => h5 a (List.mem_append_right _ m), fun x m => nt _ _ (h6 x m), fun p b e => ⟨?_, (h7 p b e).2.1, fun m => (h7 p b e).2.2 (List.mem_append_right _ m)⟩, fun a z => ?_⟩
    · obtain ⟨T, r, z⟩ := h2 x m
      exact ⟨T, Rep.mono nt _ _ _ r fun a q o e => fr a o e (nz a (z a q)), z⟩
    · exact Reps.mono nt _ _ _ r2 fun a q o e => fr a o e fun m => nd.2.2 a m a q rfl
    · exact (h7 p b e).1.mono fun o e2 => fr p o e2 fun m => (h7 p b e).2.2 (List.mem_append_left _ m)
    · obtain ⟨o, e⟩ := h8 a z
      refine ⟨o, fr a o e fun m => ?_⟩
      rcases z with z | z
      · exact nz a z m
      · exact (h5 a (List.mem_append_left _ m)).2 z.symm
/-- the call of one that eats -/
theorem St.callE {H0 H : Hp} {M : Option Addr} {pu : Option (Addr × Int)} {Fz Ow : List (V × D)} {Tp : List (Addr × List V)} {v : V} {d : D} {Q : VK} (h : St H0 M pu Fz ((v, d) :: Ow) Tp H) (sh : Sh 7 1000000 d) (hn : nl d ≤ 10000) (q : ∀ r H', r = V.bl true → St H0 M pu Fz Ow Tp H' → Q r H') : spEat ([v] ++ []) H Q E0 := by
  obtain ⟨S, r, nd, k⟩ := h.eat
  exact ⟨v, d, S, rfl, r, nd, sh, hn, fun r H' e fr => q r H' e (k H' fr)⟩
/-- the items up to i are spoiled -/
def SpI (H : Hp) (l : Addr) (k : Int) (S : List Addr) (vs : List V) (ds : List D) (i : Nat) (H1 : Hp) : Prop :=
  ∃ S1 S2, S = S1 ++ S2 ∧ Reps H1 S1 (vs.take i) (spDs (ds.take i) k).1 ∧ Reps H1 S2 (vs.drop i) (ds.drop i) ∧ H1 l = some (.lst [.int (spDs (ds.take i) k).2]) ∧ ∀ b o, H b = some o → b ∉ S → b ≠ l → H1 b = some o
theorem SpI.zero {H H1 : Hp} {l : Addr} {k : Int} {S : List Addr} {vs : List V} {ds : List D} (r : Reps H1 S vs ds) (hl : H1 l = some (.lst [.int k])) (fr : ∀ b o, H b = some o → b ∉ S → b ≠ l → H1 b = some o) : SpI H l k S vs ds 0 H1 :=
  ⟨[], S, rfl, .nil, r, hl, fr⟩
theorem SpI.fin {H H1 : Hp} {l : Addr} {k : Int} {S : List Addr} {vs : List V} {ds : List D} (h : SpI H l k S vs ds vs.length H1) (e : vs.length = ds.length) : Reps H1 S vs (spDs ds k).1 ∧ H1 l = some (.lst [.int (spDs ds k).2]) ∧ ∀ b o, H b = some o → b ∉ S → b ≠ l → H1 b = some o := by
  obtain ⟨S1, S2, rfl, h1, h2, h3, h4⟩ := h
  rw [List.take_length, e, List.take_length] at h1
  rw [e, List.take_length] at h3
  rw [List.drop_length, e, List.drop_length] at h2
  cases h2
  rw [List.append_nil] at h4 ⊢
  exact ⟨h1, h3, h4⟩
theorem SpI.step {H H1 : Hp} {l : Addr} {k : Int} {S : List Addr} {vs : List V} {ds : List D} {i : Nat} {x : V} {di : D} (nd : S.Nodup) (nl : l ∉ S) (h : SpI H l k S vs ds i H1) (hx : vs[i]? = some x) (hd : ds[i]? = some di) :
    ∃ Sx, Rep H1 Sx x di ∧ Sx.Nodup ∧ l ∉ Sx ∧ H1 l = some (.lst [.int (spDs (ds.take i) k).2]) ∧ ∀ H2, (∀ b o, H1 b = some o → b ∉ Sx → b ≠ l → H2 b = some o) → Rep H2 Sx x (spD di (spDs (ds.take i) k).2).1 → H2 l = some (.lst [.int (spD di (spDs (ds.take i) k).2).2]) → SpI H l k S vs ds (i + 1) H2 := by
  obtain ⟨S1, S2, rfl, h1, h2, h3, h4⟩ := h
  have hi := (List.getElem?_eq_some_iff.mp hx).1
  have ex := (List.getElem?_eq_some_iff.mp hx).2
  have hj := (List.getElem?_eq_some_iff.mp hd).1
  have ed := (List.getElem?_eq_some_iff.mp hd).2
  rw [List.drop_eq_getElem_cons hi, List.drop_eq_getElem_cons hj, ex, ed] at h2
  cases h2 with
  | @cons Sx S3 _ _ _ _ r1 r2 =>
    have n1 := List.nodup_append.mp nd
    have n2 := List.nodup_append.mp n1.2.1
    refine ⟨Sx, r1, n2.1, fun m => nl (List.mem_append_right _ (List.mem_append_left _ m)), h3, fun H2 fr rx hl2 => ?_⟩
    have nt : ∀ t xs, H1 t = some (.tup xs) → H2 t = some (.tup xs) := fun t xs e => fr t _ e (fun m => by
      obtain ⟨ys, e2⟩ := Rep.dom _ _ _ r1 t m
      rw [e] at e2
      cases e2) (fun z => by
      rw [z, h3] at e
      cases e)
    refine ⟨S1 ++ Sx, S3, by rw [List.append_assoc], ?_, ?_, ?_, fun b o e m1 m2 => fr b o (h4 b o e m1 m2) (fun m => m1 (List.mem_append_right _ (List.mem_append_left _ m))) m2⟩
    · have q := Reps.append (Reps.mono nt _ _ _ h1 fun a m o e => fr a o e (fun m2 => n1.2.2 a m a (List.mem_append_left _ m2) rfl) (fun z => nl (z ▸ List.mem_append_left _ m))) (Reps.cons rx .nil)
      rw [List.append_nil] at q
      have e1 : vs.take (i + 1) = vs.take i ++ [x] := by rw [List.take_add_one, hx]; rfl
      have e2 : ds.take (i + 1) = ds.take i ++ [di] := by rw [List.take_add_one, hd]; rfl
      rw [e1, e2, spDs_snoc]
      exact q
    · exact Reps.mono nt _ _ _ r2 fun a m o e => fr a o e (fun m2 => n2.2.2 a m2 a m rfl) (fun z => nl (z ▸ List.mem_append_right _ (List.mem_append_right _ m)))
    · have e2 : ds.take (i + 1) = ds.take i ++ [di] := by rw [List.take_add_one, hd]; rfl
      rw [e2, spDs_snoc]
      exact hl2
/-- [x for x in range(a, b) if P(x)] -/
theorem lc_filt {tt : TT} {σ : L2.St} {H H0 : Hp} {M : Option Addr} {pu : Option (Addr × Int)} {Fz Ow : List (V × D)} {Tp : List (Addr × List V)} {Dl : Addr} {a b : Int} {j : Nat} {Qd : Hp → Prop} (P : Int → Bool)
    (hS : St H0 M pu Fz Ow Tp H) (hD : H Dl = none) (hj : (σ[j]?).isSome = true) (len : b - a ≤ 1000000)
    (step : ∀ x, a ≤ x → x < b → ∀ gs H1, St H0 M pu Fz ((.ref Dl, dI gs) :: Ow) Tp H1 → ∀ R : Bool → Hp → Prop, R (P x) H1 → tt ((wipe σ [j]).set j (some (.int x))) H1 R)
    (k : ∀ H', St H0 M pu Fz ((.ref Dl, dI ((rg a b).filter P)) :: Ow) Tp H' → Qd H') :
    ∃ W : Nat → Nat → Hp → Prop, (∃ m, W 0 m (upd H Dl (.lst []))) ∧ ∀ i m H, W i m H →
      ((Itr a (b - a).toNat).stop i H ∧ Qd H) ∨ ((Itr a (b - a).toNat).go i H ∧ ∃ Nx : Hp → Prop, (∀ H', Nx H' → ∃ m', m' < m ∧ W (i + 1) m' H') ∧ ∀ x H', (Itr a (b - a).toNat).yld i H x H' → gName j x (wipe σ [j]) H' fun σ2 H2 => wipe σ2 [j] = wipe σ [j] ∧ tt σ2 H2 fun b H3 =>
        if b = true then tVar j σ2 H3 fun y H4 => ∃ acc, H4 Dl = some (.lst acc) ∧ acc.length < sizeLine ∧ Nx (upd H4 Dl (.lst (acc ++ [y]))) else Nx H3) := by
  have hjl : j < σ.length := by
    rcases Nat.lt_or_ge j σ.length with h | h
    · exact h
    · rw [List.getElem?_eq_none h] at hj
      cases hj
  refine lc_range (fun i H1 => St H0 M pu Fz ((.ref Dl, dI (((List.range i).map fun i => a + (i : Nat)).filter P)) :: Ow) Tp H1) (by simpa using hS.mkInts (ns := []) hD) (fun i H1 hi h => ?_) (fun H1 h => k _ h)
  refine ⟨?_, ?_⟩
  · show ((σ.set j none).set j _).set j none = σ.set j none
    rw [List.set_set, List.set_set]
  · refine step (a + i) (by omega) (by omega) _ _ h _ ?_
    have er : ((List.range (i + 1)).map fun i => a + (i : Nat)) = ((List.range i).map fun i => a + (i : Nat)) ++ [a + (i : Int)] := by rw [List.range_succ, List.map_append, List.map_singleton]
    cases hP : P (a + i) with
    | true =>
      rw [if_pos rfl]
      obtain ⟨hD2, kp⟩ := h.putInts
      refine ⟨.int (a + i), ?_, _, hD2, szlt ?_, ?_⟩
      · show ((σ.set j none).set j _)[j]? = _
        rw [List.set_set, List.getElem?_set_self hjl]
      · rw [ints_len]
        have := List.length_filter_le P ((List.range i).map fun i => a + (i : Nat))
        rw [List.length_map, List.length_range] at this
        omega
      · have h4 := kp (((List.range i).map fun i => a + (i : Nat)).filter P ++ [a + (i : Int)])
        rw [er, List.filter_append]
        simpa [hP] using h4
    | false =>
      rw [if_neg (by simp), er, List.filter_append]
      simpa [hP] using h
theorem Rdb.up {Fz Ow : List (V × D)} {Tp : List (Addr × List V)} {v : V} {d : D} (x : V × D) (r : Rdb Fz Ow Tp v d) : Rdb Fz (x :: Ow) Tp v d := by
  induction r with
  | non => exact .non
  | bl b => exact .bl b
  | int i => exact .int i
  | str x => exact .str x
  | fz m => exact .fz m
  | ow m => exact .ow (List.mem_cons_of_mem _ m)
  | tp0 m => exact .tp0 m
  | tp1 m _ h1 => exact .tp1 m h1
  | tp2 m _ _ h1 h2 => exact .tp2 m h1 h2
  | tp3 m _ _ _ h1 h2 h3 => exact .tp3 m h1 h2 h3
theorem Rdb.mono {Fz Fz' Ow Ow' : List (V × D)} {Tp Tp' : List (Addr × List V)} {v : V} {d : D} (hF : ∀ x ∈ Fz, x ∈ Fz') (hO : ∀ x ∈ Ow, x ∈ Ow') (hT : ∀ x ∈ Tp, x ∈ Tp') (r : Rdb Fz Ow Tp v d) : Rdb Fz' Ow' Tp' v d := by
  induction r with
  | non => exact .non
  | bl b => exact .bl b
  | int i => exact .int i
  | str x => exact .str x
  | fz m => exact .fz (hF _ m)
  | ow m => exact .ow (hO _ m)
  | tp0 m => exact .tp0 (hT _ m)
  | tp1 m _ h1 => exact .tp1 (hT _ m) h1
  | tp2 m _ _ h1 h2 => exact .tp2 (hT _ m) h1 h2
  | tp3 m _ _ _ h1 h2 h3 => exact .tp3 (hT _ m) h1 h2 h3
theorem Rdb.upT {Fz Ow : List (V × D)} {Tp : List (Addr × List V)} {v : V} {d : D} {x : Addr × List V} (r : Rdb Fz Ow Tp v d) : Rdb Fz Ow (x :: Tp) v d := r.mono (fun _ h => h) (fun _ h => h) fun _ h => List.mem_cons_of_mem _ h
theorem Rdb.upF {Fz Ow : List (V × D)} {Tp : List (Addr × List V)} {v : V} {d : D} {x : V × D} (r : Rdb Fz Ow Tp v d) : Rdb (x :: Fz) Ow Tp v d := r.mono (fun _ h => List.mem_cons_of_mem _ h) (fun _ h => h) fun _ h => h
theorem Rdb.upO {Fz Ow : List (V × D)} {Tp : List (Addr × List V)} {v : V} {d : D} {x : V × D} (r : Rdb Fz Ow Tp v d) : Rdb Fz (x :: Ow) Tp v d := r.up x
/-- a call with arguments that stand in the heap somehow -/
theorem St.callX {H0 H : Hp} {M : Option Addr} {pu : Option (Addr × Int)} {Fz Ow : List (V × D)} {Tp : List (Addr × List V)} {Q : VK} {W : Tw} {vs : List V} {ds : List D} (h : St H0 M pu Fz Ow Tp H) (r : ∃ T, Reps H T vs ds) (w : W ds fun d => ∀ v H', St H0 M pu Fz ((v, d) :: Ow) Tp H' → Q v H') : spT W (vs ++ []) H Q E0 := by
  obtain ⟨T, r⟩ := r
  rw [List.append_nil]
  exact ⟨T, ds, _, r, w, fun d v H' k s n => k v H' (h.new s n)⟩
/-- a fresh list of two things that are readable -/
theorem St.two {H0 H : Hp} {M : Option Addr} {pu : Option (Addr × Int)} {Fz Ow : List (V × D)} {Tp : List (Addr × List V)} {v1 v2 : V} {d1 d2 : D} {L : Addr} (h : St H0 M pu Fz Ow Tp H) (hL : H L = Option.none) (r1 : Rdb Fz Ow Tp v1 d1) (r2 : Rdb Fz Ow Tp v2 d2) :
    St H0 M pu Fz Ow Tp (upd H L (.lst [v1, v2])) ∧ ∃ T, Rep (upd H L (.lst [v1, v2])) T (.ref L) (.list [d1, d2]) := by
  have h1 := h.same (same_upd (o := .lst [v1, v2]) hL)
  obtain ⟨T1, p1, _⟩ := h1.rd r1
  obtain ⟨T2, p2, _⟩ := h1.rd r2
  exact ⟨h1, _, .lst upd_same (.cons p1 (.cons p2 .nil))⟩
end G
/-! GV: a layer of values: what stands in the names, told by trees alone; what is owned, what is frozen. -/
namespace G
open PySem PySem.Spec PyProof.Rows L2

abbrev Reg := Addr → Prop
abbrev noReg : Reg := fun _ => False
/-! ### trees, each list owned or in a region -/
mutual
inductive Tr (H : Hp) (Z : Reg) : List Addr → V → D → Prop
  | non : Tr H Z [] .non .none
  | bl (b : Bool) : Tr H Z [] (.bl b) (.bool b)
  | int (i : Int) : Tr H Z [] (.int i) (.int i)
  | str (x : Str) : Tr H Z [] (.str x) (.str x)
  | lst {a : Addr} {vs : List V} {S : List Addr} {ds : List D} : H a = some (.lst vs) → Trs H Z S vs ds → Tr H Z (a :: S) (.ref a) (.list ds)
  | lstZ {a : Addr} {vs : List V} {ds : List D} : Z a → H a = some (.lst vs) → Trs H Z [] vs ds → Tr H Z [] (.ref a) (.list ds)
  | tup {a : Addr} {vs : List V} {S : List Addr} {ds : List D} : H a = some (.tup vs) → Trs H Z S vs ds → Tr H Z S (.ref a) (.tuple ds)
inductive Trs (H : Hp) (Z : Reg) : List Addr → List V → List D → Prop
  | nil : Trs H Z [] [] []
  | cons {S T : List Addr} {v : V} {vs : List V} {d : D} {ds : List D} : Tr H Z S v d → Trs H Z T vs ds → Trs H Z (S ++ T) (v :: vs) (d :: ds)
end

section
variable {H H' : Hp} {Z Z' : Reg}
mutual
theorem Tr.mono (ht : ∀ t vs, H t = some (.tup vs) → H' t = some (.tup vs)) (hz : ∀ a, Z a → Z' a) (kz : ∀ a, Z a → ∀ o, H a = some o → H' a = some o) : ∀ (d : D) (S : List Addr) (v : V), Tr H Z S v d → (∀ a ∈ S, ∀ o, H a = some o → H' a = some o) → Tr H' Z' S v d
  | .none, _, _, h, _ => by cases h; exact .non
  | .bool b, _, _, h, _ => by cases h; exact .bl b
  | .int i, _, _, h, _ => by cases h; exact .int i
  | .str x, _, _, h, _ => by cases h; exact .str x
  | .list ds, _, _, h, k => by
    cases h with
    | lst h1 h2 => exact .lst (k _ List.mem_cons_self _ h1) (Trs.mono ht hz kz ds _ _ h2 fun a ha => k a (List.mem_cons_of_mem _ ha))
    | lstZ h0 h1 h2 => exact .lstZ (hz _ h0) (kz _ h0 _ h1) (Trs.mono ht hz kz ds _ _ h2 fun a ha => nomatch ha)
  | .tuple ds, _, _, h, k => by
    cases h with
    | tup h1 h2 => exact .tup (ht _ _ h1) (Trs.mono ht hz kz ds _ _ h2 k)
  | .dict _, _, _, h, _ => by cases h
theorem Trs.mono (ht : ∀ t vs, H t = some (.tup vs) → H' t = some (.tup vs)) (hz : ∀ a, Z a → Z' a) (kz : ∀ a, Z a → ∀ o, H a = some o → H' a = some o) : ∀ (ds : List D) (S : List Addr) (vs : List V), Trs H Z S vs ds → (∀ a ∈ S, ∀ o, H a = some o → H' a = some o) → Trs H' Z' S vs ds
  | [], _, _, h, _ => by cases h; exact .nil
  | d :: ds, _, _, h, k => by
    cases h with
    | cons h1 h2 => exact .cons (Tr.mono ht hz kz d _ _ h1 fun a ha => k a (List.mem_append_left _ ha)) (Trs.mono ht hz kz ds _ _ h2 fun a ha => k a (List.mem_append_right _ ha))
end
mutual
/-- all is in a greater region -/
theorem Tr.freeze (hz : ∀ a, Z a → Z' a) : ∀ (d : D) (S : List Addr) (v : V), Tr H Z S v d → (∀ a ∈ S, Z' a) → Tr H Z' [] v d
  | .none, _, _, h, _ => by cases h; exact .non
  | .bool b, _, _, h, _ => by cases h; exact .bl b
  | .int i, _, _, h, _ => by cases h; exact .int i
  | .str x, _, _, h, _ => by cases h; exact .str x
  | .list ds, _, _, h, k => by
    cases h with
    | lst h1 h2 => exact .lstZ (k _ List.mem_cons_self) h1 (Trs.freeze hz ds _ _ h2 fun a ha => k a (List.mem_cons_of_mem _ ha))
    | lstZ h0 h1 h2 => exact .lstZ (hz _ h0) h1 (Trs.freeze hz ds _ _ h2 fun a ha => nomatch ha)
  | .tuple ds, _, _, h, k => by
    cases h with
    | tup h1 h2 => exact .tup h1 (Trs.freeze hz ds _ _ h2 k)
  | .dict _, _, _, h, _ => by cases h
theorem Trs.freeze (hz : ∀ a, Z a → Z' a) : ∀ (ds : List D) (S : List Addr) (vs : List V), Trs H Z S vs ds → (∀ a ∈ S, Z' a) → Trs H Z' [] vs ds
  | [], _, _, h, _ => by cases h; exact .nil
  | d :: ds, _, _, h, k => by
    cases h with
    | cons h1 h2 => exact .cons (S := []) (Tr.freeze hz d _ _ h1 fun a ha => k a (List.mem_append_left _ ha)) (Trs.freeze hz ds _ _ h2 fun a ha => k a (List.mem_append_right _ ha))
end
mutual
/-- read as a tree -/
theorem Tr.rep : ∀ (d : D) (S : List Addr) (v : V), Tr H Z S v d → ∃ T, Rep H T v d ∧ ∀ a ∈ T, a ∈ S ∨ Z a
  | .none, _, _, h => by cases h; exact ⟨_, .non, fun _ z => nomatch z⟩
  | .bool b, _, _, h => by cases h; exact ⟨_, .bl b, fun _ z => nomatch z⟩
  | .int i, _, _, h => by cases h; exact ⟨_, .int i, fun _ z => nomatch z⟩
  | .str x, _, _, h => by cases h; exact ⟨_, .str x, fun _ z => nomatch z⟩
  | .list ds, _, _, h => by
    cases h with
    | lst h1 h2 =>
      obtain ⟨T, r, k⟩ := Trs.rep ds _ _ h2
      refine ⟨_, .lst h1 r, fun a m => ?_⟩
      rcases List.mem_cons.mp m with rfl | m
      · exact .inl List.mem_cons_self
      · exact (k a m).imp (List.mem_cons_of_mem _) id
    | lstZ h0 h1 h2 =>
      obtain ⟨T, r, k⟩ := Trs.rep ds _ _ h2
      refine ⟨_, .lst h1 r, fun a m => ?_⟩
      rcases List.mem_cons.mp m with rfl | m
      · exact .inr h0
      · exact k a m
  | .tuple ds, _, _, h => by
    cases h with
    | tup h1 h2 =>
      obtain ⟨T, r, k⟩ := Trs.rep ds _ _ h2
      exact ⟨_, .tup h1 r, k⟩
  | .dict _, _, _, h => by cases h
theorem Trs.rep : ∀ (ds : List D) (S : List Addr) (vs : List V), Trs H Z S vs ds → ∃ T, Reps H T vs ds ∧ ∀ a ∈ T, a ∈ S ∨ Z a
  | [], _, _, h => by cases h; exact ⟨_, .nil, fun _ z => nomatch z⟩
  | d :: ds, _, _, h => by
    cases h with
    | cons h1 h2 =>
      obtain ⟨T1, r1, k1⟩ := Tr.rep d _ _ h1
      obtain ⟨T2, r2, k2⟩ := Trs.rep ds _ _ h2
      refine ⟨_, .cons r1 r2, fun a m => ?_⟩
      rcases List.mem_append.mp m with m | m
      · exact (k1 a m).imp (List.mem_append_left _) id
      · exact (k2 a m).imp (List.mem_append_right _) id
end
mutual
/-- a tree that is owned as a whole -/
theorem Tr.repO : ∀ (d : D) (S : List Addr) (v : V), Tr H noReg S v d → Rep H S v d
  | .none, _, _, h => by cases h; exact .non
  | .bool b, _, _, h => by cases h; exact .bl b
  | .int i, _, _, h => by cases h; exact .int i
  | .str x, _, _, h => by cases h; exact .str x
  | .list ds, _, _, h => by
    cases h with
    | lst h1 h2 => exact .lst h1 (Trs.repO ds _ _ h2)
    | lstZ h0 h1 h2 => exact h0.elim
  | .tuple ds, _, _, h => by
    cases h with
    | tup h1 h2 => exact .tup h1 (Trs.repO ds _ _ h2)
  | .dict _, _, _, h => by cases h
theorem Trs.repO : ∀ (ds : List D) (S : List Addr) (vs : List V), Trs H noReg S vs ds → Reps H S vs ds
  | [], _, _, h => by cases h; exact .nil
  | d :: ds, _, _, h => by
    cases h with
    | cons h1 h2 => exact .cons (Tr.repO d _ _ h1) (Trs.repO ds _ _ h2)
end
mutual
theorem Rep.tr : ∀ (d : D) (S : List Addr) (v : V), Rep H S v d → Tr H Z S v d
  | .none, _, _, h => by cases h; exact .non
  | .bool b, _, _, h => by cases h; exact .bl b
  | .int i, _, _, h => by cases h; exact .int i
  | .str x, _, _, h => by cases h; exact .str x
  | .list ds, _, _, h => by
    cases h with
    | lst h1 h2 => exact .lst h1 (Reps.tr ds _ _ h2)
  | .tuple ds, _, _, h => by
    cases h with
    | tup h1 h2 => exact .tup h1 (Reps.tr ds _ _ h2)
  | .dict _, _, _, h => by cases h
theorem Reps.tr : ∀ (ds : List D) (S : List Addr) (vs : List V), Reps H S vs ds → Trs H Z S vs ds
  | [], _, _, h => by cases h; exact .nil
  | d :: ds, _, _, h => by
    cases h with
    | cons h1 h2 => exact .cons (Rep.tr d _ _ h1) (Reps.tr ds _ _ h2)
end
mutual
theorem Tr.dom : ∀ (d : D) (S : List Addr) (v : V), Tr H Z S v d → ∀ a ∈ S, ∃ vs, H a = some (.lst vs)
  | .none, _, _, h => by cases h; intro a z; cases z
  | .bool b, _, _, h => by cases h; intro a z; cases z
  | .int i, _, _, h => by cases h; intro a z; cases z
  | .str x, _, _, h => by cases h; intro a z; cases z
  | .list ds, _, _, h => by
    cases h with
    | lst h1 h2 =>
      intro a z
      rcases List.mem_cons.mp z with rfl | z
      · exact ⟨_, h1⟩
      · exact Trs.dom ds _ _ h2 a z
    | lstZ _ _ _ => intro a z; cases z
  | .tuple ds, _, _, h => by
    cases h with
    | tup h1 h2 => exact Trs.dom ds _ _ h2
  | .dict _, _, _, h => by cases h
theorem Trs.dom : ∀ (ds : List D) (S : List Addr) (vs : List V), Trs H Z S vs ds → ∀ a ∈ S, ∃ xs, H a = some (.lst xs)
  | [], _, _, h => by cases h; intro a z; cases z
  | d :: ds, _, _, h => by
    cases h with
    | cons h1 h2 =>
      intro a z
      rcases List.mem_append.mp z with z | z
      · exact Tr.dom d _ _ h1 a z
      · exact Trs.dom ds _ _ h2 a z
end
mutual
theorem Tr.nolist : ∀ (d : D) (S : List Addr) (v : V), Tr H Z S v d → G.nolist d = true → S = [] ∧ Tr H Z' [] v d
  | .none, _, _, h, _ => by cases h; exact ⟨rfl, .non⟩
  | .bool b, _, _, h, _ => by cases h; exact ⟨rfl, .bl b⟩
  | .int i, _, _, h, _ => by cases h; exact ⟨rfl, .int i⟩
  | .str x, _, _, h, _ => by cases h; exact ⟨rfl, .str x⟩
  | .list ds, _, _, _, e => by simp [G.nolist] at e
  | .tuple ds, _, _, h, e => by
    cases h with
    | tup h1 h2 =>
      have := Trs.nolist ds _ _ h2 (by simpa [G.nolist] using e)
      exact ⟨this.1, .tup h1 this.2⟩
  | .dict _, _, _, h, _ => by cases h
theorem Trs.nolist : ∀ (ds : List D) (S : List Addr) (vs : List V), Trs H Z S vs ds → nolists ds = true → S = [] ∧ Trs H Z' [] vs ds
  | [], _, _, h, _ => by cases h; exact ⟨rfl, .nil⟩
  | d :: ds, _, _, h, e => by
    cases h with
    | cons h1 h2 =>
      rw [nolists, Bool.and_eq_true] at e
      have a := Tr.nolist d _ _ h1 e.1
      have b := Trs.nolist ds _ _ h2 e.2
      obtain ⟨rfl, a⟩ := a
      obtain ⟨rfl, b⟩ := b
      exact ⟨rfl, .cons (S := []) a b⟩
end
theorem Trs.length : ∀ {ds : List D} {S : List Addr} {vs : List V}, Trs H Z S vs ds → vs.length = ds.length
  | [], _, _, h => by cases h; rfl
  | d :: ds, _, _, h => by
    cases h with
    | cons h1 h2 => simp [Trs.length h2]
theorem Trs.append : ∀ {ds es : List D} {S T : List Addr} {vs us : List V}, Trs H Z S vs ds → Trs H Z T us es → Trs H Z (S ++ T) (vs ++ us) (ds ++ es)
  | [], _, _, _, _, _, h, k => by cases h; exact k
  | d :: ds, _, _, _, _, _, h, k => by
    cases h with
    | cons h1 h2 =>
      have q := Trs.cons h1 (Trs.append h2 k)
      rw [← List.append_assoc] at q
      exact q
/-- one item, and the others -/
theorem Trs.at : ∀ {ds : List D} {S : List Addr} {vs : List V} {i : Nat} {d : D}, Trs H Z S vs ds → ds[i]? = some d → ∃ v T R, vs[i]? = some v ∧ Tr H Z T v d ∧ S.Perm (T ++ R) ∧ (∃ R', Trs H Z R' (vs.eraseIdx i) (ds.eraseIdx i) ∧ R'.Perm R) ∧
    ∀ (H' : Hp) T' v' d', (∀ t vs, H t = some (.tup vs) → H' t = some (.tup vs)) → (∀ a, Z a → ∀ o, H a = some o → H' a = some o) → (∀ a ∈ R, ∀ o, H a = some o → H' a = some o) → Tr H' Z T' v' d' → ∃ S', Trs H' Z S' (vs.set i v') (ds.set i d') ∧ S'.Perm (T' ++ R)
  | [], _, _, _, _, _, e => by simp at e
  | d :: ds, _, _, 0, _, h, e => by
    cases h with
    | @cons S T _ _ _ _ h1 h2 =>
      simp at e
      subst e
      refine ⟨_, _, _, rfl, h1, .refl _, ⟨_, h2, .refl _⟩, fun H' T' v' d' ht kz kr t => ⟨_, .cons t (Trs.mono ht (fun _ z => z) kz _ _ _ h2 kr), .refl _⟩⟩
  | d :: ds, _, _, i + 1, _, h, e => by
    cases h with
    | @cons S T _ _ _ _ h1 h2 =>
      obtain ⟨v, T1, R, e1, t, pm, ⟨R', q1, q2⟩, k⟩ := Trs.at (i := i) h2 (by simpa using e)
      have pm2 : (S ++ T).Perm (T1 ++ (S ++ R)) := by
        refine (List.Perm.append_left S pm).trans ?_
        rw [← List.append_assoc, ← List.append_assoc]
        exact List.Perm.append_right R List.perm_append_comm
      refine ⟨v, T1, S ++ R, by simpa using e1, t, pm2, ⟨_, .cons h1 q1, List.Perm.append_left _ q2⟩, fun H' T' v' d' ht kz kr t' => ?_⟩
      obtain ⟨S', q, p'⟩ := k H' T' v' d' ht kz (fun a m => kr a (List.mem_append_right _ m)) t'
      refine ⟨_, .cons (Tr.mono ht (fun _ z => z) kz _ _ _ h1 fun a m => kr a (List.mem_append_left _ m)) q, ?_⟩
      refine (List.Perm.append_left S p').trans ?_
      rw [← List.append_assoc, ← List.append_assoc]
      exact List.Perm.append_right R List.perm_append_comm
theorem Trs.get {ds : List D} {S : List Addr} {vs : List V} {i : Nat} {d : D} {v : V} (h : Trs H Z S vs ds) (e : ds[i]? = some d) (ev : vs[i]? = some v) : ∃ T R, Tr H Z T v d ∧ S.Perm (T ++ R) := by
  obtain ⟨v', T, R, e1, t, pm, _⟩ := h.at e
  rw [ev] at e1
  cases e1
  exact ⟨T, R, t, pm⟩
theorem Trs.intsR : ∀ (ns : List Int), Trs H Z [] (ns.map V.int) (ns.map PyData.int)
  | [] => .nil
  | n :: ns => .cons (S := []) (.int n) (Trs.intsR ns)
end
/-! ### what stands in a name: nothing that is known, a frozen tree, an owned one (wholly, or its own list alone), an alias of a part of a name's, the purse -/
inductive Sl where
  | jk
  | fz (d : D)
  | ow (b : Bool) (d : D)
  | al (i : Nat) (π : List Nat)
  | pu
  | io (d : D)
  | dc (m : List (Key × D))
  | dt (m : List (List Key × D))
  | sh (d : D)
  | xv (a dd : Addr) (d : D)
  | ho (ds : List D) (i : Nat)
structure VSt where
  sl : List Sl
  tm : List Sl
  n : Int
structure Cn where
  H0 : Hp
  M : Reg
  pu : Option (Addr × Int)
  ok : ∀ p b, pu = some (p, b) → b ≤ 2 ^ 100
  iov : Option V := none
  Fr : Reg := noReg
abbrev Cn.tz (C : Cn) (Z : Reg) : Reg := fun a => Z a ∨ C.Fr a

/-- what stands in a dict: frozen trees -/
inductive DVs {κ : Type} (H : Hp) (Z : Reg) : List (κ × V) → List (κ × D) → Prop
  | nil : DVs H Z [] []
  | cons {k : κ} {v : V} {d : D} {kvs : List (κ × V)} {m : List (κ × D)} : Tr H Z [] v d → DVs H Z kvs m → DVs H Z ((k, v) :: kvs) ((k, d) :: m)
theorem DVs.mono {κ : Type} {H H' : Hp} {Z Z' : Reg} (ht : ∀ t vs, H t = some (.tup vs) → H' t = some (.tup vs)) (hz : ∀ a, Z a → Z' a) (kz : ∀ a, Z a → ∀ o, H a = some o → H' a = some o) {kvs : List (κ × V)} {m : List (κ × D)} (h : DVs H Z kvs m) : DVs H' Z' kvs m := by
  induction h with
  | nil => exact .nil
  | cons t _ ih => exact .cons (Tr.mono ht hz kz _ _ _ t fun a m => nomatch m) ih
inductive Ent (C : Cn) (Z : Reg) (H : Hp) : List Addr → Option V → Sl → Prop
  | jk (v : Option V) : Ent C Z H [] v .jk
  | fz {v : V} {d : D} : Tr H Z [] v d → Ent C Z H [] (some v) (.fz d)
  | ow {v : V} {d : D} {S : List Addr} : Tr H noReg S v d → Ent C Z H S (some v) (.ow true d)
  | sp {a : Addr} {vs : List V} {ds : List D} {S : List Addr} : H a = some (.lst vs) → Trs H Z S vs ds → Ent C Z H (a :: S) (some (.ref a)) (.ow false (.list ds))
  | al (v : V) (i : Nat) (π : List Nat) : Ent C Z H [] (some v) (.al i π)
  | pu {p : Addr} {b : Int} : C.pu = some (p, b) → Ent C Z H [] (some (.ref p)) .pu
  | io {v : V} {d : D} {S : List Addr} : Tr H noReg S v d → C.iov = some v → Ent C Z H S (some v) (.io d)
  | dc {a : Addr} {kvs : List (Key × V)} {m : List (Key × D)} : H a = some (.dK kvs) → DVs H Z kvs m → Ent C Z H [a] (some (.ref a)) (.dc m)
  | dt {a : Addr} {kvs : List (List Key × V)} {m : List (List Key × D)} : H a = some (.dT kvs) → DVs H Z kvs m → Ent C Z H [a] (some (.ref a)) (.dt m)
  | sh {a : Addr} {v : V} {S : List Addr} {d : D} : H a = some (.tup [v, v, v]) → Tr H noReg S v d → Ent C Z H S (some (.ref a)) (.sh d)
  | xv {a dd : Addr} {w : V} {S : List Addr} {d : D} : H dd = some (.xd [("value", w)]) → Tr H noReg S w d → Ent C Z H (dd :: S) (some (.ref a)) (.xv a dd d)
  | ho {a : Addr} {vs : List V} {S : List Addr} {ds : List D} {i : Nat} : H a = some (.lst vs) → vs.length = ds.length → Trs H noReg S (vs.eraseIdx i) (ds.eraseIdx i) → Ent C Z H (a :: S) (some (.ref a)) (.ho ds i)
inductive Ents (C : Cn) (Z : Reg) (H : Hp) : List Addr → List (Option V) → List Sl → Prop
  | nil : Ents C Z H [] [] []
  | cons {S T : List Addr} {v : Option V} {vs : List (Option V)} {s : Sl} {ss : List Sl} : Ent C Z H S v s → Ents C Z H T vs ss → Ents C Z H (S ++ T) (v :: vs) (s :: ss)

section
variable {C : Cn} {Z Z' : Reg} {H H' : Hp}
theorem Ent.mono {S : List Addr} {v : Option V} {s : Sl} (h : Ent C Z H S v s) (ht : ∀ t vs, H t = some (.tup vs) → H' t = some (.tup vs)) (hz : ∀ a, Z a → Z' a) (kz : ∀ a, Z a → ∀ o, H a = some o → H' a = some o) (ks : ∀ a ∈ S, ∀ o, H a = some o → H' a = some o) : Ent C Z' H' S v s := by
  cases h with
  | jk v => exact .jk v
  | fz t => exact .fz (Tr.mono ht hz kz _ _ _ t ks)
  | ow t => exact .ow (Tr.mono ht (fun _ z => z) (fun _ z => z.elim) _ _ _ t ks)
  | sp e t => exact .sp (ks _ List.mem_cons_self _ e) (Trs.mono ht hz kz _ _ _ t fun a m => ks a (List.mem_cons_of_mem _ m))
  | al v i π => exact .al v i π
  | pu e => exact .pu e
  | io t e => exact .io (Tr.mono ht (fun _ z => z) (fun _ z => z.elim) _ _ _ t ks) e
  | dc e t => exact .dc (ks _ List.mem_cons_self _ e) (t.mono ht hz kz)
  | dt e t => exact .dt (ks _ List.mem_cons_self _ e) (t.mono ht hz kz)
  | sh e t => exact .sh (ht _ _ e) (Tr.mono ht (fun _ z => z) (fun _ z => z.elim) _ _ _ t ks)
  | xv e t => exact .xv (ks _ List.mem_cons_self _ e) (Tr.mono ht (fun _ z => z) (fun _ z => z.elim) _ _ _ t fun a m => ks a (List.mem_cons_of_mem _ m))
  | ho e l t => exact .ho (ks _ List.mem_cons_self _ e) l (Trs.mono ht (fun _ z => z) (fun _ z => z.elim) _ _ _ t fun a m => ks a (List.mem_cons_of_mem _ m))
theorem Ent.dom {S : List Addr} {v : Option V} {s : Sl} (h : Ent C Z H S v s) : ∀ a ∈ S, ∃ o, H a = some o := by
  have go : ∀ {T : List Addr}, (∀ a ∈ T, ∃ xs, H a = some (.lst xs)) → ∀ a ∈ T, ∃ o, H a = some o := fun k a m => (k a m).elim fun xs e => ⟨_, e⟩
  cases h with
  | jk v => intro a m; cases m
  | fz t => exact go (Tr.dom _ _ _ t)
  | ow t => exact go (Tr.dom _ _ _ t)
  | sp e t =>
    intro a m
    rcases List.mem_cons.mp m with rfl | m
    · exact ⟨_, e⟩
    · exact go (Trs.dom _ _ _ t) a m
  | al v i π => intro a m; cases m
  | pu e => intro a m; cases m
  | io t _ => exact go (Tr.dom _ _ _ t)
  | dc e _ => intro a m; cases List.mem_singleton.mp m; exact ⟨_, e⟩
  | dt e _ => intro a m; cases List.mem_singleton.mp m; exact ⟨_, e⟩
  | sh e t => exact go (Tr.dom _ _ _ t)
  | xv e t =>
    intro a m
    rcases List.mem_cons.mp m with rfl | m
    · exact ⟨_, e⟩
    · exact go (Tr.dom _ _ _ t) a m
  | ho e _ t =>
    intro a m
    rcases List.mem_cons.mp m with rfl | m
    · exact ⟨_, e⟩
    · exact go (Trs.dom _ _ _ t) a m
/-- its data -/
def datS : Sl → Option D
  | .fz d => some d
  | .ow _ d => some d
  | .io d => some d
  | .sh d => some (.tuple [d, d, d])
  | _ => none
theorem Ent.tr {S : List Addr} {v : Option V} {s : Sl} {d : D} (h : Ent C Z H S v s) (e : datS s = some d) : ∃ w T, v = some w ∧ Tr H Z T w d ∧ ∀ a ∈ T, a ∈ S := by
  cases h with
  | jk v => cases e
  | fz t => cases e; exact ⟨_, _, rfl, t, fun _ m => m⟩
  | ow t => cases e; exact ⟨_, _, rfl, Tr.mono (fun _ _ h => h) (fun _ z => z.elim) (fun _ z => z.elim) _ _ _ t fun _ _ _ h => h, fun _ m => m⟩
  | sp h1 t => cases e; exact ⟨_, _, rfl, .lst h1 t, fun _ m => m⟩
  | al v i π => cases e
  | pu e' => cases e
  | io t _ => cases e; exact ⟨_, _, rfl, Tr.mono (fun _ _ h => h) (fun _ z => z.elim) (fun _ z => z.elim) _ _ _ t fun _ _ _ h => h, fun _ m => m⟩
  | dc _ _ => cases e
  | dt _ _ => cases e
  | xv _ _ => cases e
  | ho _ _ _ => cases e
  | @sh a v S d h1 t =>
    cases e
    have t' : Tr H Z S v d := Tr.mono (fun _ _ h => h) (fun _ z => z.elim) (fun _ z => z.elim) _ _ _ t fun _ _ _ h => h
    refine ⟨_, _, rfl, .tup h1 (.cons t' (.cons t' (.cons t' .nil))), fun x m => ?_⟩
    simpa using m
theorem Ent.trO {S : List Addr} {v : Option V} {b : Bool} {d : D} (h : Ent C Z H S v (.ow b d)) : ∃ w, v = some w ∧ Tr H Z S w d := by
  cases h with
  | ow t => exact ⟨_, rfl, Tr.mono (fun _ _ h => h) (fun _ z => z.elim) (fun _ z => z.elim) _ _ _ t fun _ _ _ h => h⟩
  | sp h1 t => exact ⟨_, rfl, .lst h1 t⟩
theorem Ents.mono : ∀ {S : List Addr} {vs : List (Option V)} {ss : List Sl}, Ents C Z H S vs ss → (∀ t vs, H t = some (.tup vs) → H' t = some (.tup vs)) → (∀ a, Z a → Z' a) → (∀ a, Z a → ∀ o, H a = some o → H' a = some o) → (∀ a ∈ S, ∀ o, H a = some o → H' a = some o) → Ents C Z' H' S vs ss
  | _, _, _, .nil, _, _, _, _ => .nil
  | _, _, _, .cons h1 h2, ht, hz, kz, ks => .cons (h1.mono ht hz kz fun a m => ks a (List.mem_append_left _ m)) (h2.mono ht hz kz fun a m => ks a (List.mem_append_right _ m))
theorem Ents.dom : ∀ {S : List Addr} {vs : List (Option V)} {ss : List Sl}, Ents C Z H S vs ss → ∀ a ∈ S, ∃ o, H a = some o
  | _, _, _, .nil => fun a m => nomatch m
  | _, _, _, .cons h1 h2 => fun a m => (List.mem_append.mp m).elim (h1.dom a) (h2.dom a)
theorem Ents.length : ∀ {S : List Addr} {vs : List (Option V)} {ss : List Sl}, Ents C Z H S vs ss → vs.length = ss.length
  | _, _, _, .nil => rfl
  | _, _, _, .cons h1 h2 => by simp [h2.length]
/-- one of them, and the others -/
theorem Ents.at : ∀ {ss : List Sl} {S : List Addr} {vs : List (Option V)} {i : Nat} {s : Sl}, Ents C Z H S vs ss → ss[i]? = some s → ∃ v T R, vs[i]? = some v ∧ Ent C Z H T v s ∧ S.Perm (T ++ R) ∧
    ∀ (H' : Hp) (Z' : Reg) T' v' s', (∀ t vs, H t = some (.tup vs) → H' t = some (.tup vs)) → (∀ a, Z a → Z' a) → (∀ a, Z a → ∀ o, H a = some o → H' a = some o) → (∀ a ∈ R, ∀ o, H a = some o → H' a = some o) → Ent C Z' H' T' v' s' → ∃ S', Ents C Z' H' S' (vs.set i v') (ss.set i s') ∧ S'.Perm (T' ++ R)
  | [], _, _, _, _, _, e => by simp at e
  | s :: ss, _, _, 0, _, h, e => by
    cases h with
    | @cons S T _ _ _ _ h1 h2 =>
      simp at e
      subst e
      exact ⟨_, _, _, rfl, h1, .refl _, fun H' Z' T' v' s' ht hz kz kr t => ⟨_, .cons t (h2.mono ht hz kz kr), .refl _⟩⟩
  | s :: ss, _, _, i + 1, _, h, e => by
    cases h with
    | @cons S T _ _ _ _ h1 h2 =>
      obtain ⟨v, T1, R, e1, t, pm, k⟩ := Ents.at (i := i) h2 (by simpa using e)
      have pm2 : (S ++ T).Perm (T1 ++ (S ++ R)) := by
        refine (List.Perm.append_left S pm).trans ?_
        rw [← List.append_assoc, ← List.append_assoc]
        exact List.Perm.append_right R List.perm_append_comm
      refine ⟨v, T1, S ++ R, by simpa using e1, t, pm2, fun H' Z' T' v' s' ht hz kz kr t' => ?_⟩
      obtain ⟨S', q, p'⟩ := k H' Z' T' v' s' ht hz kz (fun a m => kr a (List.mem_append_right _ m)) t'
      refine ⟨_, .cons (h1.mono ht hz kz fun a m => kr a (List.mem_append_left _ m)) q, ?_⟩
      refine (List.Perm.append_left S p').trans ?_
      rw [← List.append_assoc, ← List.append_assoc]
      exact List.Perm.append_right R List.perm_append_comm
end

/-! ### parts of trees -/
def atP : D → List Nat → Option D
  | d, [] => some d
  | .list ds, k :: π => (ds[k]?).bind fun d => atP d π
  | .tuple ds, k :: π => (ds[k]?).bind fun d => atP d π
  | _, _ :: _ => none
inductive Wk (H : Hp) : V → List Nat → V → Prop
  | nil (v : V) : Wk H v [] v
  | lst {a : Addr} {vs : List V} {k : Nat} {π : List Nat} {u w : V} : H a = some (.lst vs) → vs[k]? = some u → Wk H u π w → Wk H (.ref a) (k :: π) w
  | tup {a : Addr} {vs : List V} {k : Nat} {π : List Nat} {u w : V} : H a = some (.tup vs) → vs[k]? = some u → Wk H u π w → Wk H (.ref a) (k :: π) w
section
variable {H H' : Hp} {Z : Reg}
theorem Wk.snoc {v w : V} {π : List Nat} (h : Wk H v π w) {a : Addr} {vs : List V} {k : Nat} {u : V} (e : w = .ref a) (ha : H a = some (.lst vs) ∨ H a = some (.tup vs)) (hk : vs[k]? = some u) : Wk H v (π ++ [k]) u := by
  induction h with
  | nil v =>
    subst e
    rcases ha with ha | ha
    · exact .lst ha hk (.nil _)
    · exact .tup ha hk (.nil _)
  | lst h1 h2 _ ih => exact .lst h1 h2 (ih e)
  | tup h1 h2 _ ih => exact .tup h1 h2 (ih e)
theorem atP_snoc : ∀ (π : List Nat) (d e : D) (ds : List D) (k : Nat) (x : D), atP d π = some e → (e = .list ds ∨ e = .tuple ds) → ds[k]? = some x → atP d (π ++ [k]) = some x
  | [], d, e, ds, k, x, h, he, hk => by
    simp only [atP, Option.some.injEq] at h
    subst h
    rcases he with rfl | rfl <;> simp [atP, hk]
  | j :: π, .list es, e, ds, k, x, h, he, hk => by
    simp only [atP, List.cons_append] at h ⊢
    cases q : es[j]? with
    | none => rw [q] at h; cases h
    | some y =>
      rw [q] at h
      exact atP_snoc π y e ds k x h he hk
  | j :: π, .tuple es, e, ds, k, x, h, he, hk => by
    simp only [atP, List.cons_append] at h ⊢
    cases q : es[j]? with
    | none => rw [q] at h; cases h
    | some y =>
      rw [q] at h
      exact atP_snoc π y e ds k x h he hk
  | j :: π, .none, e, ds, k, x, h, he, hk => by simp [atP] at h
  | j :: π, .bool _, e, ds, k, x, h, he, hk => by simp [atP] at h
  | j :: π, .int _, e, ds, k, x, h, he, hk => by simp [atP] at h
  | j :: π, .str _, e, ds, k, x, h, he, hk => by simp [atP] at h
  | j :: π, .dict _, e, ds, k, x, h, he, hk => by simp [atP] at h
/-- a part of a tree: it is walked to, and stays where the tree stays -/
theorem Tr.part : ∀ {π : List Nat} {d e : D} {S : List Addr} {v w : V}, Tr H Z S v d → atP d π = some e → Wk H v π w → (∃ T, Tr H Z T w e ∧ ∀ a ∈ T, a ∈ S) ∧
    ∀ H' : Hp, (∀ t vs, H t = some (.tup vs) → H' t = some (.tup vs)) → (∀ a, Z a ∨ a ∈ S → ∀ o, H a = some o → H' a = some o) → Wk H' v π w
  | [], d, e, S, v, w, h, he, hw => by
    simp only [atP, Option.some.injEq] at he
    subst he
    cases hw
    exact ⟨⟨S, h, fun _ m => m⟩, fun _ _ _ => .nil _⟩
  | k :: π, d, e, S, v, w, h, he, hw => by
    cases hw with
    | @lst a vs _ _ u _ h1 h2 h3 =>
      cases h with
      | @lst _ vs' S' ds g1 g2 =>
        rw [h1] at g1
        cases g1
        simp only [atP] at he
        cases q : ds[k]? with
        | none => rw [q] at he; cases he
        | some y =>
          rw [q] at he
          obtain ⟨T, R, t, pm⟩ := g2.get q h2
          obtain ⟨⟨T', t', s'⟩, kp⟩ := Tr.part (π := π) t he h3
          have sub : ∀ a ∈ T, a ∈ a :: S' → True := fun _ _ _ => trivial
          refine ⟨⟨T', t', fun b m => List.mem_cons_of_mem _ (pm.mem_iff.mpr (List.mem_append_left _ (s' b m)))⟩, fun H' ht kk => .lst (kk _ (.inr List.mem_cons_self) _ h1) h2 (kp H' ht fun b hb => kk b ?_)⟩
          rcases hb with hb | hb
          · exact .inl hb
          · exact .inr (List.mem_cons_of_mem _ (pm.mem_iff.mpr (List.mem_append_left _ hb)))
      | @lstZ _ vs' ds g0 g1 g2 =>
        rw [h1] at g1
        cases g1
        simp only [atP] at he
        cases q : ds[k]? with
        | none => rw [q] at he; cases he
        | some y =>
          rw [q] at he
          obtain ⟨T, R, t, pm⟩ := g2.get q h2
          obtain ⟨⟨T', t', s'⟩, kp⟩ := Tr.part (π := π) t he h3
          refine ⟨⟨T', t', fun b m => pm.mem_iff.mpr (List.mem_append_left _ (s' b m))⟩, fun H' ht kk => .lst (kk _ (.inl g0) _ h1) h2 (kp H' ht fun b hb => kk b ?_)⟩
          rcases hb with hb | hb
          · exact .inl hb
          · exact .inr (pm.mem_iff.mpr (List.mem_append_left _ hb))
      | tup g1 g2 => rw [h1] at g1; cases g1
    | @tup a vs _ _ u _ h1 h2 h3 =>
      cases h with
      | lst g1 g2 => rw [h1] at g1; cases g1
      | lstZ g0 g1 g2 => rw [h1] at g1; cases g1
      | @tup _ vs' S' ds g1 g2 =>
        rw [h1] at g1
        cases g1
        simp only [atP] at he
        cases q : ds[k]? with
        | none => rw [q] at he; cases he
        | some y =>
          rw [q] at he
          obtain ⟨T, R, t, pm⟩ := g2.get q h2
          obtain ⟨⟨T', t', s'⟩, kp⟩ := Tr.part (π := π) t he h3
          refine ⟨⟨T', t', fun b m => pm.mem_iff.mpr (List.mem_append_left _ (s' b m))⟩, fun H' ht kk => .tup (ht _ _ h1) h2 (kp H' ht fun b hb => kk b ?_)⟩
          rcases hb with hb | hb
          · exact .inl hb
          · exact .inr (pm.mem_iff.mpr (List.mem_append_left _ hb))
/-- a part exchanged -/
def setP : D → List Nat → D → D
  | _, [], x => x
  | .list ds, k :: π, x => .list (ds.set k ((ds[k]?).elim .none fun d => setP d π x))
  | .tuple ds, k :: π, x => .tuple (ds.set k ((ds[k]?).elim .none fun d => setP d π x))
  | d, _ :: _, _ => d
/-- an owned tree: the list at a part is written -/
theorem Tr.put : ∀ {π : List Nat} {d : D} {es : List D} {S : List Addr} {v w : V}, Tr H noReg S v d → atP d π = some (.list es) → Wk H v π w → ∃ a vs T R, w = .ref a ∧ H a = some (.lst vs) ∧ Trs H noReg T vs es ∧ S.Perm (a :: T ++ R) ∧
    ∀ us ds' T', (S.Nodup) → Trs (upd H a (.lst us)) noReg T' us ds' → ∃ S', Tr (upd H a (.lst us)) noReg S' v (setP d π (.list ds')) ∧ S'.Perm (a :: T' ++ R)
  | [], d, es, S, v, w, h, he, hw => by
    simp only [atP, Option.some.injEq] at he
    subst he
    cases hw
    cases h with
    | @lst a vs S' _ g1 g2 => exact ⟨a, vs, S', [], rfl, g1, g2, by simp, fun us ds' T' _ t => ⟨a :: T', .lst upd_same t, by simp⟩⟩
    | lstZ g0 _ _ => exact g0.elim
  | k :: π, d, es, S, v, w, h, he, hw => by
    cases hw with
    | @lst a vs _ _ u _ h1 h2 h3 =>
      cases h with
      | @lst _ vs' S' ds g1 g2 =>
        rw [h1] at g1
        cases g1
        simp only [atP] at he
        cases q : ds[k]? with
        | none => rw [q] at he; cases he
        | some y =>
          rw [q] at he
          obtain ⟨u', T, R, eu, t, pm, _, kk⟩ := g2.at q
          rw [h2] at eu
          cases eu
          obtain ⟨b, ws, T1, R1, ew, hb, tb, pm1, kp⟩ := Tr.put (π := π) t he h3
          have bS : b ∈ S' := pm.mem_iff.mpr (List.mem_append_left _ (pm1.mem_iff.mpr (by simp)))
          refine ⟨b, ws, T1, a :: (R1 ++ R), ew, hb, tb, ?_, fun us ds' T' nd t' => ?_⟩
          · refine (List.Perm.cons a (pm.trans (List.Perm.append_right R pm1))).trans ?_
            have : (b :: T1 ++ R1 ++ R) = (b :: T1) ++ (R1 ++ R) := by simp
            rw [this]
            exact List.perm_middle.symm
          · have nd' := List.nodup_cons.mp nd
            have ndS := pm.nodup_iff.mp nd'.2
            have ndA := List.nodup_append.mp ndS
            obtain ⟨S2, t2, p2⟩ := kp us ds' T' ndA.1 t'
            have nba : a ≠ b := fun z => nd'.1 (z ▸ bS)
            have bT : b ∈ T := pm1.mem_iff.mpr (by simp)
            have kt : ∀ t xs, H t = some (.tup xs) → upd H b (.lst us) t = some (.tup xs) := fun t xs et => by
              rw [upd_ne (show t ≠ b from fun z => by rw [z, hb] at et; cases et)]
              exact et
            obtain ⟨S3, t3, p3⟩ := kk (upd H b (.lst us)) S2 u (setP y π (.list ds')) kt (fun _ z => z.elim) (fun c m o eo => by
              rw [upd_ne (show c ≠ b from fun z => ndA.2.2 b bT c m z.symm)]
              exact eo) t2
            have eset : vs.set k u = vs := by
              refine List.ext_getElem? fun j => ?_
              by_cases hj : k = j
              · subst hj
                rw [List.getElem?_set_self (List.getElem?_eq_some_iff.mp h2).1, h2]
              · rw [List.getElem?_set_ne hj]
            rw [eset] at t3
            refine ⟨a :: S3, ?_, ?_⟩
            · rw [setP, q]
              exact .lst (by rw [upd_ne nba]; exact h1) t3
            · refine (List.Perm.cons a (p3.trans (List.Perm.append_right R p2))).trans ?_
              have : (b :: T' ++ R1 ++ R) = (b :: T') ++ (R1 ++ R) := by simp
              rw [this]
              exact List.perm_middle.symm
      | lstZ g0 _ _ => exact g0.elim
      | tup g1 g2 => rw [h1] at g1; cases g1
    | @tup a vs _ _ u _ h1 h2 h3 =>
      cases h with
      | lst g1 g2 => rw [h1] at g1; cases g1
      | lstZ g0 g1 g2 => rw [h1] at g1; cases g1
      | @tup _ vs' S' ds g1 g2 =>
        rw [h1] at g1
        cases g1
        simp only [atP] at he
        cases q : ds[k]? with
        | none => rw [q] at he; cases he
        | some y =>
          rw [q] at he
          obtain ⟨u', T, R, eu, t, pm, _, kk⟩ := g2.at q
          rw [h2] at eu
          cases eu
          obtain ⟨b, ws, T1, R1, ew, hb, tb, pm1, kp⟩ := Tr.put (π := π) t he h3
          refine ⟨b, ws, T1, R1 ++ R, ew, hb, tb, ?_, fun us ds' T' nd t' => ?_⟩
          · refine (pm.trans (List.Perm.append_right R pm1)).trans ?_
            simp
          · have ndS := pm.nodup_iff.mp nd
            have ndA := List.nodup_append.mp ndS
            obtain ⟨S2, t2, p2⟩ := kp us ds' T' ndA.1 t'
            have bT : b ∈ T := pm1.mem_iff.mpr (by simp)
            have kt : ∀ t xs, H t = some (.tup xs) → upd H b (.lst us) t = some (.tup xs) := fun t xs et => by
              rw [upd_ne (show t ≠ b from fun z => by rw [z, hb] at et; cases et)]
              exact et
            obtain ⟨S3, t3, p3⟩ := kk (upd H b (.lst us)) S2 u (setP y π (.list ds')) kt (fun _ z => z.elim) (fun c m o eo => by
              rw [upd_ne (show c ≠ b from fun z => ndA.2.2 b bT c m z.symm)]
              exact eo) t2
            have eset : vs.set k u = vs := by
              refine List.ext_getElem? fun j => ?_
              by_cases hj : k = j
              · subst hj
                rw [List.getElem?_set_self (List.getElem?_eq_some_iff.mp h2).1, h2]
              · rw [List.getElem?_set_ne hj]
            rw [eset] at t3
            refine ⟨S3, ?_, ?_⟩
            · rw [setP, q]
              exact .tup (kt _ _ h1) t3
            · refine (p3.trans (List.Perm.append_right R p2)).trans ?_
              simp
end
/-! ### the state -/
def look (sl : List Sl) : Sl → Option D
  | .fz d => some d
  | .ow _ d => some d
  | .al i π => (sl[i]?).bind fun s => (datS s).bind fun d => atP d π
  | _ => none
structure RelX (C : Cn) (Z : Reg) (S1 S2 : List Addr) (γ : VSt) (Θ : List V) (σ : L2.St) (H : Hp) : Prop where
  fr : ∀ a o, C.H0 a = some o → ¬ C.M a → C.tz Z a ∧ H a = some o
  es : Ents C Z H S1 σ γ.sl
  et : Ents C Z H S2 (Θ.map some) γ.tm
  nd : (S1 ++ S2).Nodup
  nz : ∀ a ∈ S1 ++ S2, ¬ C.tz Z a
  pu : ∀ p b, C.pu = some (p, b) → PuAt H p (b - γ.n) ∧ ¬ C.tz Z p ∧ p ∉ S1 ++ S2
  ex : ∀ a, C.tz Z a → ∃ o, H a = some o
  dj : ∀ a, Z a → ¬ C.Fr a
  al : ∀ (k i : Nat) (π : List Nat) (v : V), γ.tm[k]? = some (.al i π) → Θ[k]? = some v → ∃ s d e w, γ.sl[i]? = some s ∧ datS s = some d ∧ atP d π = some e ∧ σ[i]? = some (some w) ∧ Wk H w π v
def Rel (C : Cn) (γ : VSt) (Θ : List V) (σ : L2.St) (H : Hp) : Prop := ∃ Z S1 S2, RelX C Z S1 S2 γ Θ σ H
def noAl (i : Nat) (tm : List Sl) : Bool := tm.all fun s => match s with | .al j _ => j != i | _ => true
def own (d : D) : Sl := if nolist d then .fz d else .ow true d

section
variable {C : Cn} {Z : Reg} {S1 S2 : List Addr} {γ : VSt} {Θ : List V} {σ : L2.St} {H H' : Hp} {sl tm : List Sl} {n n' : Int} {v : V} {s : Sl} {d : D} {i : Nat}

theorem RelX.slot (h : RelX C Z S1 S2 γ Θ σ H) (e : γ.sl[i]? = some s) (ed : datS s = some d) : ∃ w T, σ[i]? = some (some w) ∧ Tr H Z T w d ∧ ∀ a ∈ T, a ∈ S1 := by
  obtain ⟨v, T, R, ev, en, pm, _⟩ := h.es.at e
  obtain ⟨w, T', rfl, t, sb⟩ := en.tr ed
  exact ⟨w, T', ev, t, fun a m => pm.mem_iff.mpr (List.mem_append_left _ (sb a m))⟩
theorem RelX.trAt {k : Nat} (h : RelX C Z S1 S2 γ Θ σ H) (e : γ.tm[k]? = some s) (ev : Θ[k]? = some v) (l : look γ.sl s = some d) : ∃ T, Tr H Z T v d ∧ ∀ a ∈ T, a ∈ S1 ++ S2 := by
  obtain ⟨v', T, R, ev', en, pm, _⟩ := h.et.at e
  rw [List.getElem?_map, ev] at ev'
  cases ev'
  have go : datS s = some d → ∃ T, Tr H Z T v d ∧ ∀ a ∈ T, a ∈ S1 ++ S2 := fun q => by
    obtain ⟨w, T', ew, t, sb⟩ := en.tr q
    cases ew
    exact ⟨T', t, fun a m => List.mem_append_right _ (pm.mem_iff.mpr (List.mem_append_left _ (sb a m)))⟩
  cases s with
  | jk => cases l
  | io d' => cases l
  | fz d' => exact go l
  | ow b d' => exact go l
  | pu => cases l
  | dc m => cases l
  | dt m => cases l
  | sh m => cases l
  | xv _ _ m => cases l
  | ho _ _ => cases l
  | al i π =>
    obtain ⟨s, d', e', w, e1, e2, e3, e4, wk⟩ := h.al k i π v e ev
    simp only [look, e1, e2, e3, Option.bind_some, Option.some.injEq] at l
    subst l
    obtain ⟨w', T', ew, t, sub⟩ := h.slot e1 e2
    rw [e4] at ew
    cases ew
    obtain ⟨⟨T2, t2, s2⟩, _⟩ := Tr.part t e3 wk
    exact ⟨T2, t2, fun a m => List.mem_append_left _ (sub a (s2 a m))⟩
/-- what stands on the stack is read -/
theorem Rel.readAt {k : Nat} (h : Rel C γ Θ σ H) (e : γ.tm[k]? = some s) (ev : Θ[k]? = some v) (l : look γ.sl s = some d) : ∃ T, Rep H T v d ∧ ∀ p b, C.pu = some (p, b) → p ∉ T := by
  obtain ⟨Z, S1, S2, h⟩ := h
  obtain ⟨T, t, sub⟩ := h.trAt e ev l
  obtain ⟨T', r, k⟩ := Tr.rep _ _ _ t
  refine ⟨T', r, fun p b q m => ?_⟩
  obtain ⟨_, n1, n2⟩ := h.pu p b q
  rcases k p m with m | m
  · exact n2 (sub p m)
  · exact n1 (.inl m)
theorem Rel.read (h : Rel C ⟨sl, s :: tm, n⟩ (v :: Θ) σ H) (l : look sl s = some d) : ∃ T, Rep H T v d ∧ ∀ p b, C.pu = some (p, b) → p ∉ T := h.readAt (k := 0) rfl rfl l
/-- the heap grows, the purse is drawn from -/
theorem Rel.heap (h : Rel C ⟨sl, tm, n⟩ Θ σ H) (k : ∀ a o, H a = some o → (∀ p b, C.pu = some (p, b) → a ≠ p) → H' a = some o) (kp : ∀ p b, C.pu = some (p, b) → PuAt H' p (b - n')) : Rel C ⟨sl, tm, n'⟩ Θ σ H' := by
  obtain ⟨Z, S1, S2, h⟩ := h
  have kt : ∀ t vs, H t = some (.tup vs) → H' t = some (.tup vs) := fun t vs e => k t _ e fun p b q z => by
    subst z
    obtain ⟨x, y, z, e2, _⟩ := (h.pu t b q).1
    rw [e] at e2
    cases e2
  have kz0 : ∀ a, C.tz Z a → ∀ o, H a = some o → H' a = some o := fun a z o e => k a o e fun p b q y => (h.pu p b q).2.1 (y ▸ z)
  have kz : ∀ a, Z a → ∀ o, H a = some o → H' a = some o := fun a z => kz0 a (.inl z)
  have ks : ∀ a ∈ S1 ++ S2, ∀ o, H a = some o → H' a = some o := fun a m o e => k a o e fun p b q y => (h.pu p b q).2.2 (y ▸ m)
  refine ⟨Z, S1, S2, fun a o e m => ⟨(h.fr a o e m).1, kz0 a (h.fr a o e m).1 o (h.fr a o e m).2⟩, h.es.mono kt (fun _ z => z) kz fun a m => ks a (List.mem_append_left _ m), h.et.mono kt (fun _ z => z) kz fun a m => ks a (List.mem_append_right _ m), h.nd, h.nz, fun p b q => ⟨kp p b q, (h.pu p b q).2⟩, fun a z => ?_, h.dj, fun j i π v e ev => ?_⟩
  · obtain ⟨o, e⟩ := h.ex a z
    exact ⟨o, kz0 a z o e⟩
  · obtain ⟨s, d', e', w, e1, e2, e3, e4, wk⟩ := h.al j i π v e ev
    obtain ⟨w', T', ew, t, sub⟩ := h.slot e1 e2
    rw [e4] at ew
    cases ew
    exact ⟨s, d', e', w, e1, e2, e3, e4, (Tr.part t e3 wk).2 H' kt fun a z => z.elim (kz a) fun m => ks a (List.mem_append_left _ (sub a m))⟩
theorem Rel.same (h : Rel C γ Θ σ H) (k : Same H H') : Rel C γ Θ σ H' := by
  obtain ⟨sl, tm, n⟩ := γ
  refine h.heap (fun a o e _ => k a o e) fun p b q => ?_
  obtain ⟨Z, S1, S2, h⟩ := h
  exact (h.pu p b q).1.mono (k p)
/-- something on the stack -/
theorem RelX.pushE {Z' : Reg} {T : List Addr} (h : RelX C Z S1 S2 ⟨sl, tm, n⟩ Θ σ H) (en : Ent C Z H T (some v) s) (nd : T.Nodup) (nT : ∀ a ∈ T, a ∉ S1 ++ S2 ∧ ¬ C.tz Z a ∧ ∀ p b, C.pu = some (p, b) → a ≠ p) (na : ∀ i π, s ≠ .al i π) : RelX C Z S1 (T ++ S2) ⟨sl, s :: tm, n⟩ (v :: Θ) σ H := by
  have pm : (S1 ++ (T ++ S2)).Perm (T ++ (S1 ++ S2)) := by
    rw [← List.append_assoc, ← List.append_assoc]
    exact List.Perm.append_right S2 List.perm_append_comm
  refine ⟨h.fr, h.es, .cons en h.et, pm.nodup_iff.mpr (List.nodup_append.mpr ⟨nd, h.nd, fun a m b m' e => (nT a m).1 (e ▸ m')⟩), fun a m => ?_, fun p b q => ⟨(h.pu p b q).1, (h.pu p b q).2.1, fun m => ?_⟩, h.ex, h.dj, fun k j π u e ev => ?_⟩
  · rcases List.mem_append.mp (pm.mem_iff.mp m) with m | m
    · exact (nT a m).2.1
    · exact h.nz a m
  · rcases List.mem_append.mp (pm.mem_iff.mp m) with m | m
    · exact (nT p m).2.2 p b q rfl
    · exact (h.pu p b q).2.2 m
  · cases k with
    | zero =>
      simp at e
      exact absurd e (na _ _)
    | succ k => exact h.al k j π u (by simpa using e) (by simpa using ev)
theorem Rel.push (h : Rel C ⟨sl, tm, n⟩ Θ σ H) (t : ∀ Z, Tr H Z [] v d) : Rel C ⟨sl, .fz d :: tm, n⟩ (v :: Θ) σ H := by
  obtain ⟨Z, S1, S2, h⟩ := h
  exact ⟨Z, S1, _, h.pushE (Z' := Z) (.fz (t Z)) List.nodup_nil (fun a m => nomatch m) (fun i π z => nomatch z)⟩
/-- a new tree on the stack -/
theorem Rel.new (h : Rel C ⟨sl, tm, n⟩ Θ σ H) (k : ∀ a o, H a = some o → (∀ p b, C.pu = some (p, b) → a ≠ p) → H' a = some o) (kp : ∀ p b, C.pu = some (p, b) → PuAt H' p (b - n'))
    (nw : ∃ S, Tr H' noReg S v d ∧ S.Nodup ∧ ∀ a ∈ S, H a = none) : Rel C ⟨sl, own d :: tm, n'⟩ (v :: Θ) σ H' := by
  have h' := h.heap k kp
  obtain ⟨S, t, nd, nw⟩ := nw
  unfold own
  by_cases hn : nolist d = true
  · rw [if_pos hn]
    exact h'.push fun Z => (Tr.nolist d S v t hn).2
  · rw [if_neg hn]
    obtain ⟨Z0, A1, A2, h0⟩ := h
    have old : ∀ a ∈ S, a ∉ A1 ++ A2 ∧ ¬ C.tz Z0 a ∧ ∀ p b, C.pu = some (p, b) → a ≠ p := fun a m => by
      refine ⟨fun z => ?_, fun z => ?_, fun p b q z => ?_⟩
      · rcases List.mem_append.mp z with z | z
        · obtain ⟨xs, e⟩ := h0.es.dom a z
          rw [nw a m] at e
          cases e
        · obtain ⟨xs, e⟩ := h0.et.dom a z
          rw [nw a m] at e
          cases e
      · obtain ⟨o, e⟩ := h0.ex a z
        rw [nw a m] at e
        cases e
      · obtain ⟨x, y, w, e, _⟩ := (h0.pu p b q).1
        rw [← z, nw a m] at e
        cases e
    -- the same regions
    have kt : ∀ t vs, H t = some (.tup vs) → H' t = some (.tup vs) := fun t vs e => k t _ e fun p b q z => by
      subst z
      obtain ⟨x, y, z, e2, _⟩ := (h0.pu t b q).1
      rw [e] at e2
      cases e2
    have kz0 : ∀ a, C.tz Z0 a → ∀ o, H a = some o → H' a = some o := fun a z o e => k a o e fun p b q y => (h0.pu p b q).2.1 (y ▸ z)
    have kz : ∀ a, Z0 a → ∀ o, H a = some o → H' a = some o := fun a z => kz0 a (.inl z)
    have ks : ∀ a ∈ A1 ++ A2, ∀ o, H a = some o → H' a = some o := fun a m o e => k a o e fun p b q y => (h0.pu p b q).2.2 (y ▸ m)
    have h1 : RelX C Z0 A1 A2 ⟨sl, tm, n'⟩ Θ σ H' := ⟨fun a o e m => ⟨(h0.fr a o e m).1, kz0 a (h0.fr a o e m).1 o (h0.fr a o e m).2⟩, h0.es.mono kt (fun _ z => z) kz fun a m => ks a (List.mem_append_left _ m), h0.et.mono kt (fun _ z => z) kz fun a m => ks a (List.mem_append_right _ m), h0.nd, h0.nz, fun p b q => ⟨kp p b q, (h0.pu p b q).2⟩, fun a z => by
      obtain ⟨o, e⟩ := h0.ex a z
      exact ⟨o, kz0 a z o e⟩, h0.dj, fun j i π v e ev => by
      obtain ⟨s, d', e', w, e1, e2, e3, e4, wk⟩ := h0.al j i π v e ev
      obtain ⟨w', T', ew, t, sub⟩ := h0.slot e1 e2
      rw [e4] at ew
      cases ew
      exact ⟨s, d', e', w, e1, e2, e3, e4, (Tr.part t e3 wk).2 H' kt fun a z => z.elim (kz a) fun m => ks a (List.mem_append_left _ (sub a m))⟩⟩
    exact ⟨Z0, A1, _, h1.pushE (Z' := Z0) (.ow t) nd old (fun i π z => nomatch z)⟩
theorem Rel.pop (h : Rel C ⟨sl, s :: tm, n⟩ (v :: Θ) σ H) : Rel C ⟨sl, tm, n⟩ Θ σ H := by
  obtain ⟨Z, S1, S2, h⟩ := h
  obtain ⟨fr, es, et, nd, nz, pu, ex, dj, al⟩ := h
  dsimp only at es et al pu
  cases et with
  | @cons S T _ _ _ _ e1 e2 =>
    have pm : (S1 ++ (S ++ T)).Perm (S ++ (S1 ++ T)) := by
      rw [← List.append_assoc, ← List.append_assoc]
      exact List.Perm.append_right T List.perm_append_comm
    exact ⟨Z, S1, T, fr, es, e2, (List.nodup_append.mp (pm.nodup_iff.mp nd)).2.1, fun a m => nz a (pm.mem_iff.mpr (List.mem_append_right _ m)), fun p b q => ⟨(pu p b q).1, (pu p b q).2.1, fun m => (pu p b q).2.2 (pm.mem_iff.mpr (List.mem_append_right _ m))⟩, ex, dj, fun k j π u e ev => al (k + 1) j π u (by simpa using e) (by simpa using ev)⟩
/-- a name is read -/
theorem Rel.varF (h : Rel C ⟨sl, tm, n⟩ Θ σ H) (e : sl[i]? = some (.fz d)) : ∃ v, σ[i]? = some (some v) ∧ Rel C ⟨sl, .fz d :: tm, n⟩ (v :: Θ) σ H := by
  obtain ⟨Z, S1, S2, h⟩ := h
  obtain ⟨v, T, R, ev, en, pm, _⟩ := h.es.at e
  cases en with
  | fz t => exact ⟨_, ev, Z, S1, _, h.pushE (Z' := Z) (.fz t) List.nodup_nil (fun a m => nomatch m) (fun i π z => nomatch z)⟩
theorem Rel.varP (h : Rel C ⟨sl, tm, n⟩ Θ σ H) (e : sl[i]? = some .pu) : ∃ p b, C.pu = some (p, b) ∧ σ[i]? = some (some (.ref p)) ∧ Rel C ⟨sl, .pu :: tm, n⟩ (.ref p :: Θ) σ H := by
  obtain ⟨Z, S1, S2, h⟩ := h
  obtain ⟨v, T, R, ev, en, pm, _⟩ := h.es.at e
  cases en with
  | pu q => exact ⟨_, _, q, ev, Z, S1, _, h.pushE (Z' := Z) (.pu q) List.nodup_nil (fun a m => nomatch m) (fun i π z => nomatch z)⟩
theorem Rel.varA (h : Rel C ⟨sl, tm, n⟩ Θ σ H) (e : sl[i]? = some s) (ed : datS s = some d) : ∃ v, σ[i]? = some (some v) ∧ Rel C ⟨sl, .al i [] :: tm, n⟩ (v :: Θ) σ H := by
  obtain ⟨Z, S1, S2, h⟩ := h
  obtain ⟨w, T, ew, t, sub⟩ := h.slot (γ := ⟨sl, tm, n⟩) e ed
  refine ⟨w, ew, Z, S1, S2, h.fr, h.es, .cons (S := []) (.al w i []) h.et, h.nd, h.nz, h.pu, h.ex, h.dj, fun k j π u e' ev => ?_⟩
  cases k with
  | zero =>
    simp at e' ev
    obtain ⟨rfl, rfl⟩ := e'
    subst ev
    exact ⟨_, d, d, w, e, ed, rfl, ew, .nil _⟩
  | succ k => exact h.al k j π u (by simpa using e') (by simpa using ev)
/-- an owned tree in a name is frozen -/
theorem Rel.frzS {b : Bool} (h : Rel C ⟨sl, tm, n⟩ Θ σ H) (e : sl[i]? = some (.ow b d)) : Rel C ⟨sl.set i (.fz d), tm, n⟩ Θ σ H := by
  obtain ⟨Z, S1, S2, h⟩ := h
  obtain ⟨v, T, R, ev, en, pm, k⟩ := h.es.at e
  have ndS := pm.nodup_iff.mp (List.nodup_append.mp h.nd).1
  obtain ⟨w, rfl, t⟩ := en.trO
  let Z' : Reg := fun a => Z a ∨ a ∈ T
  obtain ⟨S', es', pm'⟩ := k H Z' [] (some w) (.fz d) (fun _ _ h => h) (fun _ z => .inl z) (fun _ _ _ h => h) (fun _ _ _ h => h) (.fz (Tr.freeze (fun _ z => .inl z) _ _ _ t fun _ m => .inr m))
  have eσ : σ.set i (some w) = σ := by
    refine List.ext_getElem? fun j => ?_
    by_cases hj : i = j
    · subst hj
      rw [List.getElem?_set_self (List.getElem?_eq_some_iff.mp ev).1, ev]
    · rw [List.getElem?_set_ne hj]
  rw [eσ] at es'
  have sub : ∀ a ∈ S' ++ S2, a ∈ S1 ++ S2 ∧ a ∉ T := fun a m => by
    rcases List.mem_append.mp m with m | m
    · have mR : a ∈ R := by simpa using pm'.mem_iff.mp m
      exact ⟨List.mem_append_left _ (pm.mem_iff.mpr (List.mem_append_right _ mR)), fun mT => (List.nodup_append.mp ndS).2.2 a mT a mR rfl⟩
    · exact ⟨List.mem_append_right _ m, fun mT => (List.nodup_append.mp h.nd).2.2 a (pm.mem_iff.mpr (List.mem_append_left _ mT)) a m rfl⟩
  refine ⟨Z', S', S2, fun a o e m => ⟨(h.fr a o e m).1.imp .inl id, (h.fr a o e m).2⟩, es', h.et.mono (fun _ _ h => h) (fun _ z => .inl z) (fun _ _ _ h => h) (fun _ _ _ h => h), ?_, fun a m => ?_, fun p b q => ⟨(h.pu p b q).1, ?_, fun m => (h.pu p b q).2.2 (sub p m).1⟩, fun a z => ?_, fun a z => z.elim (h.dj a) fun m q => h.nz a (List.mem_append_left _ (pm.mem_iff.mpr (List.mem_append_left _ m))) (.inr q), fun j i' π v e' ev' => ?_⟩
  · refine List.nodup_append.mpr ⟨pm'.nodup_iff.mpr (by simpa using (List.nodup_append.mp ndS).2.1), (List.nodup_append.mp h.nd).2.1, fun a m b m' eab => ?_⟩
    have mR : a ∈ R := by simpa using pm'.mem_iff.mp m
    exact (List.nodup_append.mp h.nd).2.2 a (pm.mem_iff.mpr (List.mem_append_right _ mR)) b m' eab
  · rintro ((z | z) | z)
    · exact h.nz a (sub a m).1 (.inl z)
    · exact (sub a m).2 z
    · exact h.nz a (sub a m).1 (.inr z)
  · rintro ((z | z) | z)
    · exact (h.pu p b q).2.1 (.inl z)
    · exact (h.pu p b q).2.2 (List.mem_append_left _ (pm.mem_iff.mpr (List.mem_append_left _ z)))
    · exact (h.pu p b q).2.1 (.inr z)
  · rcases z with (z | z) | z
    · exact h.ex a (.inl z)
    rotate_left
    · exact h.ex a (.inr z)
    · obtain ⟨xs, q⟩ := Tr.dom _ _ _ t a z
      exact ⟨_, q⟩
  · obtain ⟨s, d', e1, w', g1, g2, g3, g4, wk⟩ := h.al j i' π v e' ev'
    by_cases hj : i = i'
    · subst hj
      change sl[i]? = some s at g1
      rw [e] at g1
      cases g1
      cases g2
      exact ⟨.fz d, d, e1, w', List.getElem?_set_self (List.getElem?_eq_some_iff.mp e).1, rfl, g3, g4, wk⟩
    · exact ⟨s, d', e1, w', (List.getElem?_set_ne hj).trans g1, g2, g3, g4, wk⟩
/-- an alias stays while its name does -/
theorem al_set {k j : Nat} {π : List Nat} (na : noAl i tm = true) (e : tm[k]? = some (.al j π)) : i ≠ j := fun z => by
  subst z
  have := List.all_eq_true.mp na _ (List.mem_of_getElem? e)
  simp at this
/-- an owned tree is taken out of a name -/
theorem Rel.mov {b : Bool} (h : Rel C ⟨sl, tm, n⟩ Θ σ H) (e : sl[i]? = some (.ow b d)) (na : noAl i tm = true) : ∃ v, σ[i]? = some (some v) ∧ Rel C ⟨sl.set i .jk, .ow b d :: tm, n⟩ (v :: Θ) σ H := by
  obtain ⟨Z, S1, S2, h⟩ := h
  obtain ⟨v, T, R, ev, en, pm, k⟩ := h.es.at e
  obtain ⟨w, rfl, t⟩ := en.trO
  obtain ⟨S', es', pm'⟩ := k H Z [] (some w) .jk (fun _ _ h => h) (fun _ z => z) (fun _ _ _ h => h) (fun _ _ _ h => h) (.jk _)
  have eσ : σ.set i (some w) = σ := by
    refine List.ext_getElem? fun j => ?_
    by_cases hj : i = j
    · subst hj
      rw [List.getElem?_set_self (List.getElem?_eq_some_iff.mp ev).1, ev]
    · rw [List.getElem?_set_ne hj]
  rw [eσ] at es'
  have pm2 : (S' ++ (T ++ S2)).Perm (S1 ++ S2) := by
    have : (S' ++ T).Perm S1 := (List.Perm.append_right T (by simpa using pm')).trans (List.perm_append_comm.trans pm.symm)
    rw [← List.append_assoc]
    exact List.Perm.append_right S2 this
  refine ⟨w, ev, Z, S', T ++ S2, h.fr, es', .cons en h.et, pm2.nodup_iff.mpr h.nd, fun a m => h.nz a (pm2.mem_iff.mp m), fun p b q => ⟨(h.pu p b q).1, (h.pu p b q).2.1, fun m => (h.pu p b q).2.2 (pm2.mem_iff.mp m)⟩, h.ex, h.dj, fun j i' π v e' ev' => ?_⟩
  cases j with
  | zero => simp at e'
  | succ j =>
    simp at e' ev'
    obtain ⟨s, d', e1, w', g1, g2, g3, g4, wk⟩ := h.al j i' π v e' ev'
    exact ⟨s, d', e1, w', (List.getElem?_set_ne (al_set na e')).trans g1, g2, g3, g4, wk⟩
/-- the top is stored in a name -/
theorem Rel.set (h : Rel C ⟨sl, s :: tm, n⟩ (v :: Θ) σ H) (hs : ∀ i π, s ≠ .al i π) (na : noAl i tm = true) : Rel C ⟨sl.set i s, tm, n⟩ Θ (σ.set i (some v)) H := by
  obtain ⟨Z, S1, S2, h⟩ := h
  obtain ⟨fr, es, et, nd, nz, pu, ex, dj, al⟩ := h
  dsimp only at es et al pu
  cases et with
  | @cons T S2 _ _ _ _ e1 e2 =>
    have len := es.length
    by_cases hi : i < sl.length
    · obtain ⟨s0, e0⟩ : ∃ s0, sl[i]? = some s0 := ⟨_, List.getElem?_eq_getElem hi⟩
      obtain ⟨v0, T0, R, ev, en, pm, k⟩ := es.at e0
      obtain ⟨S', es', pm'⟩ := k H Z T (some v) s (fun _ _ h => h) (fun _ z => z) (fun _ _ _ h => h) (fun _ _ _ h => h) e1
      have pm2 : (S1 ++ (T ++ S2)).Perm (T0 ++ (S' ++ S2)) := by
        have q : (S1 ++ (T ++ S2)).Perm ((T0 ++ R) ++ (T ++ S2)) := List.Perm.append_right _ pm
        refine q.trans ?_
        have q2 : (R ++ (T ++ S2)).Perm (S' ++ S2) := by
          rw [← List.append_assoc]
          exact List.Perm.append_right S2 (List.perm_append_comm.trans pm'.symm)
        rw [List.append_assoc]
        exact List.Perm.append_left T0 q2
      refine ⟨Z, S', S2, fr, es', e2, (List.nodup_append.mp (pm2.nodup_iff.mp nd)).2.1, fun a m => nz a (pm2.mem_iff.mpr (List.mem_append_right _ m)), fun p b q => ⟨(pu p b q).1, (pu p b q).2.1, fun m => (pu p b q).2.2 (pm2.mem_iff.mpr (List.mem_append_right _ m))⟩, ex, dj, fun j i' π u e' ev' => ?_⟩
      obtain ⟨s1, d', e3, w', g1, g2, g3, g4, wk⟩ := al (j + 1) i' π u (by simpa using e') (by simpa using ev')
      have hj := al_set na e'
      exact ⟨s1, d', e3, w', (List.getElem?_set_ne hj).trans g1, g2, g3, (List.getElem?_set_ne hj).trans g4, wk⟩
    · have e3 : sl.set i s = sl := List.set_eq_of_length_le (by omega)
      have e4 : σ.set i (some v) = σ := List.set_eq_of_length_le (by omega)
      rw [e3, e4]
      exact Rel.pop ⟨Z, S1, _, fr, es, .cons e1 e2, nd, nz, pu, ex, dj, al⟩
/-- a name is forgotten -/
theorem Rel.jk (h : Rel C ⟨sl, tm, n⟩ Θ σ H) (na : noAl i tm = true) (o : Option V) : Rel C ⟨sl.set i .jk, tm, n⟩ Θ (σ.set i o) H := by
  obtain ⟨Z, S1, S2, h⟩ := h
  have len := h.es.length
  by_cases hi : i < sl.length
  · obtain ⟨s0, e0⟩ : ∃ s0, sl[i]? = some s0 := ⟨_, List.getElem?_eq_getElem hi⟩
    obtain ⟨v0, T0, R, ev, en, pm, k⟩ := h.es.at (ss := sl) e0
    obtain ⟨S', es', pm'⟩ := k H Z [] o .jk (fun _ _ h => h) (fun _ z => z) (fun _ _ _ h => h) (fun _ _ _ h => h) (.jk _)
    have pm2 : (S1 ++ S2).Perm (T0 ++ (S' ++ S2)) := by
      rw [← List.append_assoc]
      exact List.Perm.append_right S2 (pm.trans (List.Perm.append_left T0 (by simpa using pm'.symm)))
    refine ⟨Z, S', S2, h.fr, es', h.et, (List.nodup_append.mp (pm2.nodup_iff.mp h.nd)).2.1, fun a m => h.nz a (pm2.mem_iff.mpr (List.mem_append_right _ m)), fun p b q => ⟨(h.pu p b q).1, (h.pu p b q).2.1, fun m => (h.pu p b q).2.2 (pm2.mem_iff.mpr (List.mem_append_right _ m))⟩, h.ex, h.dj, fun j i' π u e' ev' => ?_⟩
    obtain ⟨s1, d', e3, w', g1, g2, g3, g4, wk⟩ := h.al j i' π u e' ev'
    have hj := al_set na e'
    exact ⟨s1, d', e3, w', (List.getElem?_set_ne hj).trans g1, g2, g3, (List.getElem?_set_ne hj).trans g4, wk⟩
  · have e3 : sl.set i .jk = sl := List.set_eq_of_length_le (by omega)
    have e4 : σ.set i o = σ := List.set_eq_of_length_le (by change σ.length = sl.length at len; omega)
    rw [e3, e4]
    exact ⟨Z, S1, S2, h⟩
end
mutual
theorem repU {H : Hp} : ∀ (d : D) (v : V) (A B : List Addr), Rep H A v d → Rep H B v d → A = B
  | .none, _, _, _, h, k => by cases h; cases k; rfl
  | .bool b, _, _, _, h, k => by cases h; cases k; rfl
  | .int i, _, _, _, h, k => by cases h; cases k; rfl
  | .str x, _, _, _, h, k => by cases h; cases k; rfl
  | .list ds, _, _, _, h, k => by
    cases h with
    | lst h1 h2 =>
      cases k with
      | lst k1 k2 =>
        rw [h1] at k1
        cases k1
        rw [repsU ds _ _ _ h2 k2]
  | .tuple ds, _, _, _, h, k => by
    cases h with
    | tup h1 h2 =>
      cases k with
      | tup k1 k2 =>
        rw [h1] at k1
        cases k1
        exact repsU ds _ _ _ h2 k2
  | .dict _, _, _, _, h, _ => by cases h
theorem repsU {H : Hp} : ∀ (ds : List D) (vs : List V) (A B : List Addr), Reps H A vs ds → Reps H B vs ds → A = B
  | [], _, _, _, h, k => by cases h; cases k; rfl
  | d :: ds, _, _, _, h, k => by
    cases h with
    | cons h1 h2 =>
      cases k with
      | cons k1 k2 => rw [repU d _ _ _ h1 k1, repsU ds _ _ _ h2 k2]
end
section
variable {C : Cn} {Z : Reg} {S1 S2 : List Addr} {γ : VSt} {Θ : List V} {σ : L2.St} {H H' : Hp} {sl tm : List Sl} {n n' : Int} {v : V} {s : Sl} {d : D} {i : Nat}
/-- the top is frozen -/
theorem Rel.frzT {b : Bool} (h : Rel C ⟨sl, .ow b d :: tm, n⟩ (v :: Θ) σ H) : Rel C ⟨sl, .fz d :: tm, n⟩ (v :: Θ) σ H := by
  obtain ⟨Z, S1, S2, h⟩ := h
  obtain ⟨fr, es, et, nd, nz, pu, ex, dj, al⟩ := h
  dsimp only at es et al pu
  cases et with
  | @cons T S2 _ _ _ _ e1 e2 =>
    obtain ⟨w, ew, t⟩ := e1.trO
    cases ew
    let Z' : Reg := fun a => Z a ∨ a ∈ T
    have pm : (S1 ++ (T ++ S2)).Perm (T ++ (S1 ++ S2)) := by
      rw [← List.append_assoc, ← List.append_assoc]
      exact List.Perm.append_right S2 List.perm_append_comm
    have nd2 := List.nodup_append.mp (pm.nodup_iff.mp nd)
    refine ⟨Z', S1, [] ++ S2, fun a o e m => ⟨(fr a o e m).1.imp .inl id, (fr a o e m).2⟩, es.mono (fun _ _ h => h) (fun _ z => .inl z) (fun _ _ _ h => h) (fun _ _ _ h => h), .cons (.fz (Tr.freeze (fun _ z => .inl z) _ _ _ t fun _ m => .inr m)) (e2.mono (fun _ _ h => h) (fun _ z => .inl z) (fun _ _ _ h => h) (fun _ _ _ h => h)), nd2.2.1, fun a m => ?_, fun p b q => ⟨(pu p b q).1, ?_, fun m => (pu p b q).2.2 (pm.mem_iff.mpr (List.mem_append_right _ m))⟩, fun a z => ?_, fun a z => z.elim (dj a) fun m q => nz a (pm.mem_iff.mpr (List.mem_append_left _ m)) (.inr q), fun j i' π u e' ev' => ?_⟩
    · rintro ((z | z) | z)
      · exact nz a (pm.mem_iff.mpr (List.mem_append_right _ m)) (.inl z)
      · exact nd2.2.2 a z a m rfl
      · exact nz a (pm.mem_iff.mpr (List.mem_append_right _ m)) (.inr z)
    · rintro ((z | z) | z)
      · exact (pu p b q).2.1 (.inl z)
      · exact (pu p b q).2.2 (pm.mem_iff.mpr (List.mem_append_left _ z))
      · exact (pu p b q).2.1 (.inr z)
    · rcases z with (z | z) | z
      · exact ex a (.inl z)
      rotate_left
      · exact ex a (.inr z)
      · obtain ⟨xs, q⟩ := Tr.dom _ _ _ t a z
        exact ⟨_, q⟩
    · cases j with
      | zero => simp at e'
      | succ j => exact al (j + 1) i' π u (by simpa using e') (by simpa using ev')
def hoq (l : Bool) (vs : List V) : HO := if l then .lst vs else .tup vs
def dq (l : Bool) (ds : List D) : D := if l then .list ds else .tuple ds
theorem Tr.seq {S : List Addr} {l : Bool} {ds : List D} (t : Tr H Z S v (dq l ds)) : ∃ a vs T, v = .ref a ∧ H a = some (hoq l vs) ∧ Trs H Z T vs ds ∧ ∀ x ∈ T, x ∈ S := by
  cases l with
  | true =>
    cases t with
    | lst e t => exact ⟨_, _, _, rfl, e, t, fun x m => List.mem_cons_of_mem _ m⟩
    | lstZ z e t => exact ⟨_, _, _, rfl, e, t, fun x m => m⟩
  | false =>
    cases t with
    | tup e t => exact ⟨_, _, _, rfl, e, t, fun x m => m⟩
/-- what an item of it is -/
def subS (s : Sl) (k : Nat) (d : D) : Sl := match s with
  | .ow true _ => own d
  | .al i π => if nolist d then .fz d else .al i (π ++ [k])
  | _ => .fz d
theorem RelX.frame (h : RelX C Z S1 S2 γ Θ σ H) : ∀ a ∈ S1 ++ S2, ¬ C.tz Z a ∧ ∀ p b, C.pu = some (p, b) → a ≠ p := fun a m => ⟨h.nz a m, fun p b q z => (h.pu p b q).2.2 (z ▸ m)⟩
/-- an item of the top -/
theorem Rel.item {l : Bool} {ds : List D} (h : Rel C ⟨sl, s :: tm, n⟩ (v :: Θ) σ H) (lk : look sl s = some (dq l ds)) : ∃ a vs, v = .ref a ∧ H a = some (hoq l vs) ∧ vs.length = ds.length ∧
    ∀ k d w, ds[k]? = some d → vs[k]? = some w → Rel C ⟨sl, subS s k d :: tm, n⟩ (w :: Θ) σ H := by
  -- as a whole
  have whole : ∃ a vs, v = .ref a ∧ H a = some (hoq l vs) ∧ vs.length = ds.length := by
    obtain ⟨Z, S1, S2, h⟩ := h
    obtain ⟨T, t, _⟩ := h.trAt (k := 0) rfl rfl lk
    obtain ⟨a, vs, T', rfl, e, ts, _⟩ := t.seq
    exact ⟨a, vs, rfl, e, ts.length⟩
  obtain ⟨a, vs, rfl, e, el⟩ := whole
  have eqv : ∀ us, H a = some (hoq l us) → us = vs := fun us q => by
    rw [e] at q
    cases l with
    | true => cases q; rfl
    | false => cases q; rfl
  refine ⟨a, vs, rfl, e, el, fun k x w hx hw => ?_⟩
  have hz : ∀ {b : Bool} {d' : D}, Rel C ⟨sl, .fz d' :: tm, n⟩ (.ref a :: Θ) σ H → d' = dq l ds → Rel C ⟨sl, .fz x :: tm, n⟩ (w :: Θ) σ H := fun {b d'} h ed => by
    subst ed
    obtain ⟨Z, S1, S2, h⟩ := h
    obtain ⟨fr, es, et, nd, nz, pu, ex, dj, al⟩ := h
    dsimp only at es et al pu
    cases et with
    | cons e1 e2 =>
      cases e1 with
      | fz t =>
        obtain ⟨a', us, T', ea, e', ts, sub⟩ := t.seq
        cases ea
        obtain rfl := eqv us e'
        obtain ⟨T1, R1, t1, pm⟩ := ts.get hx hw
        have e0 : T1 = [] := by
          cases T1 with
          | nil => rfl
          | cons y ys => exact nomatch sub y (pm.mem_iff.mpr (by simp))
        subst e0
        exact ⟨Z, S1, _, fr, es, .cons (S := []) (.fz t1) e2, nd, nz, pu, ex, dj, fun j i' π u e' ev' => by
          cases j with
          | zero => simp at e'
          | succ j => exact al (j + 1) i' π u (by simpa using e') (by simpa using ev')⟩
  cases s with
  | jk => cases lk
  | dc m => cases lk
  | dt m => cases lk
  | sh m => cases lk
  | xv _ _ m => cases lk
  | ho _ _ => cases lk
  | io d' => cases lk
  | pu => cases lk
  | fz d' =>
    cases lk
    exact hz (b := true) h rfl
  | ow b d' =>
    cases lk
    cases b with
    | false => exact hz (b := true) h.frzT rfl
    | true =>
      obtain ⟨Z, S1, S2, h⟩ := h
      obtain ⟨fr, es, et, nd, nz, pu, ex, dj, al⟩ := h
      dsimp only at es et al pu
      cases et with
      | @cons T S2 _ _ _ _ e1 e2 =>
        cases e1 with
        | ow t =>
          obtain ⟨a', us, T', ea, e', ts, sub⟩ := t.seq
          cases ea
          obtain rfl := eqv us e'
          obtain ⟨T1, R1, t1, pm⟩ := ts.get hx hw
          show Rel C ⟨sl, own x :: tm, n⟩ (w :: Θ) σ H
          have h0 : RelX C Z S1 S2 ⟨sl, tm, n⟩ Θ σ H := by
            have p2 : (S1 ++ (T ++ S2)).Perm (T ++ (S1 ++ S2)) := by
              rw [← List.append_assoc, ← List.append_assoc]
              exact List.Perm.append_right S2 List.perm_append_comm
            exact ⟨fr, es, e2, (List.nodup_append.mp (p2.nodup_iff.mp nd)).2.1, fun a m => nz a (p2.mem_iff.mpr (List.mem_append_right _ m)), fun p b q => ⟨(pu p b q).1, (pu p b q).2.1, fun m => (pu p b q).2.2 (p2.mem_iff.mpr (List.mem_append_right _ m))⟩, ex, dj, fun k j π u e ev => al (k + 1) j π u (by simpa using e) (by simpa using ev)⟩
          unfold own
          by_cases hn : nolist x = true
          · rw [if_pos hn]
            exact Rel.push ⟨Z, S1, S2, h0⟩ fun Z => (Tr.nolist x T1 w t1 hn).2
          · rw [if_neg hn]
            have ndT : T.Nodup := (List.nodup_append.mp (List.nodup_append.mp nd).2.1).1
            have sub1 : ∀ y ∈ T1, y ∈ T := fun y m => sub y (pm.mem_iff.mpr (List.mem_append_left _ m))
            have disj : ∀ y ∈ T, y ∉ S1 ++ S2 := fun y m z => by
              rcases List.mem_append.mp z with z | z
              · exact (List.nodup_append.mp nd).2.2 y z y (List.mem_append_left _ m) rfl
              · exact (List.nodup_append.mp (List.nodup_append.mp nd).2.1).2.2 y m y z rfl
            have nd1 : T1.Nodup := by
              cases l with
              | true =>
                cases t with
                | lst g1 g2 =>
                  rw [e'] at g1
                  cases g1
                  obtain ⟨T2, R2, t2, pm2⟩ := g2.get hx hw
                  have := (List.nodup_append.mp (pm2.nodup_iff.mp (List.nodup_cons.mp ndT).2)).1
                  have uq : T1 = T2 := repU _ _ _ _ (Tr.repO _ _ _ t1) (Tr.repO _ _ _ t2)
                  rw [uq]
                  exact this
                | lstZ z _ _ => exact z.elim
              | false =>
                cases t with
                | tup g1 g2 =>
                  rw [e'] at g1
                  cases g1
                  obtain ⟨T2, R2, t2, pm2⟩ := g2.get hx hw
                  have := (List.nodup_append.mp (pm2.nodup_iff.mp ndT)).1
                  have uq : T1 = T2 := repU _ _ _ _ (Tr.repO _ _ _ t1) (Tr.repO _ _ _ t2)
                  rw [uq]
                  exact this
            exact ⟨Z, S1, _, h0.pushE (Z' := Z) (.ow t1) nd1 (fun y m => ⟨disj y (sub1 y m), nz y (List.mem_append_right _ (List.mem_append_left _ (sub1 y m))), fun p b q z => (pu p b q).2.2 (z ▸ List.mem_append_right _ (List.mem_append_left _ (sub1 y m)))⟩) (fun i π z => nomatch z)⟩
  | al j π =>
    show Rel C ⟨sl, (if nolist x then .fz x else .al j (π ++ [k])) :: tm, n⟩ (w :: Θ) σ H
    by_cases hn : nolist x = true
    · rw [if_pos hn]
      have : ∃ T Z', Tr H Z' T w x := by
        obtain ⟨Z, S1, S2, h⟩ := h
        obtain ⟨T, t, _⟩ := h.trAt (k := 0) rfl rfl lk
        obtain ⟨a', us, T', ea, e', ts, _⟩ := t.seq
        cases ea
        obtain rfl := eqv us e'
        obtain ⟨T1, R1, t1, pm⟩ := ts.get hx hw
        exact ⟨_, _, t1⟩
      obtain ⟨T, Z', t⟩ := this
      exact h.pop.push fun Z => (Tr.nolist x T w t hn).2
    · rw [if_neg hn]
      obtain ⟨Z, S1, S2, h⟩ := h
      obtain ⟨fr, es, et, nd, nz, pu, ex, dj, al⟩ := h
      dsimp only at es et al pu
      cases et with
      | cons e1 e2 =>
        cases e1
        refine ⟨Z, S1, _, fr, es, .cons (S := []) (.al w j _) e2, nd, nz, pu, ex, dj, fun m j' π' u e' ev' => ?_⟩
        cases m with
        | succ m => exact al (m + 1) j' π' u (by simpa using e') (by simpa using ev')
        | zero =>
          simp at e' ev'
          obtain ⟨rfl, rfl⟩ := e'
          subst ev'
          obtain ⟨s, d', e1, w', g1, g2, g3, g4, wk⟩ := al 0 j π (.ref a) rfl rfl
          change sl[j]? = some s at g1
          have ee : e1 = dq l ds := by
            simp only [look, g1, g2, g3, Option.bind_some, Option.some.injEq] at lk
            exact lk
          subst ee
          refine ⟨s, d', x, w', g1, g2, atP_snoc π d' _ ds k x g3 ?_ hx, g4, wk.snoc rfl ?_ hw⟩
          · cases l with
            | true => exact .inl rfl
            | false => exact .inr rfl
          · cases l with
            | true => exact .inl e
            | false => exact .inr e
end
/-! ### cells that float between the stack and the names -/
structure Fl (C : Cn) (Z : Reg) (S1 S2 : List Addr) (H : Hp) (A : List Addr) : Prop where
  nd : (A ++ (S1 ++ S2)).Nodup
  ok : ∀ a ∈ A, ¬ C.tz Z a ∧ (∀ p b, C.pu = some (p, b) → a ≠ p) ∧ ∃ o, H a = some o
abbrev rgn (b : Bool) (Z : Reg) : Reg := if b then noReg else Z
theorem nodup_cnt {l : List Addr} : l.Nodup ↔ ∀ a, l.count a ≤ 1 := List.nodup_iff_count
section
variable {C : Cn} {Z : Reg} {S1 S2 A : List Addr} {γ : VSt} {Θ : List V} {σ : L2.St} {H H' : Hp} {sl tm : List Sl} {n n' : Int} {v : V} {s : Sl} {d : D} {i : Nat}
theorem Ents.split {ss ts : List Sl} : ∀ {vs us : List (Option V)} {S : List Addr}, vs.length = ss.length → Ents C Z H S (vs ++ us) (ss ++ ts) → ∃ A B, S = A ++ B ∧ Ents C Z H A vs ss ∧ Ents C Z H B us ts := by
  induction ss with
  | nil =>
    intro vs us S e h
    match vs, e with
    | [], _ => exact ⟨[], S, rfl, .nil, h⟩
  | cons s ss ih =>
    intro vs us S e h
    match vs, e with
    | v :: vs, e =>
      cases h with
      | cons h1 h2 =>
        obtain ⟨A, B, rfl, a, b⟩ := ih (by simpa using e) h2
        exact ⟨_, B, (List.append_assoc ..).symm, .cons h1 a, b⟩
theorem Ents.append {ss ts : List Sl} : ∀ {vs us : List (Option V)} {S T : List Addr}, Ents C Z H S vs ss → Ents C Z H T us ts → Ents C Z H (S ++ T) (vs ++ us) (ss ++ ts) := by
  induction ss with
  | nil =>
    intro vs us S T h k
    cases h
    exact k
  | cons s ss ih =>
    intro vs us S T h k
    cases h with
    | cons h1 h2 =>
      have := Ents.cons h1 (ih h2 k)
      rw [← List.append_assoc] at this
      exact this
theorem Ents.rev {ss : List Sl} : ∀ {vs : List (Option V)} {S : List Addr}, Ents C Z H S vs ss → ∃ S', S'.Perm S ∧ Ents C Z H S' vs.reverse ss.reverse := by
  induction ss with
  | nil =>
    intro vs S h
    cases h
    exact ⟨_, .refl _, .nil⟩
  | cons s ss ih =>
    intro vs S h
    cases h with
    | @cons A B _ _ _ _ h1 h2 =>
      obtain ⟨S', p, q⟩ := ih h2
      have := Ents.append q (.cons h1 .nil)
      rw [List.append_nil] at this
      rw [List.reverse_cons, List.reverse_cons]
      exact ⟨_, List.perm_append_comm.trans (List.Perm.append_left A p), this⟩
theorem RelX.popF {ss : List Sl} {us : List V} (h : RelX C Z S1 S2 ⟨sl, ss ++ tm, n⟩ (us ++ Θ) σ H) (el : us.length = ss.length) : ∃ A B, Ents C Z H A (us.map some) ss ∧ RelX C Z S1 B ⟨sl, tm, n⟩ Θ σ H ∧ Fl C Z S1 B H A := by
  obtain ⟨fr, es, et, nd, nz, pu, ex, dj, al⟩ := h
  dsimp only at es et al pu
  rw [List.map_append] at et
  obtain ⟨A, B, rfl, e1, e2⟩ := et.split (by rw [List.length_map, el])
  have pm : (S1 ++ (A ++ B)).Perm (A ++ (S1 ++ B)) := by
    rw [← List.append_assoc, ← List.append_assoc]
    exact List.Perm.append_right B List.perm_append_comm
  have nd2 := pm.nodup_iff.mp nd
  refine ⟨A, B, e1, ⟨fr, es, e2, (List.nodup_append.mp nd2).2.1, fun a m => nz a (pm.mem_iff.mpr (List.mem_append_right _ m)), fun p b q => ⟨(pu p b q).1, (pu p b q).2.1, fun m => (pu p b q).2.2 (pm.mem_iff.mpr (List.mem_append_right _ m))⟩, ex, dj, fun k j π u e ev => al (ss.length + k) j π u ?_ ?_⟩, nd2, fun a m => ⟨nz a (pm.mem_iff.mpr (List.mem_append_left _ m)), fun p b q z => (pu p b q).2.2 (z ▸ pm.mem_iff.mpr (List.mem_append_left _ m)), e1.dom a m⟩⟩
  · rw [List.getElem?_append_right (by omega)]
    simpa using e
  · rw [List.getElem?_append_right (by omega)]
    simpa [el] using ev
theorem RelX.pushF {A' Dr : List Addr} (h : RelX C Z S1 S2 ⟨sl, tm, n⟩ Θ σ H) (f : Fl C Z S1 S2 H A) (pm : A.Perm (A' ++ Dr)) (en : Ent C Z H A' (some v) s) (na : ∀ i π, s ≠ .al i π) : RelX C Z S1 (A' ++ S2) ⟨sl, s :: tm, n⟩ (v :: Θ) σ H := by
  have sub : ∀ a ∈ A', a ∈ A := fun a m => pm.mem_iff.mpr (List.mem_append_left _ m)
  refine h.pushE (Z' := Z) en (List.nodup_append.mp (pm.nodup_iff.mp (List.nodup_append.mp f.nd).1)).1 (fun a m => ⟨fun z => (List.nodup_append.mp f.nd).2.2 a (sub a m) a z rfl, (f.ok a (sub a m)).1, (f.ok a (sub a m)).2.1⟩) na
theorem RelX.growF (h : RelX C Z S1 S2 γ Θ σ H) (f : Fl C Z S1 S2 H A) : RelX C (fun a => Z a ∨ a ∈ A) S1 S2 γ Θ σ H := by
  refine ⟨fun a o e m => ⟨(h.fr a o e m).1.imp .inl id, (h.fr a o e m).2⟩, h.es.mono (fun _ _ h => h) (fun _ z => .inl z) (fun _ _ _ h => h) (fun _ _ _ h => h), h.et.mono (fun _ _ h => h) (fun _ z => .inl z) (fun _ _ _ h => h) (fun _ _ _ h => h), h.nd, fun a m => ?_, fun p b q => ⟨(h.pu p b q).1, ?_, (h.pu p b q).2.2⟩, fun a z => ?_, fun a z => z.elim (h.dj a) fun m q => (f.ok a m).1 (.inr q), h.al⟩
  · rintro ((z | z) | z)
    · exact h.nz a m (.inl z)
    · exact (List.nodup_append.mp f.nd).2.2 a z a m rfl
    · exact h.nz a m (.inr z)
  · rintro ((z | z) | z)
    · exact (h.pu p b q).2.1 (.inl z)
    · exact (f.ok p z).2.1 p b q rfl
    · exact (h.pu p b q).2.1 (.inr z)
  · rcases z with (z | z) | z
    · exact h.ex a (.inl z)
    rotate_left
    · exact h.ex a (.inr z)
    · obtain ⟨xs, e⟩ := (f.ok a z).2.2
      exact ⟨_, e⟩
/-- what items give -/
def con : Sl → Option (Bool × D)
  | .fz d => some (nolist d, d)
  | .ow b d => some (b, d)
  | _ => none
def cont : List Sl → Option (Bool × List D)
  | [] => some (true, [])
  | s :: ss => (con s).bind fun x => (cont ss).bind fun y => some (x.1 && y.1, x.2 :: y.2)
theorem Ent.con {S : List Addr} {b : Bool} (h : Ent C Z H S (some v) s) (e : con s = some (b, d)) : Tr H (rgn b Z) S v d := by
  have up : ∀ {S d}, Tr H noReg S v d → Tr H (rgn b Z) S v d := fun {S d} t => Tr.mono (fun _ _ h => h) (fun _ z => z.elim) (fun _ z => z.elim) _ _ _ t fun _ _ _ h => h
  cases h with
  | jk v => cases e
  | fz t =>
    simp only [G.con, Option.some.injEq, Prod.mk.injEq] at e
    obtain ⟨e1, rfl⟩ := e
    cases b with
    | true => exact (Tr.nolist _ _ _ t e1).2
    | false => exact t
  | ow t =>
    simp only [G.con, Option.some.injEq, Prod.mk.injEq] at e
    obtain ⟨e1, rfl⟩ := e
    exact up t
  | sp h1 t =>
    simp only [G.con, Option.some.injEq, Prod.mk.injEq] at e
    obtain ⟨rfl, rfl⟩ := e
    exact .lst h1 t
  | al v i π => cases e
  | pu e' => cases e
  | io t e' => cases e
  | dc _ _ => cases e
  | dt _ _ => cases e
  | sh _ _ => cases e
  | xv _ _ => cases e
  | ho _ _ _ => cases e
theorem rgn_mono {b b' : Bool} (h : b' = true → b = true) : ∀ a, rgn b Z a → rgn b' Z a := fun a z => by
  cases b with
  | true => exact z.elim
  | false =>
    cases b' with
    | true => exact absurd (h rfl) (by simp)
    | false => exact z
theorem Tr.weak {Z' : Reg} {S : List Addr} (t : Tr H Z S v d) (h : ∀ a, Z a → Z' a) : Tr H Z' S v d := Tr.mono (fun _ _ h => h) h (fun _ _ _ h => h) _ _ _ t fun _ _ _ h => h
theorem Trs.weak {Z' : Reg} {S : List Addr} {vs : List V} {ds : List D} (t : Trs H Z S vs ds) (h : ∀ a, Z a → Z' a) : Trs H Z' S vs ds := Trs.mono (fun _ _ h => h) h (fun _ _ _ h => h) _ _ _ t fun _ _ _ h => h
theorem Ents.cont : ∀ {ss : List Sl} {vs : List V} {S : List Addr} {b : Bool} {ds : List D}, Ents C Z H S (vs.map some) ss → cont ss = some (b, ds) → Trs H (rgn b Z) S vs ds
  | [], [], _, b, ds, h, e => by
    cases h
    simp only [G.cont, Option.some.injEq, Prod.mk.injEq] at e
    obtain ⟨rfl, rfl⟩ := e
    exact .nil
  | [], v :: vs, _, b, ds, h, e => by cases h
  | s :: ss, [], _, b, ds, h, e => by cases h
  | s :: ss, v :: vs, _, b, ds, h, e => by
    cases h with
    | cons h1 h2 =>
      simp only [G.cont] at e
      cases q1 : con s with
      | none => rw [q1] at e; cases e
      | some x =>
        cases q2 : G.cont ss with
        | none => rw [q1, q2] at e; cases e
        | some y =>
          rw [q1, q2] at e
          simp only [Option.bind_some, Option.some.injEq, Prod.mk.injEq] at e
          obtain ⟨rfl, rfl⟩ := e
          have t1 := h1.con (b := x.1) (d := x.2) q1
          have t2 := Ents.cont (b := y.1) (ds := y.2) h2 q2
          refine .cons (t1.weak (rgn_mono fun z => ?_)) (t2.weak (rgn_mono fun z => ?_))
          · rw [Bool.and_eq_true] at z
            exact z.1
          · rw [Bool.and_eq_true] at z
            exact z.2
/-- a new container -/
def mkS (l b : Bool) (ds : List D) : Sl := if b then own (dq l ds) else if l then .ow false (.list ds) else .fz (.tuple ds)
theorem Tr.mk {l : Bool} {S : List Addr} {vs : List V} {ds : List D} {p : Addr} (e : H p = some (hoq l vs)) (t : Trs H Z S vs ds) : Tr H Z (if l then p :: S else S) (.ref p) (dq l ds) := by
  cases l with
  | true => exact .lst e t
  | false => exact .tup e t
theorem Rel.cont {ss : List Sl} {vs : List V} {b l : Bool} {ds : List D} {p : Addr} (h : Rel C ⟨sl, ss.reverse ++ tm, n⟩ (vs.reverse ++ Θ) σ H) (el : vs.length = ss.length) (e : cont ss = some (b, ds)) (hp : H p = none) :
    Rel C ⟨sl, mkS l b ds :: tm, n⟩ (.ref p :: Θ) σ (upd H p (hoq l vs)) := by
  have h1 := h.same (same_upd (o := hoq l vs) hp)
  obtain ⟨Z0, A1, A2, h0⟩ := h
  -- p is new
  have newp : ∀ a, (∃ xs, H a = some xs) → a ≠ p := fun a ⟨o, z⟩ e => by rw [e, hp] at z; cases z
  obtain ⟨A0, B0, e0, r0, f0⟩ := h0.popF (by simp [el])
  have kz : ∀ a o, H a = some o → upd H p (hoq l vs) a = some o := same_upd hp
  have r1 : RelX C Z0 A1 B0 ⟨sl, tm, n⟩ Θ σ (upd H p (hoq l vs)) := by
    refine ⟨fun a o e m => ⟨(r0.fr a o e m).1, kz a o (r0.fr a o e m).2⟩, r0.es.mono (fun t vs e => kz t _ e) (fun _ z => z) (fun a _ o e => kz a o e) (fun a _ o e => kz a o e), r0.et.mono (fun t vs e => kz t _ e) (fun _ z => z) (fun a _ o e => kz a o e) (fun a _ o e => kz a o e), r0.nd, r0.nz, fun q b e => ⟨(r0.pu q b e).1.mono (kz q), (r0.pu q b e).2⟩, fun a z => ?_, r0.dj, fun k j π u e ev => ?_⟩
    · obtain ⟨o, e⟩ := r0.ex a z
      exact ⟨o, kz a o e⟩
    · obtain ⟨s, d', e', w, g1, g2, g3, g4, wk⟩ := r0.al k j π u e ev
      obtain ⟨w', T', ew, t, sub⟩ := r0.slot g1 g2
      rw [g4] at ew
      cases ew
      exact ⟨s, d', e', w, g1, g2, g3, g4, (Tr.part t g3 wk).2 _ (fun t vs e => kz t _ e) fun a _ o e => kz a o e⟩
  obtain ⟨A, pmA, e3⟩ := e0.rev
  rw [← List.map_reverse, List.reverse_reverse, List.reverse_reverse] at e3
  have f1 : Fl C Z0 A1 B0 (upd H p (hoq l vs)) A := ⟨(List.Perm.append_right _ pmA).nodup_iff.mpr f0.nd, fun a m => by
    obtain ⟨q1, q2, xs, q3⟩ := f0.ok a (pmA.mem_iff.mp m)
    exact ⟨q1, q2, xs, kz a _ q3⟩⟩
  have e4 : Ents C Z0 (upd H p (hoq l vs)) A (vs.map some) ss := e3.mono (fun t vs e => kz t _ e) (fun _ z => z) (fun a _ o e => kz a o e) (fun a _ o e => kz a o e)
  have t := e4.cont e
  have upS : upd H p (hoq l vs) p = some (hoq l vs) := upd_same
  -- the new list itself
  have f2 : ∀ xs, hoq l vs = .lst xs → Fl C Z0 A1 B0 (upd H p (hoq l vs)) (p :: A) := fun xs ex => by
    refine ⟨?_, fun a m => ?_⟩
    · rw [List.cons_append]
      refine List.nodup_cons.mpr ⟨fun m => ?_, f1.nd⟩
      rcases List.mem_append.mp m with m | m
      · obtain ⟨ys, q⟩ := (f0.ok p (pmA.mem_iff.mp m)).2.2
        rw [hp] at q
        cases q
      · rcases List.mem_append.mp m with m | m
        · obtain ⟨ys, q⟩ := r0.es.dom p m
          rw [hp] at q
          cases q
        · obtain ⟨ys, q⟩ := r0.et.dom p m
          rw [hp] at q
          cases q
    · rcases List.mem_cons.mp m with rfl | m
      · refine ⟨fun z => ?_, fun q b e z => ?_, _, upS⟩
        · obtain ⟨o, q⟩ := r0.ex a z
          rw [hp] at q
          cases q
        · subst z
          obtain ⟨x, y, z, e2, _⟩ := (r0.pu a b e).1
          rw [hp] at e2
          cases e2
      · exact f1.ok a m
  cases b with
  | true =>
    show Rel C ⟨sl, own (dq l ds) :: tm, n⟩ _ σ _
    unfold own
    by_cases hn : nolist (dq l ds) = true
    · rw [if_pos hn]
      refine Rel.push ⟨_, _, _, r1⟩ fun Z => ?_
      exact (Tr.nolist _ _ _ (Tr.mk upS t) hn).2
    · rw [if_neg hn]
      cases l with
      | true => exact ⟨_, _, _, r1.pushF (f2 _ rfl) (A' := p :: A) (Dr := []) (by simp) (.ow (Tr.mk (l := true) upS t)) (fun i π z => nomatch z)⟩
      | false => exact ⟨_, _, _, r1.pushF f1 (A' := A) (Dr := []) (by simp) (.ow (Tr.mk (l := false) upS t)) (fun i π z => nomatch z)⟩
  | false =>
    cases l with
    | true => exact ⟨_, _, _, r1.pushF (f2 _ rfl) (A' := p :: A) (Dr := []) (by simp) (.sp upS t) (fun i π z => nomatch z)⟩
    | false =>
      have g := r1.growF f1
      have t2 : Tr (upd H p (hoq false vs)) (fun a => Z0 a ∨ a ∈ A) [] (.ref p) (.tuple ds) := .tup upS (Trs.freeze (fun _ z => .inl z) _ _ _ t fun _ m => .inr m)
      exact ⟨_, _, _, g.pushE (Z' := fun _ => False) (.fz t2) List.nodup_nil (fun a m => nomatch m) (fun i π z => nomatch z)⟩
/-- a tuple's items, all at once -/
def itS : Sl → Option (List Sl)
  | .fz (.tuple ds) => some (ds.map .fz)
  | .ow true (.tuple ds) => some (ds.map own)
  | _ => none
theorem Trs.own : ∀ {ds : List D} {vs : List V} {S : List Addr}, Trs H noReg S vs ds → Ents C Z H S (vs.map some) (ds.map G.own)
  | [], _, _, h => by cases h; exact .nil
  | d :: ds, _, _, h => by
    cases h with
    | @cons S T v _ _ _ h1 h2 =>
      refine .cons ?_ (Trs.own h2)
      unfold G.own
      by_cases hn : G.nolist d = true
      · rw [if_pos hn]
        obtain ⟨rfl, t⟩ := Tr.nolist (Z' := Z) _ _ _ h1 hn
        exact .fz t
      · rw [if_neg hn]
        exact .ow h1
theorem Trs.fzs : ∀ {ds : List D} {vs : List V} {S : List Addr}, Trs H Z S vs ds → S = [] → Ents C Z H [] (vs.map some) (ds.map Sl.fz)
  | [], _, _, h, _ => by cases h; exact .nil
  | d :: ds, _, _, h, e => by
    cases h with
    | cons h1 h2 =>
      obtain ⟨rfl, rfl⟩ := List.append_eq_nil_iff.mp e
      exact .cons (S := []) (.fz h1) (Trs.fzs h2 rfl)
theorem RelX.pushEs {ss : List Sl} {us : List V} (h : RelX C Z S1 S2 ⟨sl, tm, n⟩ Θ σ H) (f : Fl C Z S1 S2 H A) (en : Ents C Z H A (us.map some) ss) (na : ∀ s ∈ ss, ∀ i π, s ≠ .al i π) : RelX C Z S1 (A ++ S2) ⟨sl, ss ++ tm, n⟩ (us ++ Θ) σ H := by
  have pm : (S1 ++ (A ++ S2)).Perm (A ++ (S1 ++ S2)) := by
    rw [← List.append_assoc, ← List.append_assoc]
    exact List.Perm.append_right S2 List.perm_append_comm
  have el : us.length = ss.length := by simpa using en.length
  refine ⟨h.fr, h.es, by rw [List.map_append]; exact en.append h.et, pm.nodup_iff.mpr f.nd, fun a m => ?_, fun p b q => ⟨(h.pu p b q).1, (h.pu p b q).2.1, fun m => ?_⟩, h.ex, h.dj, fun k j π u e ev => ?_⟩
  · rcases List.mem_append.mp (pm.mem_iff.mp m) with m | m
    · exact (f.ok a m).1
    · exact h.nz a m
  · rcases List.mem_append.mp (pm.mem_iff.mp m) with m | m
    · exact (f.ok p m).2.1 p b q rfl
    · exact (h.pu p b q).2.2 m
  · by_cases hk : k < ss.length
    · change (ss ++ tm)[k]? = _ at e
      rw [List.getElem?_append_left hk] at e
      exact absurd rfl (na _ (List.mem_of_getElem? e) j π)
    · refine h.al (k - ss.length) j π u ?_ ?_
      · rw [List.getElem?_append_right (by omega)] at e
        exact e
      · rw [List.getElem?_append_right (by omega), el] at ev
        exact ev
theorem Rel.unpack {ss : List Sl} (h : Rel C ⟨sl, s :: tm, n⟩ (v :: Θ) σ H) (e : itS s = some ss) : ∃ a vs, v = .ref a ∧ H a = some (.tup vs) ∧ vs.length = ss.length ∧ Rel C ⟨sl, ss ++ tm, n⟩ (vs ++ Θ) σ H := by
  obtain ⟨Z, S1, S2, h⟩ := h
  obtain ⟨A, B, es, r, f⟩ := RelX.popF (ss := [s]) (us := [v]) h rfl
  have es' : ∃ A', Ent C Z H A' (some v) s ∧ A = A' := by
    cases es with
    | cons e1 e2 =>
      cases e2
      exact ⟨_, e1, by simp⟩
  obtain ⟨A', en, rfl⟩ := es'
  cases en with
  | jk v => cases e
  | al v i π => cases e
  | pu q => cases e
  | io t q => cases e
  | dc _ _ => cases e
  | dt _ _ => cases e
  | sh _ _ => cases e
  | xv _ _ => cases e
  | ho _ _ _ => cases e
  | sp q t => cases e
  | @fz _ d t =>
    cases d with
    | tuple ds =>
      cases e
      cases t with
      | @tup a vs _ _ q ts =>
        exact ⟨a, vs, rfl, q, by simp [ts.length], Z, S1, _, r.pushEs f (Trs.fzs ts rfl) fun s m i π z => by
          obtain ⟨x, _, rfl⟩ := List.mem_map.mp m
          cases z⟩
    | _ => cases e
  | @ow _ d _ t =>
    cases d with
    | tuple ds =>
      cases e
      cases t with
      | @tup a vs _ _ q ts =>
        exact ⟨a, vs, rfl, q, by simp [ts.length], Z, S1, _, r.pushEs f (Trs.own ts) fun s m i π z => by
          obtain ⟨x, _, rfl⟩ := List.mem_map.mp m
          unfold G.own at z
          split at z <;> cases z⟩
    | _ => cases e
end
section
variable {C : Cn} {Z : Reg} {S1 S2 A : List Addr} {γ : VSt} {Θ : List V} {σ : L2.St} {H H' : Hp} {sl tm : List Sl} {n n' : Int} {v : V} {s : Sl} {d : D} {i : Nat}
/-- cells of two slots are apart -/
theorem Ents.apart : ∀ {ss : List Sl} {S : List Addr} {vs : List (Option V)} {i j : Nat} {si sj : Sl}, Ents C Z H S vs ss → ss[i]? = some si → ss[j]? = some sj → i ≠ j → S.Nodup → ∃ vi Ti vj Tj, vs[i]? = some vi ∧ vs[j]? = some vj ∧ Ent C Z H Ti vi si ∧ Ent C Z H Tj vj sj ∧ (∀ x ∈ Ti, x ∈ S ∧ x ∉ Tj) ∧ ∀ x ∈ Tj, x ∈ S
  | [], _, _, _, _, _, _, _, e, _, _, _ => by simp at e
  | s :: ss, _, _, 0, 0, _, _, _, _, _, ne, _ => absurd rfl ne
  | s :: ss, _, _, 0, j + 1, _, _, h, ei, ej, _, nd => by
    cases h with
    | @cons S T _ _ _ _ h1 h2 =>
      simp at ei ej
      subst ei
      obtain ⟨v, T1, R, e1, en, pm, _⟩ := h2.at ej
      exact ⟨_, _, v, T1, rfl, by simpa using e1, h1, en, fun x m => ⟨List.mem_append_left _ m, fun m' => (List.nodup_append.mp nd).2.2 x m x (pm.mem_iff.mpr (List.mem_append_left _ m')) rfl⟩, fun x m => List.mem_append_right _ (pm.mem_iff.mpr (List.mem_append_left _ m))⟩
  | s :: ss, _, _, i + 1, 0, _, _, h, ei, ej, _, nd => by
    cases h with
    | @cons S T _ _ _ _ h1 h2 =>
      simp at ei ej
      subst ej
      obtain ⟨v, T1, R, e1, en, pm, _⟩ := h2.at ei
      exact ⟨v, T1, _, _, by simpa using e1, rfl, en, h1, fun x m => ⟨List.mem_append_right _ (pm.mem_iff.mpr (List.mem_append_left _ m)), fun m' => (List.nodup_append.mp nd).2.2 x m' x (pm.mem_iff.mpr (List.mem_append_left _ m)) rfl⟩, fun x m => List.mem_append_left _ m⟩
  | s :: ss, _, _, i + 1, j + 1, _, _, h, ei, ej, ne, nd => by
    cases h with
    | @cons S T _ _ _ _ h1 h2 =>
      obtain ⟨vi, Ti, vj, Tj, a, b, c, d, e, f⟩ := Ents.apart (i := i) (j := j) h2 (by simpa using ei) (by simpa using ej) (by omega) (List.nodup_append.mp nd).2.1
      exact ⟨vi, Ti, vj, Tj, by simpa using a, by simpa using b, c, d, fun x m => ⟨List.mem_append_right _ (e x m).1, (e x m).2⟩, fun x m => List.mem_append_right _ (f x m)⟩
theorem setP_nil {d x : D} : setP d [] x = x := by cases d <;> rfl
/-- what stands in a name behind a write -/
def reS (s : Sl) (b : Bool) (d : D) : Sl := match s with
  | .io _ => .io d
  | _ => .ow b d
/-- a list that a name owns is written -/
theorem RelX.putF {b : Bool} {s0 : Sl} {π : List Nat} {es : List D} {w0 : V} (h : RelX C Z S1 S2 ⟨sl, tm, n⟩ Θ σ H) (f : Fl C Z S1 S2 H A) (e : sl[i]? = some s0) (hs : s0 = .ow b d ∨ (s0 = .io d ∧ b = true)) (na : noAl i tm = true) (ew : σ[i]? = some (some w0)) (wk : Wk H w0 π v) (p : atP d π = some (.list es)) (hb : b = true ∨ π = []) :
    ∃ a vs T, v = .ref a ∧ H a = some (.lst vs) ∧ Trs H (rgn b Z) T vs es ∧ a ∉ A ∧ ¬ Z a ∧ (∀ x ∈ T, x ≠ a) ∧
      ∀ us es' b' T' Dr, (b' = b ∨ (b' = false ∧ π = [])) → (∀ x, s0 = .io x → b' = true) → Trs (upd H a (.lst us)) (rgn b' Z) T' us es' → (T ++ A).Perm (T' ++ Dr) → ∃ S1', RelX C Z S1' S2 ⟨sl.set i (reS s0 b' (setP d π (.list es'))), tm, n⟩ Θ σ (upd H a (.lst us)) ∧ Fl C Z S1' S2 (upd H a (.lst us)) Dr := by
  obtain ⟨v0, T0, R0, ev, en, pm, k⟩ := h.es.at e
  rw [ew] at ev
  cases ev
  have eσ : σ.set i (some w0) = σ := by
    refine List.ext_getElem? fun j => ?_
    by_cases hj : i = j
    · subst hj
      rw [List.getElem?_set_self (List.getElem?_eq_some_iff.mp ew).1, ew]
    · rw [List.getElem?_set_ne hj]
  -- the cells of the slot's tree
  have key : ∃ a vs T R, v = .ref a ∧ H a = some (.lst vs) ∧ Trs H (rgn b Z) T vs es ∧ T0.Perm (a :: T ++ R) ∧
      ∀ us es' b' T', T0.Nodup → (b' = b ∨ (b' = false ∧ π = [])) → (∀ x, s0 = .io x → b' = true) → Trs (upd H a (.lst us)) (rgn b' Z) T' us es' → ∃ E X, Ent C Z (upd H a (.lst us)) E (some w0) (reS s0 b' (setP d π (.list es'))) ∧ (E ++ X).Perm (a :: T' ++ R) := by
    rcases hs with rfl | ⟨rfl, rfl⟩
    case inr =>
      cases en with
      | io t eio =>
        obtain ⟨a, vs, T, R, rfl, ha, ts, p0, kk⟩ := Tr.put t p wk
        refine ⟨a, vs, T, R, rfl, ha, ts, p0, fun us es' b' T' nd hb' hio t' => ?_⟩
        obtain rfl := hio _ rfl
        obtain ⟨S', t2, p2⟩ := kk us es' T' nd t'
        exact ⟨S', [], .io t2 eio, by simpa using p2⟩
    cases en with
    | ow t =>
      obtain ⟨a, vs, T, R, rfl, ha, ts, p0, kk⟩ := Tr.put t p wk
      refine ⟨a, vs, T, R, rfl, ha, ts, p0, fun us es' b' T' nd hb' _ t' => ?_⟩
      rcases hb' with rfl | ⟨rfl, rfl⟩
      · obtain ⟨S', t2, p2⟩ := kk us es' T' nd t'
        exact ⟨S', [], .ow t2, by simpa using p2⟩
      · cases wk
        refine ⟨a :: T', R, ?_, .refl _⟩
        rw [setP_nil]
        exact .sp upd_same t'
    | @sp a0 vs0 ds0 T1 ha t =>
      have e0 : π = [] := hb.elim (fun z => by cases z) id
      subst e0
      cases wk
      simp only [atP, Option.some.injEq, PyData.list.injEq] at p
      subst p
      refine ⟨a0, vs0, T1, [], rfl, ha, t, by simp, fun us es' b' T' nd hb' _ t' => ?_⟩
      have e1 : b' = false := hb'.elim id fun z => z.1
      subst e1
      refine ⟨a0 :: T', [], ?_, by simp⟩
      rw [setP_nil]
      exact .sp upd_same t'
  obtain ⟨a, vs, T, R, rfl, ha, ts, p0, kk⟩ := key
  have cnt : ∀ x, List.count x S1 = List.count x (a :: T ++ R) + List.count x R0 := fun x => by
    have q1 := pm.count_eq x
    have q2 := p0.count_eq x
    rw [List.count_append] at q1
    omega
  have ndf : ∀ x, List.count x A + (List.count x S1 + List.count x S2) ≤ 1 := fun x => by
    have := nodup_cnt.mp f.nd x
    rw [List.count_append, List.count_append] at this
    exact this
  have aS : a ∈ S1 := pm.mem_iff.mpr (List.mem_append_left _ (p0.mem_iff.mpr (by simp)))
  have cpos : ∀ {x : Addr} {l : List Addr}, x ∈ l → 0 < List.count x l := fun h => List.count_pos_iff.mpr h
  have ca : List.count a (a :: T ++ R) = 1 + (List.count a T + List.count a R) := by
    rw [List.count_append, List.count_cons]
    simp
    omega
  have aA : a ∉ A := fun m => by
    have := cpos m
    have := ndf a
    have := cnt a
    omega
  have aR0 : a ∉ R0 := fun m => by
    have := cpos m
    have := ndf a
    have := cnt a
    omega
  have aS2 : a ∉ S2 := fun m => by
    have := cpos m
    have := ndf a
    have := cnt a
    omega
  have aT : ∀ x ∈ T, x ≠ a := fun x m z => by
    subst z
    have := cpos m
    have := ndf x
    have := cnt x
    omega
  refine ⟨a, vs, T, rfl, ha, ts, aA, fun z => h.nz a (List.mem_append_left _ aS) (.inl z), aT, fun us es' b' T' Dr hb' hio t' pD => ?_⟩
  have T0nd : T0.Nodup := nodup_cnt.mpr fun x => by
    have := ndf x
    have := pm.count_eq x
    rw [List.count_append] at this
    omega
  obtain ⟨E, X, en', pE⟩ := kk us es' b' T' T0nd hb' hio t'
  have aZ : ¬ C.tz Z a := h.nz a (List.mem_append_left _ aS)
  have ap : ∀ q b0, C.pu = some (q, b0) → q ≠ a := fun q b0 eq z => (h.pu q b0 eq).2.2 (z ▸ List.mem_append_left _ aS)
  have kt : ∀ t xs, H t = some (.tup xs) → upd H a (.lst us) t = some (.tup xs) := fun t xs et => by
    rw [upd_ne (show t ≠ a from fun z => by rw [z, ha] at et; cases et)]
    exact et
  have kz0 : ∀ x, C.tz Z x → ∀ o, H x = some o → upd H a (.lst us) x = some o := fun x z o eo => by
    rw [upd_ne (show x ≠ a from fun q => aZ (q ▸ z))]
    exact eo
  have kz : ∀ x, Z x → ∀ o, H x = some o → upd H a (.lst us) x = some o := fun x z => kz0 x (.inl z)
  have kne : ∀ x, x ≠ a → ∀ o, H x = some o → upd H a (.lst us) x = some o := fun x q o eo => by
    rw [upd_ne q]
    exact eo
  obtain ⟨S1', es1, p1⟩ := k (upd H a (.lst us)) Z E (some w0) _ kt (fun _ z => z) kz (fun x m => kne x fun q => aR0 (q ▸ m)) en'
  rw [eσ] at es1
  have cnt2 : ∀ x, List.count x S1' + List.count x X = List.count x (a :: T' ++ R) + List.count x R0 := fun x => by
    have q1 := p1.count_eq x
    have q2 := pE.count_eq x
    rw [List.count_append] at q1 q2
    omega
  have cD : ∀ x, List.count x T + List.count x A = List.count x T' + List.count x Dr := fun x => by
    have := pD.count_eq x
    rw [List.count_append, List.count_append] at this
    exact this
  have call : ∀ x, List.count x Dr + (List.count x S1' + List.count x S2) ≤ 1 := fun x => by
    have h1 := ndf x
    have h2 := cnt x
    have h3 := cnt2 x
    have h4 := cD x
    have e1 : List.count x (a :: T ++ R) = List.count x [a] + (List.count x T + List.count x R) := by
      rw [List.cons_append, ← List.singleton_append, List.count_append, List.count_append]
    have e2 : List.count x (a :: T' ++ R) = List.count x [a] + (List.count x T' + List.count x R) := by
      rw [List.cons_append, ← List.singleton_append, List.count_append, List.count_append]
    omega
  have memS : ∀ x, x ∈ S1' ∨ x ∈ Dr → x ∈ S1 ∨ x ∈ A := fun x m => by
    have h2 := cnt x
    have h3 := cnt2 x
    have h4 := cD x
    have e1 : List.count x (a :: T ++ R) = List.count x [a] + (List.count x T + List.count x R) := by
      rw [List.cons_append, ← List.singleton_append, List.count_append, List.count_append]
    have e2 : List.count x (a :: T' ++ R) = List.count x [a] + (List.count x T' + List.count x R) := by
      rw [List.cons_append, ← List.singleton_append, List.count_append, List.count_append]
    rcases Nat.lt_or_ge 0 (List.count x S1) with z | z
    · exact .inl (List.count_pos_iff.mp z)
    · rcases Nat.lt_or_ge 0 (List.count x A) with z' | z'
      · exact .inr (List.count_pos_iff.mp z')
      · exfalso
        rcases m with m | m
        · have := cpos m
          omega
        · have := cpos m
          omega
  have fr : ∀ x ∈ S1 ++ S2, ¬ C.tz Z x ∧ ∀ q b0, C.pu = some (q, b0) → x ≠ q := h.frame
  refine ⟨S1', ⟨fun x o eo m => ⟨(h.fr x o eo m).1, kz0 x (h.fr x o eo m).1 o (h.fr x o eo m).2⟩, es1, h.et.mono kt (fun _ z => z) kz fun x m => kne x fun q => aS2 (q ▸ m), ?_, fun x m => ?_, fun q b0 eq => ⟨(h.pu q b0 eq).1.mono fun o eo => kne q (ap q b0 eq) o eo, (h.pu q b0 eq).2.1, fun m => ?_⟩, fun x z => ?_, h.dj, fun j i' π' u e' ev' => ?_⟩, ⟨?_, fun x m => ?_⟩⟩
  · refine nodup_cnt.mpr fun x => ?_
    rw [List.count_append]
    have := call x
    omega
  · rcases List.mem_append.mp m with m | m
    · rcases memS x (.inl m) with q | q
      · exact h.nz x (List.mem_append_left _ q)
      · exact (f.ok x q).1
    · exact h.nz x (List.mem_append_right _ m)
  · rcases List.mem_append.mp m with m | m
    · rcases memS q (.inl m) with z | z
      · exact (h.pu q b0 eq).2.2 (List.mem_append_left _ z)
      · exact (f.ok q z).2.1 q b0 eq rfl
    · exact (h.pu q b0 eq).2.2 (List.mem_append_right _ m)
  · obtain ⟨o, eo⟩ := h.ex x z
    exact ⟨o, kz0 x z o eo⟩
  · obtain ⟨s1, d', e3, w', g1, g2, g3, g4, wk'⟩ := h.al j i' π' u e' ev'
    have hj := al_set na e'
    refine ⟨s1, d', e3, w', (List.getElem?_set_ne hj).trans g1, g2, g3, g4, ?_⟩
    -- the other slot's tree is kept
    obtain ⟨vi, Ti, vj, Tj, f1, f2, f3, f4, f5, _⟩ := Ents.apart h.es e g1 hj (List.nodup_append.mp h.nd).1
    rw [ew] at f1
    cases f1
    rw [g4] at f2
    cases f2
    obtain ⟨w1, Tw, ew1, t1, sbw⟩ := f4.tr g2
    cases ew1
    have aT1 : a ∉ Tw := fun mz => by
      revert mz
      refine fun mz => (f5 a ?_).2 (sbw a mz)
      rcases hs with rfl | ⟨rfl, rfl⟩
      case inr =>
        cases en with
        | io t _ =>
          cases f3 with
          | io t' _ =>
            have uq := repU _ _ _ _ (Tr.repO _ _ _ t) (Tr.repO _ _ _ t')
            rw [← uq]
            exact p0.mem_iff.mpr (by simp)
      cases en with
      | ow t =>
        cases f3 with
        | ow t' =>
          have uq := repU _ _ _ _ (Tr.repO _ _ _ t) (Tr.repO _ _ _ t')
          rw [← uq]
          exact p0.mem_iff.mpr (by simp)
      | sp q t =>
        cases f3 with
        | sp q' t' =>
          have e0 : π = [] := hb.elim (fun z => by cases z) id
          subst e0
          cases wk
          simp
    exact (Tr.part t1 g3 wk').2 _ kt fun x z => z.elim (kz x) fun m => kne x fun q => aT1 (q ▸ m)
  · refine nodup_cnt.mpr fun x => ?_
    rw [List.count_append, List.count_append]
    exact call x
  · rcases memS x (.inr m) with q | q
    · refine ⟨h.nz x (List.mem_append_left _ q), (fr x (List.mem_append_left _ q)).2, ?_⟩
      obtain ⟨xs, eo⟩ := h.es.dom x q
      by_cases hx : x = a
      · exact ⟨_, by rw [hx]; exact upd_same⟩
      · exact ⟨xs, kne x hx _ eo⟩
    · obtain ⟨q1, q2, xs, eo⟩ := f.ok x q
      exact ⟨q1, q2, xs, kne x (fun z => aA (z ▸ q)) _ eo⟩
/-- what is apart from a written cell stays -/
theorem Trs.upd {b : Bool} {a : Addr} {us : List V} {vs0 : List V} {vs : List V} {ds : List D} {T : List Addr} (t : Trs H (rgn b Z) T vs ds) (ha : H a = some (.lst vs0)) (nz : ¬ Z a) (nt : ∀ x ∈ T, x ≠ a) : Trs (upd H a (.lst us)) (rgn b Z) T vs ds := by
  refine Trs.mono (fun t xs et => ?_) (fun _ z => z) (fun x z o e => ?_) _ _ _ t fun x m o e => ?_
  · rw [upd_ne (show t ≠ a from fun z => by rw [z, ha] at et; cases et)]
    exact et
  · rw [upd_ne (show x ≠ a from fun q => ?_)]
    · exact e
    · subst q
      cases b with
      | true => exact z.elim
      | false => exact nz z
  · rw [upd_ne (nt x m)]
    exact e
theorem Tr.upd {b : Bool} {a : Addr} {us : List V} {vs0 : List V} {T : List Addr} (t : Tr H (rgn b Z) T v d) (ha : H a = some (.lst vs0)) (nz : ¬ Z a) (nt : ∀ x ∈ T, x ≠ a) : Tr (upd H a (.lst us)) (rgn b Z) T v d := by
  refine Tr.mono (fun t xs et => ?_) (fun _ z => z) (fun x z o e => ?_) _ _ _ t fun x m o e => ?_
  · rw [upd_ne (show t ≠ a from fun z => by rw [z, ha] at et; cases et)]
    exact et
  · rw [upd_ne (show x ≠ a from fun q => ?_)]
    · exact e
    · subst q
      cases b with
      | true => exact z.elim
      | false => exact nz z
  · rw [upd_ne (nt x m)]
    exact e
end
end G
/-! GK: what a construct makes of values; each holds of the layer's reading. -/
namespace G
open PySem PySem.Spec PyProof.Rows L2

abbrev KE := VSt → (VSt → Prop) → Prop
abbrev KT := VSt → (Bool → VSt → Prop) → Prop
structure KEd where
  nx : VSt → Prop
  rt : Sl → VSt → Prop
  bk : VSt → Prop
  ct : VSt → Prop
abbrev KS := VSt → KEd → Prop
abbrev KO := VSt → (Option Int → VSt → Prop) → Prop
abbrev KG := VSt → (VSt → Prop) → Prop

/-- where errors go, and which may go there -/
structure XC (C : Cn) where
  E : L2.St → XK
  X : Addr → D → VSt → Prop
  ok : ∀ {c dd : Addr} {d : D} {γ : VSt} {Θ : List V} {σ : L2.St} {H : Hp}, X c d γ → Rel C ⟨γ.sl, .xv dd dd d :: γ.tm, γ.n⟩ (.ref dd :: Θ) σ H → E σ (.ref c) (some dd) H
/-- nothing is raised -/
def noXC (C : Cn) : XC C := ⟨fun _ => E0, fun _ _ _ => False, fun h _ => h.elim⟩
def SoE {C : Cn} (xc : XC C) (t : TE) (k : KE) : Prop := ∀ (γ : VSt) (Θ : List V) (σ : L2.St) (H : Hp) (Q : VK) (q : VSt → Prop), Rel C γ Θ σ H → k γ q → (∀ γ' v H', q γ' → Rel C γ' (v :: Θ) σ H' → Q v H') → t σ H Q
def SoT {C : Cn} (xc : XC C) (t : TT) (k : KT) : Prop := ∀ (γ : VSt) (Θ : List V) (σ : L2.St) (H : Hp) (Q : Bool → Hp → Prop) (q : Bool → VSt → Prop), Rel C γ Θ σ H → k γ q → (∀ b γ' H', q b γ' → Rel C γ' Θ σ H' → Q b H') → t σ H Q
def SoA {C : Cn} (xc : XC C) (n : Nat) (t : TA) (k : KE) : Prop := ∀ (γ : VSt) (Θ : List V) (σ : L2.St) (H : Hp) (Q : List V → Hp → Prop) (q : VSt → Prop), Rel C γ Θ σ H → k γ q → (∀ γ' vs H', vs.length = n → q γ' → Rel C γ' (vs.reverse ++ Θ) σ H' → Q vs H') → t σ H Q
def SoO {C : Cn} (xc : XC C) (t : TO) (k : KO) : Prop := ∀ (γ : VSt) (Θ : List V) (σ : L2.St) (H : Hp) (Q : Option Int → Hp → Prop) (q : Option Int → VSt → Prop), Rel C γ Θ σ H → k γ q → (∀ i γ' H', q i γ' → Rel C γ' Θ σ H' → Q i H') → t σ H Q
/-- a target: the top is stored -/
def SoG {C : Cn} (xc : XC C) (t : TG) (k : KG) : Prop := ∀ (γ : VSt) (v : V) (Θ : List V) (σ : L2.St) (H : Hp) (Q : L2.St → Hp → Prop) (q : VSt → Prop), Rel C γ (v :: Θ) σ H → k γ q → (∀ γ' σ' H', q γ' → Rel C γ' Θ σ' H' → Q σ' H') → t v σ H Q
structure SoD (C : Cn) (Θ : List V) (e : KEd) (De : Ends) : Prop where
  nx : ∀ γ' σ' H', e.nx γ' → Rel C γ' Θ σ' H' → De.nx σ' H'
  rt : ∀ s γ' v Θ' σ' H', e.rt s γ' → Rel C ⟨γ'.sl, s :: γ'.tm, γ'.n⟩ (v :: Θ') σ' H' → De.rt v H'
  bk : ∀ γ' σ' H', e.bk γ' → Rel C γ' Θ σ' H' → De.bk σ' H'
  ct : ∀ γ' σ' H', e.ct γ' → Rel C γ' Θ σ' H' → De.ct σ' H'
def SoS {C : Cn} (xc : XC C) (t : TS) (k : KS) : Prop := ∀ (γ : VSt) (Θ : List V) (σ : L2.St) (H : Hp) (De : Ends) (e : KEd), Rel C γ Θ σ H → k γ e → SoD C Θ e De → t De σ H

variable {C : Cn} {xc : XC C}
/-- a value of data that holds no list: the same in every heap -/
def Sca (v : V) (d : D) : Prop := ∀ (H : Hp) (Z : Reg), Tr H Z [] v d
theorem sca_int (i : Int) : Sca (.int i) (.int i) := fun _ _ => .int i
theorem sca_bl (b : Bool) : Sca (.bl b) (.bool b) := fun _ _ => .bl b
theorem sca_str (x : Str) : Sca (.str x) (.str x) := fun _ _ => .str x
theorem sca_non : Sca .non .none := fun _ _ => .non

section
variable {t t1 t2 ta tb tc : TE} {k k1 k2 ka kb kc : KE} {n m : Nat}
/-! ### names, constants -/
def kC (d : D) : KE := fun γ q => q ⟨γ.sl, .fz d :: γ.tm, γ.n⟩
def kVar (i : Nat) : KE := fun γ q => match γ.sl[i]? with
  | some (.fz d) => q ⟨γ.sl, .fz d :: γ.tm, γ.n⟩
  | some (.ow _ _) => q ⟨γ.sl, .al i [] :: γ.tm, γ.n⟩
  | some (.io _) => q ⟨γ.sl, .al i [] :: γ.tm, γ.n⟩
  | some (.sh _) => q ⟨γ.sl, .al i [] :: γ.tm, γ.n⟩
  | some .pu => q ⟨γ.sl, .pu :: γ.tm, γ.n⟩
  | _ => False
/-- .. frozen from now on -/
def kFrz (i : Nat) : KE := fun γ q => match γ.sl[i]? with
  | some (.fz d) => q ⟨γ.sl, .fz d :: γ.tm, γ.n⟩
  | some (.ow _ d) => q ⟨γ.sl.set i (.fz d), .fz d :: γ.tm, γ.n⟩
  | some .pu => q ⟨γ.sl, .pu :: γ.tm, γ.n⟩
  | _ => False
/-- .. for the last time -/
def kMov (i : Nat) : KE := fun γ q => match γ.sl[i]? with
  | some (.fz d) => q ⟨γ.sl, .fz d :: γ.tm, γ.n⟩
  | some (.ow b d) => noAl i γ.tm = true ∧ q ⟨γ.sl.set i .jk, .ow b d :: γ.tm, γ.n⟩
  | _ => False
theorem so_c {v : V} {d : D} (h : Sca v d) : SoE xc (tC v) (kC d) := fun γ Θ σ H Q q R hk w => w _ v H hk (R.push fun Z => h H Z)
theorem so_var {i : Nat} : SoE xc (tVar i) (kVar i) := fun γ Θ σ H Q q R hk w => by
  unfold kVar at hk
  obtain ⟨sl, tm, n⟩ := γ
  dsimp only at hk
  split at hk
  · rename_i d e
    obtain ⟨v, ev, R'⟩ := R.varF e
    exact ⟨v, ev, w _ v H hk R'⟩
  · rename_i b d e
    obtain ⟨v, ev, R'⟩ := R.varA e rfl
    exact ⟨v, ev, w _ v H hk R'⟩
  · rename_i d e
    obtain ⟨v, ev, R'⟩ := R.varA e rfl
    exact ⟨v, ev, w _ v H hk R'⟩
  · rename_i d e
    obtain ⟨v, ev, R'⟩ := R.varA e rfl
    exact ⟨v, ev, w _ v H hk R'⟩
  · rename_i e
    obtain ⟨p, b, _, ev, R'⟩ := R.varP e
    exact ⟨_, ev, w _ _ H hk R'⟩
  · exact hk.elim
theorem so_frz {i : Nat} : SoE xc (tVar i) (kFrz i) := fun γ Θ σ H Q q R hk w => by
  unfold kFrz at hk
  obtain ⟨sl, tm, n⟩ := γ
  dsimp only at hk
  split at hk
  · rename_i d e
    obtain ⟨v, ev, R'⟩ := R.varF e
    exact ⟨v, ev, w _ v H hk R'⟩
  · rename_i b d e
    have R1 := R.frzS e
    obtain ⟨v, ev, R'⟩ := R1.varF (i := i) (d := d) (List.getElem?_set_self (List.getElem?_eq_some_iff.mp e).1)
    exact ⟨v, ev, w _ v H hk R'⟩
  · rename_i e
    obtain ⟨p, b, _, ev, R'⟩ := R.varP e
    exact ⟨_, ev, w _ _ H hk R'⟩
  · exact hk.elim
theorem so_mov {i : Nat} : SoE xc (tVar i) (kMov i) := fun γ Θ σ H Q q R hk w => by
  unfold kMov at hk
  obtain ⟨sl, tm, n⟩ := γ
  dsimp only at hk
  split at hk
  · rename_i d e
    obtain ⟨v, ev, R'⟩ := R.varF e
    exact ⟨v, ev, w _ v H hk R'⟩
  · rename_i b d e
    obtain ⟨v, ev, R'⟩ := R.mov e hk.1
    exact ⟨v, ev, w _ v H hk.2 R'⟩
  · exact hk.elim

/-! ### argument lists -/
def kNil : KE := fun γ q => q γ
def kCons (ka kb : KE) : KE := fun γ q => ka γ fun γ1 => kb γ1 q
theorem so_nil : SoA xc 0 tNil kNil := fun γ Θ σ H Q q R hk w => w γ [] H rfl hk R
theorem so_cons {ts : TA} (h : SoE xc t k) (hs : SoA xc n ts kb) : SoA xc (n + 1) (tCons t ts) (kCons k kb) := fun γ Θ σ H Q q R hk w =>
  h γ Θ σ H _ _ R hk fun γ1 v H1 hk1 R1 => hs γ1 _ σ H1 _ _ R1 hk1 fun γ2 vs H2 el hq R2 => w γ2 (v :: vs) H2 (by simp [el]) hq (by simpa using R2)
/-- the data of the upper n -/
def datN (sl : List Sl) : Nat → List Sl → Option (List D × List Sl)
  | 0, tm => some ([], tm)
  | _ + 1, [] => none
  | n + 1, s :: tm => (look sl s).bind fun d => (datN sl n tm).bind fun x => some (x.1 ++ [d], x.2)
theorem datN_len {sl : List Sl} : ∀ {n : Nat} {tm r : List Sl} {ds : List D}, datN sl n tm = some (ds, r) → ds.length = n
  | 0, _, _, _, h => by simp only [datN, Option.some.injEq, Prod.mk.injEq] at h; rw [← h.1]; rfl
  | n + 1, [], _, _, h => by cases h
  | n + 1, s :: tm, r, ds, h => by
    simp only [datN] at h
    cases e : look sl s with
    | none => rw [e] at h; cases h
    | some d =>
      cases e2 : datN sl n tm with
      | none => rw [e, e2] at h; cases h
      | some x =>
        rw [e, e2] at h
        simp only [Option.bind_some, Option.some.injEq, Prod.mk.injEq] at h
        have := datN_len (ds := x.1) (r := x.2) e2
        rw [← h.1]
        simp [this]
theorem Rel.pops {C : Cn} {sl : List Sl} {σ : L2.St} {H : Hp} {j : Int} : ∀ {n : Nat} {tm r : List Sl} {ds : List D} {vs Θ : List V}, Rel C ⟨sl, tm, j⟩ (vs.reverse ++ Θ) σ H → vs.length = n → datN sl n tm = some (ds, r) → Rel C ⟨sl, r, j⟩ Θ σ H ∧ ∃ T, Reps H T vs ds ∧ ∀ p b, C.pu = some (p, b) → p ∉ T
  | 0, tm, r, ds, vs, Θ, R, el, e => by
    simp only [datN, Option.some.injEq, Prod.mk.injEq] at e
    obtain ⟨rfl, rfl⟩ := e
    match vs, el with
    | [], _ => exact ⟨R, [], .nil, fun _ _ _ z => nomatch z⟩
  | n + 1, [], _, _, _, _, _, _, e => by cases e
  | n + 1, s :: tm, r, ds, vs, Θ, R, el, e => by
    simp only [datN] at e
    cases e1 : look sl s with
    | none => rw [e1] at e; cases e
    | some d =>
      cases e2 : datN sl n tm with
      | none => rw [e1, e2] at e; cases e
      | some x =>
        rw [e1, e2] at e
        simp only [Option.bind_some, Option.some.injEq, Prod.mk.injEq] at e
        obtain ⟨rfl, rfl⟩ := e
        have hne : vs ≠ [] := fun z => by rw [z] at el; cases el
        obtain ⟨us, v, rfl⟩ : ∃ us v, vs = us ++ [v] := ⟨_, _, (List.dropLast_concat_getLast hne).symm⟩
        rw [List.reverse_append] at R
        have R' : Rel C ⟨sl, s :: tm, j⟩ (v :: (us.reverse ++ Θ)) σ H := R
        obtain ⟨T1, r1, n1⟩ := R'.read e1
        have := Rel.pops (n := n) (ds := x.1) (r := x.2) (vs := us) R'.pop (by simpa using el) e2
        obtain ⟨R2, T2, r2, n2⟩ := this
        exact ⟨R2, T2 ++ (T1 ++ []), r2.append (.cons r1 .nil), fun p b q z => by
          rcases List.mem_append.mp z with z | z
          · exact n2 p b q z
          · exact n1 p b q (by simpa using z)⟩

/-! ### operations with a value that holds no list -/
def SoR (r : R2) (f : D → D → (D → Prop) → Prop) : Prop := ∀ (H : Hp) (v1 v2 : V) (T1 T2 : List Addr) (d1 d2 : D) (Q : VK) (q : D → Prop), Rep H T1 v1 d1 → Rep H T2 v2 d2 → f d1 d2 q → (∀ v d, Sca v d → q d → Q v H) → r v1 v2 H Q
def kOp (f : D → D → (D → Prop) → Prop) (ka kb : KE) : KE := fun γ q => ka γ fun γ1 => kb γ1 fun γ2 => (datN γ2.sl 2 γ2.tm).elim False fun x => f (x.1.getD 0 .none) (x.1.getD 1 .none) fun d => q ⟨γ2.sl, .fz d :: x.2, γ2.n⟩
theorem elimF {α : Type} {o : Option α} {f : α → Prop} (h : o.elim False f) : ∃ x, o = some x ∧ f x := by
  cases o with
  | none => exact h.elim
  | some x => exact ⟨x, rfl, h⟩
theorem Reps.inv2 {H : Hp} {S : List Addr} {v1 v2 : V} {ds : List D} (r : Reps H S [v1, v2] ds) : ∃ d1 d2 T1 T2, ds = [d1, d2] ∧ Rep H T1 v1 d1 ∧ Rep H T2 v2 d2 := by
  cases r with
  | cons r1 r =>
    cases r with
    | cons r2 r =>
      cases r
      exact ⟨_, _, _, _, rfl, r1, r2⟩
theorem Reps.inv1 {H : Hp} {S : List Addr} {v1 : V} {ds : List D} (r : Reps H S [v1] ds) : ∃ d1 T1, ds = [d1] ∧ Rep H T1 v1 d1 := by
  cases r with
  | cons r1 r =>
    cases r
    exact ⟨_, _, rfl, r1⟩
theorem so_op {r : R2} {f : D → D → (D → Prop) → Prop} (hr : SoR r f) (ha : SoE xc ta ka) (hb : SoE xc tb kb) : SoE xc (tOp r ta tb) (kOp f ka kb) := fun γ Θ σ H Q q R hk w =>
  ha γ Θ σ H _ _ R hk fun γ1 v1 H1 hk1 R1 => hb γ1 _ σ H1 _ _ R1 hk1 fun γ2 v2 H2 hk2 R2 => by
    obtain ⟨⟨ds, rr⟩, e, hf⟩ := elimF hk2
    obtain ⟨R3, T, rp, _⟩ := Rel.pops (vs := [v1, v2]) (Θ := Θ) R2 rfl e
    obtain ⟨d1, d2, T1, T2, rfl, r1, r2⟩ := rp.inv2
    exact hr H2 v1 v2 T1 T2 d1 d2 _ _ r1 r2 hf fun v d sc hq => w _ v H2 hq (R3.push fun Z => sc H2 Z)
def vI (C : Int → Int → Prop) (g : Int → Int → Int) : D → D → (D → Prop) → Prop := fun d1 d2 q => match d1, d2 with
  | .int i, .int j => C i j ∧ q (.int (g i j))
  | _, _ => False
def vB (g : Int → Int → Bool) : D → D → (D → Prop) → Prop := fun d1 d2 q => match d1, d2 with
  | .int i, .int j => q (.bool (g i j))
  | _, _ => False
def noC : Int → Int → Prop := fun _ _ => True
theorem sr_I {Cc : Int → Int → Prop} {g : Int → Int → Int} : SoR (rI Cc fun i j => .int (g i j)) (vI Cc g) := fun H v1 v2 T1 T2 d1 d2 Q q r1 r2 hf w => by
  unfold vI at hf
  split at hf
  · cases r1
    cases r2
    exact ⟨_, _, rfl, rfl, hf.1, w _ _ (sca_int _) hf.2⟩
  · exact hf.elim
theorem sr_I0 {g : Int → Int → Int} : SoR (rI0 fun i j => .int (g i j)) (vI noC g) := fun H v1 v2 T1 T2 d1 d2 Q q r1 r2 hf w => by
  unfold vI at hf
  split at hf
  · cases r1
    cases r2
    exact ⟨_, _, rfl, rfl, w _ _ (sca_int _) hf.2⟩
  · exact hf.elim
theorem sr_B {g : Int → Int → Bool} : SoR (rI0 fun i j => .bl (g i j)) (vB g) := fun H v1 v2 T1 T2 d1 d2 Q q r1 r2 hf w => by
  unfold vB at hf
  split at hf
  · cases r1
    cases r2
    exact ⟨_, _, rfl, rfl, w _ _ (sca_bl _) hf⟩
  · exact hf.elim
/-- == of scalars -/
def vEq (neg : Bool) : D → D → (D → Prop) → Prop := fun d1 d2 q => match d1, d2 with
  | .int i, .int j => q (.bool (neg ^^ decide (i = j)))
  | .str x, .str y => q (.bool (neg ^^ decide (x = y)))
  | .bool x, .bool y => q (.bool (neg ^^ decide (x = y)))
  | .none, .none => q (.bool (neg ^^ true))
  | .none, .int _ => q (.bool (neg ^^ false))
  | .int _, .none => q (.bool (neg ^^ false))
  | _, _ => False
theorem sr_eq : SoR rEq (vEq false) := fun H v1 v2 T1 T2 d1 d2 Q q r1 r2 hf w => by
  unfold vEq at hf
  split at hf <;> (try exact hf.elim) <;> cases r1 <;> cases r2 <;> refine ⟨rfl, ?_⟩
  · rw [dec_eq_int]; exact w _ _ (sca_bl _) (by simpa using hf)
  · rename_i x y
    have e : decide (V.str x = V.str y) = decide (x = y) := by simp
    rw [e]; exact w _ _ (sca_bl _) (by simpa using hf)
  · rename_i x y
    have e : decide (V.bl x = V.bl y) = decide (x = y) := by simp
    rw [e]; exact w _ _ (sca_bl _) (by simpa using hf)
  · exact w _ _ (sca_bl _) (by simpa using hf)
  · exact w _ _ (sca_bl _) (by simpa using hf)
  · exact w _ _ (sca_bl _) (by simpa using hf)
theorem sr_ne : SoR rNe (vEq true) := fun H v1 v2 T1 T2 d1 d2 Q q r1 r2 hf w => by
  unfold vEq at hf
  split at hf <;> (try exact hf.elim) <;> cases r1 <;> cases r2 <;> refine ⟨rfl, ?_⟩
  · rw [dec_eq_int]; exact w _ _ (sca_bl _) (by simpa using hf)
  · rename_i x y
    have e : decide (V.str x = V.str y) = decide (x = y) := by simp
    rw [e]; exact w _ _ (sca_bl _) (by simpa using hf)
  · rename_i x y
    have e : decide (V.bl x = V.bl y) = decide (x = y) := by simp
    rw [e]; exact w _ _ (sca_bl _) (by simpa using hf)
  · exact w _ _ (sca_bl _) (by simpa using hf)
  · exact w _ _ (sca_bl _) (by simpa using hf)
  · exact w _ _ (sca_bl _) (by simpa using hf)
/-- == of data -/
def vEqD (neg : Bool) : D → D → (D → Prop) → Prop := fun d1 d2 q => SeqAt.shaped d1 = true ∧ SeqAt.shaped d2 = true ∧ q (.bool (neg ^^ PyData.eqv d1 d2))
theorem sr_eqD {K : PySem.W.Frag} : SoR (rEqD K) (vEqD false) := fun H v1 v2 T1 T2 d1 d2 Q q r1 r2 hf w =>
  ⟨d1, d2, Rep.dp K _ _ _ r1, Rep.dp K _ _ _ r2, hf.1, hf.2.1, w _ _ (sca_bl _) (by simpa using hf.2.2)⟩
def vIsN (neg : Bool) : D → D → (D → Prop) → Prop := fun d1 d2 q => match d2 with
  | .none => q (.bool (match d1 with | .none => !neg | _ => neg))
  | _ => False
theorem sr_isN : SoR (fun x y H Q => y = .non ∧ Q (.bl (decide (x = .non))) H) (vIsN false) := fun H v1 v2 T1 T2 d1 d2 Q q r1 r2 hf w => by
  unfold vIsN at hf
  split at hf
  · cases r2
    refine ⟨rfl, w _ _ (sca_bl _) ?_⟩
    cases r1 <;> simpa using hf
  · exact hf.elim
theorem sr_notN : SoR (fun x y H Q => y = .non ∧ Q (.bl (!decide (x = .non))) H) (vIsN true) := fun H v1 v2 T1 T2 d1 d2 Q q r1 r2 hf w => by
  unfold vIsN at hf
  split at hf
  · cases r2
    refine ⟨rfl, w _ _ (sca_bl _) ?_⟩
    cases r1 <;> simpa using hf
  · exact hf.elim
/-- in a list or a tuple of flat things -/
def flatD : D → Bool
  | .none => true
  | .bool _ => true
  | .int _ => true
  | .str _ => true
  | _ => false
def vOf : D → V
  | .bool b => .bl b
  | .int i => .int i
  | .str x => .str x
  | _ => .non
theorem Rep.flat {H : Hp} {T : List Addr} {v : V} {d : D} (r : Rep H T v d) (f : flatD d = true) : v = vOf d ∧ flatV v = true := by
  cases r with
  | non => exact ⟨rfl, rfl⟩
  | bl b => exact ⟨rfl, rfl⟩
  | int i => exact ⟨rfl, rfl⟩
  | str x => exact ⟨rfl, rfl⟩
  | lst _ _ => cases f
  | tup _ _ => cases f
theorem Reps.flat {H : Hp} : ∀ {ds : List D} {T : List Addr} {vs : List V}, Reps H T vs ds → ds.all flatD = true → vs = ds.map vOf ∧ vs.all flatV = true
  | [], _, _, h, _ => by cases h; exact ⟨rfl, rfl⟩
  | d :: ds, _, _, h, f => by
    cases h with
    | cons h1 h2 =>
      rw [List.all_cons, Bool.and_eq_true] at f
      obtain ⟨e1, f1⟩ := h1.flat f.1
      obtain ⟨e2, f2⟩ := Reps.flat h2 f.2
      exact ⟨by rw [e1, e2]; rfl, by rw [List.all_cons, f1, f2]; rfl⟩
def vIn (neg : Bool) : D → D → (D → Prop) → Prop := fun d1 d2 q => match d2 with
  | .list ds => flatD d1 = true ∧ ds.all flatD = true ∧ q (.bool (neg ^^ inV (vOf d1) (ds.map vOf)))
  | .tuple ds => flatD d1 = true ∧ ds.all flatD = true ∧ q (.bool (neg ^^ inV (vOf d1) (ds.map vOf)))
  | _ => False
theorem sr_in {K : PySem.W.Frag} {neg : Bool} : SoR (rIn K neg) (vIn neg) := fun H v1 v2 T1 T2 d1 d2 Q q r1 r2 hf w => by
  unfold vIn at hf
  split at hf
  · cases r2 with
    | lst e rs =>
      obtain ⟨ev, fv⟩ := r1.flat hf.1
      obtain ⟨es, fs⟩ := rs.flat hf.2.1
      refine ⟨_, _, rfl, .inl (SqL.of e), fv, fs, w _ _ (sca_bl _) ?_⟩
      rw [es, ev]
      cases neg <;> simpa using hf.2.2
  · cases r2 with
    | tup e rs =>
      obtain ⟨ev, fv⟩ := r1.flat hf.1
      obtain ⟨es, fs⟩ := rs.flat hf.2.1
      refine ⟨_, _, rfl, .inr (SqT.of e), fv, fs, w _ _ (sca_bl _) ?_⟩
      rw [es, ev]
      cases neg <;> simpa using hf.2.2
  · exact hf.elim
def kChain (f g : D → D → (D → Prop) → Prop) (ka kb kc : KE) : KE := fun γ q => ka γ fun γ1 => kb γ1 fun γ2 => (datN γ2.sl 2 γ2.tm).elim False fun x => f (x.1.getD 0 .none) (x.1.getD 1 .none) fun d => match d with
  | .bool true => kc γ2 fun γ3 => (datN γ3.sl 3 γ3.tm).elim False fun y => g (y.1.getD 1 .none) (y.1.getD 2 .none) fun d => q ⟨γ3.sl, .fz d :: y.2, γ3.n⟩
  | .bool false => q ⟨γ2.sl, .fz (.bool false) :: x.2, γ2.n⟩
  | _ => False
theorem so_chain {r r' : R2} {f g : D → D → (D → Prop) → Prop} (hr : SoR r f) (hr' : SoR r' g) (ha : SoE xc ta ka) (hb : SoE xc tb kb) (hc : SoE xc tc kc) : SoE xc (tChain r r' ta tb tc) (kChain f g ka kb kc) := fun γ Θ σ H Q q R hk w =>
  ha γ Θ σ H _ _ R hk fun γ1 v1 H1 hk1 R1 => hb γ1 _ σ H1 _ _ R1 hk1 fun γ2 v2 H2 hk2 R2 => by
    obtain ⟨⟨ds, rr⟩, e, hf⟩ := elimF hk2
    obtain ⟨R3, T, rp, _⟩ := Rel.pops (vs := [v1, v2]) (Θ := Θ) R2 rfl e
    obtain ⟨d1, d2, T1, T2, rfl, r1, r2⟩ := rp.inv2
    refine hr H2 v1 v2 T1 T2 d1 d2 _ _ r1 r2 hf fun v d sc hq => ?_
    have tv := sc H2 noReg
    split at hq
    · cases tv
      refine ⟨true, rfl, ?_⟩
      rw [if_pos rfl]
      refine hc γ2 _ σ H2 _ _ R2 hq fun γ3 v3 H3 hk3 R3 => ?_
      obtain ⟨⟨es, rr2⟩, e2, hg⟩ := elimF hk3
      obtain ⟨R4, T', rp', _⟩ := Rel.pops (vs := [v1, v2, v3]) (Θ := Θ) R3 rfl e2
      cases rp' with
      | cons q1 rp' =>
        obtain ⟨d2', d3, T2', T3, rfl, r2', r3⟩ := rp'.inv2
        exact hr' H3 v2 v3 T2' T3 d2' d3 _ _ r2' r3 hg fun v d sc hq => w _ v H3 hq (R4.push fun Z => sc H3 Z)
    · cases tv
      refine ⟨false, rfl, ?_⟩
      rw [if_neg (by simp)]
      exact w _ _ H2 hq (R3.push fun Z => .bl false)
    · exact hq.elim
def kUn (f : D → (D → Prop) → Prop) (ka : KE) : KE := fun γ q => ka γ fun γ1 => (datN γ1.sl 1 γ1.tm).elim False fun x => f (x.1.getD 0 .none) fun d => q ⟨γ1.sl, .fz d :: x.2, γ1.n⟩
theorem so_un {r : V → Hp → VK → Prop} {f : D → (D → Prop) → Prop} (hr : ∀ (H : Hp) (v1 : V) (T1 : List Addr) (d1 : D) (Q : VK) (q : D → Prop), Rep H T1 v1 d1 → f d1 q → (∀ v d, Sca v d → q d → Q v H) → r v1 H Q) (ha : SoE xc ta ka) : SoE xc (tUn r ta) (kUn f ka) := fun γ Θ σ H Q q R hk w =>
  ha γ Θ σ H _ _ R hk fun γ1 v1 H1 hk1 R1 => by
    obtain ⟨⟨ds, rr⟩, e, hf⟩ := elimF hk1
    obtain ⟨R3, T, rp, _⟩ := Rel.pops (vs := [v1]) (Θ := Θ) R1 rfl e
    obtain ⟨d1, T1, rfl, r1⟩ := rp.inv1
    exact hr H1 v1 T1 d1 _ _ r1 hf fun v d sc hq => w _ v H1 hq (R3.push fun Z => sc H1 Z)
def vNeg : D → (D → Prop) → Prop := fun d q => match d with | .int i => q (.int (-i)) | _ => False
theorem so_neg (ha : SoE xc ta ka) : SoE xc (tUn (rU fun i => .int (-i)) ta) (kUn vNeg ka) := so_un (fun H v1 T1 d1 Q q r1 hf w => by
  unfold vNeg at hf
  split at hf
  · cases r1
    exact ⟨_, rfl, w _ _ (sca_int _) hf⟩
  · exact hf.elim) ha
/-- calls whose value holds no list -/
def SoC (n : Nat) (r : List V → Hp → VK → Prop) (f : List D → (D → Prop) → Prop) : Prop := ∀ (H : Hp) (vs : List V) (T : List Addr) (ds : List D) (Q : VK) (q : D → Prop), Reps H T vs ds → vs.length = n → f ds q → (∀ v d, Sca v d → q d → Q v H) → r vs H Q
def kF (n : Nat) (f : List D → (D → Prop) → Prop) (ka : KE) : KE := fun γ q => ka γ fun γ1 => (datN γ1.sl n γ1.tm).elim False fun x => f x.1 fun d => q ⟨γ1.sl, .fz d :: x.2, γ1.n⟩
theorem so_f {r : List V → Hp → VK → Prop} {f : List D → (D → Prop) → Prop} {ts : TA} (hr : SoC n r f) (ha : SoA xc n ts ka) : SoE xc (tCB r ts) (kF n f ka) := fun γ Θ σ H Q q R hk w =>
  ha γ Θ σ H _ _ R hk fun γ1 vs H1 el hk1 R1 => by
    obtain ⟨⟨ds, rr⟩, e, hf⟩ := elimF hk1
    obtain ⟨R3, T, rp, _⟩ := Rel.pops (Θ := Θ) R1 el e
    exact hr H1 vs T ds _ _ rp el hf fun v d sc hq => w _ v H1 hq (R3.push fun Z => sc H1 Z)
theorem Reps.c1 {H : Hp} {vs : List V} {T : List Addr} {d : D} (r : Reps H T vs [d]) : ∃ v T', vs = [v] ∧ Rep H T' v d := by
  cases r with
  | cons r1 r => cases r; exact ⟨_, _, rfl, r1⟩
theorem Reps.c2 {H : Hp} {vs : List V} {T : List Addr} {d e : D} (r : Reps H T vs [d, e]) : ∃ v w T1 T2, vs = [v, w] ∧ Rep H T1 v d ∧ Rep H T2 w e := by
  cases r with
  | cons r1 r => obtain ⟨v, T', rfl, r2⟩ := Reps.c1 r; exact ⟨_, _, _, _, rfl, r1, r2⟩
def vLen : List D → (D → Prop) → Prop := fun ds q => match ds with
  | [.list es] => q (.int es.length)
  | [.tuple es] => q (.int es.length)
  | _ => False
theorem sc_len {K : PySem.W.Frag} : SoC 1 (fun xs H Q => ∃ p ys, xs = [.ref p] ∧ (SqL K H p ys ∨ SqT K H p ys) ∧ Q (.int ys.length) H) vLen := fun H vs T ds Q q r el hf w => by
  unfold vLen at hf
  split at hf
  · obtain ⟨v, T', rfl, r1⟩ := r.c1
    cases r1 with
    | lst e rs => exact ⟨_, _, rfl, .inl (SqL.of e), w _ _ (by rw [rs.length]; exact sca_int _) hf⟩
  · obtain ⟨v, T', rfl, r1⟩ := r.c1
    cases r1 with
    | tup e rs => exact ⟨_, _, rfl, .inr (SqT.of e), w _ _ (by rw [rs.length]; exact sca_int _) hf⟩
  · exact hf.elim
def v2I (g : Int → Int → Int) : List D → (D → Prop) → Prop := fun ds q => match ds with
  | [.int i, .int j] => q (.int (g i j))
  | _ => False
theorem sc_2i {g : Int → Int → Int} : SoC 2 (fun xs H Q => ∃ i j, xs = [.int i, .int j] ∧ Q (.int (g i j)) H) (v2I g) := fun H vs T ds Q q r el hf w => by
  unfold v2I at hf
  split at hf
  · obtain ⟨v, u, T1, T2, rfl, r1, r2⟩ := r.c2
    cases r1
    cases r2
    exact ⟨_, _, rfl, w _ _ (sca_int _) hf⟩
  · exact hf.elim
def v1I (g : Int → Int) : List D → (D → Prop) → Prop := fun ds q => match ds with
  | [.int i] => q (.int (g i))
  | _ => False
theorem sc_1i {g : Int → Int} : SoC 1 (fun xs H Q => ∃ i, xs = [.int i] ∧ Q (.int (g i)) H) (v1I g) := fun H vs T ds Q q r el hf w => by
  unfold v1I at hf
  split at hf
  · obtain ⟨v, T1, rfl, r1⟩ := r.c1
    cases r1
    exact ⟨_, rfl, w _ _ (sca_int _) hf⟩
  · exact hf.elim
def vInt : List D → (D → Prop) → Prop := fun ds q => match ds with
  | [.int i] => q (.int i)
  | [.bool b] => q (.int (if b then 1 else 0))
  | _ => False
theorem sc_int : SoC 1 (fun xs H Q => (∃ i, xs = [.int i] ∧ Q (.int i) H) ∨ ∃ k, xs = [.bl k] ∧ Q (.int (if k then 1 else 0)) H) vInt := fun H vs T ds Q q r el hf w => by
  unfold vInt at hf
  split at hf
  · obtain ⟨v, T1, rfl, r1⟩ := r.c1
    cases r1
    exact .inl ⟨_, rfl, w _ _ (sca_int _) hf⟩
  · obtain ⟨v, T1, rfl, r1⟩ := r.c1
    cases r1
    exact .inr ⟨_, rfl, w _ _ (sca_int _) hf⟩
  · exact hf.elim
def v3I (g : Int → Int → Int → Int) : List D → (D → Prop) → Prop := fun ds q => match ds with
  | [.int i, .int j, .int k] => q (.int (g i j k))
  | _ => False
theorem sc_3i {g : Int → Int → Int → Int} : SoC 3 (fun xs H Q => ∃ i j k, xs = [.int i, .int j, .int k] ∧ Q (.int (g i j k)) H) (v3I g) := fun H vs T ds Q q r el hf w => by
  unfold v3I at hf
  split at hf
  · cases r with
    | cons r1 r =>
      obtain ⟨v, u, T1, T2, rfl, r2, r3⟩ := r.c2
      cases r1
      cases r2
      cases r3
      exact ⟨_, _, _, rfl, w _ _ (sca_int _) hf⟩
  · exact hf.elim
/-- ints out of data -/
def intsOf : List D → Option (List Int)
  | [] => some []
  | .int i :: ds => (intsOf ds).bind fun r => some (i :: r)
  | _ :: _ => none
theorem intsOf_map (ns : List Int) : intsOf (ns.map PyData.int) = some ns := by
  induction ns with
  | nil => rfl
  | cons n ns ih => simp [intsOf, ih]
theorem intsOf_eq : ∀ {ds : List D} {ns : List Int}, intsOf ds = some ns → ds = ns.map PyData.int
  | [], ns, h => by simp only [intsOf, Option.some.injEq] at h; subst h; rfl
  | d :: ds, ns, h => by
    cases d with
    | int i =>
      simp only [intsOf] at h
      cases e : intsOf ds with
      | none => rw [e] at h; cases h
      | some r =>
        rw [e] at h
        simp only [Option.bind_some, Option.some.injEq] at h
        subst h
        rw [intsOf_eq e]
        rfl
    | _ => cases h
def boolsOf : List D → Option (List Bool)
  | [] => some []
  | .bool i :: ds => (boolsOf ds).bind fun r => some (i :: r)
  | _ :: _ => none
theorem boolsOf_map (ns : List Bool) : boolsOf (ns.map PyData.bool) = some ns := by
  induction ns with
  | nil => rfl
  | cons n ns ih => simp [boolsOf, ih]
theorem boolsOf_eq : ∀ {ds : List D} {ns : List Bool}, boolsOf ds = some ns → ds = ns.map PyData.bool
  | [], ns, h => by simp only [boolsOf, Option.some.injEq] at h; subst h; rfl
  | d :: ds, ns, h => by
    cases d with
    | bool i =>
      simp only [boolsOf] at h
      cases e : boolsOf ds with
      | none => rw [e] at h; cases h
      | some r =>
        rw [e] at h
        simp only [Option.bind_some, Option.some.injEq] at h
        subst h
        rw [boolsOf_eq e]
        rfl
    | _ => cases h
theorem Reps.bools {H : Hp} : ∀ {bs : List Bool} {T : List Addr} {vs : List V}, Reps H T vs (bs.map PyData.bool) → vs = bs.map V.bl
  | [], _, _, h => by cases h; rfl
  | b :: bs, _, _, h => by
    cases h with
    | cons h1 h2 =>
      cases h1
      rw [Reps.bools h2]
      rfl
def vAll (g : List Bool → Bool) : List D → (D → Prop) → Prop := fun ds q => match ds with
  | [.list es] => (boolsOf es).elim False fun bs => q (.bool (g bs))
  | _ => False
theorem sc_bools {K : PySem.W.Frag} {g : List Bool → Bool} : SoC 1 (fun vs H Q => ∃ (a : Addr) (bs : List Bool), vs = [V.ref a] ∧ SqL K H a (bs.map V.bl) ∧ Q (.bl (g bs)) H) (vAll g) := fun H vs T ds Q q r el hf w => by
  unfold vAll at hf
  split at hf
  · obtain ⟨bs, e, hg⟩ := elimF hf
    obtain rfl := boolsOf_eq e
    obtain ⟨v, T1, rfl, r1⟩ := r.c1
    cases r1 with
    | lst e rs =>
      rw [rs.bools] at e
      exact ⟨_, bs, rfl, SqL.of e, w _ _ (sca_bl _) hg⟩
  · exact hf.elim
def vSum : List D → (D → Prop) → Prop := fun ds q => match ds with
  | [.list es] => (intsOf es).elim False fun ns => q (.int ns.sum)
  | _ => False
theorem sc_sum {K : PySem.W.Frag} : SoC 1 (rSum K) vSum := fun H vs T ds Q q r el hf w => by
  unfold vSum at hf
  split at hf
  · obtain ⟨bs, e, hg⟩ := elimF hf
    obtain rfl := intsOf_eq e
    obtain ⟨v, T1, rfl, r1⟩ := r.c1
    cases r1 with
    | lst e rs =>
      rw [rs.intsInv.2] at e
      exact ⟨_, bs, rfl, SqL.of e, w _ _ (sca_int _) hg⟩
  · exact hf.elim
def vRepr : List D → (D → Prop) → Prop := fun ds q => match ds with
  | [d] => d.showable = true ∧ d.depth ≤ 60 ∧ wd d ≤ 10000000 ∧ q (.str d.shown)
  | _ => False
theorem sc_repr {K : PySem.W.Frag} : SoC 1 (rRepr K) vRepr := fun H vs T ds Q q r el hf w => by
  unfold vRepr at hf
  split at hf
  · obtain ⟨v, T1, rfl, r1⟩ := r.c1
    have := shown_wd _ (Dp.nodict (K := K) _ v (Rep.dp K _ _ _ r1))
    exact ⟨v, _, rfl, Rep.dp K _ _ _ r1, hf.1, hf.2.1, szle (Nat.le_trans this hf.2.2.1), w _ _ (sca_str _) hf.2.2.2⟩
  · exact hf.elim
end
end G
/-! GL: tests, displays, parts, calls, writes, loops, blocks. -/
namespace G
open PySem PySem.Spec PyProof.Rows L2
variable {C : Cn} {xc : XC C}
section
variable {t t1 t2 ta tb tc : TE} {k k1 k2 ka kb kc : KE} {n m : Nat} {c1 c2 : TT} {h1 h2 : KT} {K : PySem.W.Frag}
/-! ### tests -/
def kTest (ke : KE) : KT := fun γ q => ke γ fun γ1 => (datN γ1.sl 1 γ1.tm).elim False fun x => match x.1.getD 0 .none with
  | .bool b => q b ⟨γ1.sl, x.2, γ1.n⟩
  | _ => False
theorem so_test (h : SoE xc t k) : SoT xc (tTest t) (kTest k) := fun γ Θ σ H Q q R hk w => h γ Θ σ H _ _ R hk fun γ1 v H1 hk1 R1 => by
  obtain ⟨⟨ds, rr⟩, e, hf⟩ := elimF hk1
  obtain ⟨R3, T, rp, _⟩ := Rel.pops (vs := [v]) (Θ := Θ) R1 rfl e
  obtain ⟨d1, T1, rfl, r1⟩ := rp.inv1
  dsimp only [List.getD_cons_zero] at hf
  split at hf
  · rename_i b eb
    have eb' : d1 = .bool b := eb
    subst eb'
    cases r1
    exact ⟨b, rfl, w _ _ H1 hf R3⟩
  · exact hf.elim
def kTAnd (a b : KT) : KT := fun γ q => a γ fun c γ1 => if c = true then b γ1 q else q false γ1
def kTOr (a b : KT) : KT := fun γ q => a γ fun c γ1 => if c = true then q true γ1 else b γ1 q
def kTNot (a : KT) : KT := fun γ q => a γ fun c γ1 => q (!c) γ1
theorem so_tand (a : SoT xc c1 h1) (b : SoT xc c2 h2) : SoT xc (tAnd c1 c2) (kTAnd h1 h2) := fun γ Θ σ H Q q R hk w => a γ Θ σ H _ _ R hk fun c γ1 H1 hk1 R1 => by
  cases c with
  | true => exact b γ1 Θ σ H1 Q q R1 (by simpa using hk1) w
  | false => exact w _ _ H1 (by simpa using hk1) R1
theorem so_tor (a : SoT xc c1 h1) (b : SoT xc c2 h2) : SoT xc (tOr c1 c2) (kTOr h1 h2) := fun γ Θ σ H Q q R hk w => a γ Θ σ H _ _ R hk fun c γ1 H1 hk1 R1 => by
  cases c with
  | false => exact b γ1 Θ σ H1 Q q R1 (by simpa using hk1) w
  | true => exact w _ _ H1 (by simpa using hk1) R1
theorem so_tnot (a : SoT xc c1 h1) : SoT xc (tNot c1) (kTNot h1) := fun γ Θ σ H Q q R hk w => a γ Θ σ H _ _ R hk fun c γ1 H1 hk1 R1 => w _ _ H1 hk1 R1
def kYes : KT := fun γ q => q true γ
theorem so_yes : SoT xc tYes kYes := fun γ Θ σ H Q q R hk w => w _ _ H hk R
/-! ### truth values -/
def popB (γ : VSt) (f : Bool → VSt → Prop) : Prop := (datN γ.sl 1 γ.tm).elim False fun x => match x.1.getD 0 .none with
  | .bool b => f b ⟨γ.sl, x.2, γ.n⟩
  | _ => False
theorem popB_ok {C : Cn} {γ : VSt} {Θ : List V} {σ : L2.St} {H : Hp} {v : V} {f : Bool → VSt → Prop} (R : Rel C γ (v :: Θ) σ H) (h : popB γ f) : ∃ b γ', v = .bl b ∧ f b γ' ∧ Rel C γ' Θ σ H := by
  obtain ⟨⟨ds, rr⟩, e, hf⟩ := elimF h
  obtain ⟨R3, T, rp, _⟩ := Rel.pops (vs := [v]) (Θ := Θ) R rfl e
  obtain ⟨d1, T1, rfl, r1⟩ := rp.inv1
  dsimp only [List.getD_cons_zero] at hf
  split at hf
  · rename_i b eb
    have eb' : d1 = .bool b := eb
    subst eb'
    cases r1
    exact ⟨b, _, rfl, hf, R3⟩
  · exact hf.elim
def pushB (γ : VSt) (b : Bool) : VSt := ⟨γ.sl, .fz (.bool b) :: γ.tm, γ.n⟩
theorem Rel.pushB {C : Cn} {γ : VSt} {Θ : List V} {σ : L2.St} {H : Hp} (R : Rel C γ Θ σ H) (b : Bool) : Rel C (G.pushB γ b) (.bl b :: Θ) σ H := by
  obtain ⟨sl, tm, n⟩ := γ
  exact R.push fun Z => .bl b
def kAndV (ka kb : KE) : KE := fun γ q => ka γ fun γ1 => popB γ1 fun b γ2 => if b = true then kb γ2 q else q (pushB γ2 false)
def kOrV (ka kb : KE) : KE := fun γ q => ka γ fun γ1 => popB γ1 fun b γ2 => if b = true then q (pushB γ2 true) else kb γ2 q
def kNotV (ka : KE) : KE := fun γ q => ka γ fun γ1 => popB γ1 fun b γ2 => q (pushB γ2 (!b))
theorem so_andV (a : SoE xc ta ka) (b : SoE xc tb kb) : SoE xc (tAndV ta tb) (kAndV ka kb) := fun γ Θ σ H Q q R hk w => a γ Θ σ H _ _ R hk fun γ1 v H1 hk1 R1 => by
  obtain ⟨c, γ2, rfl, hf, R2⟩ := popB_ok R1 hk1
  refine ⟨c, rfl, ?_⟩
  cases c with
  | true => exact b γ2 Θ σ H1 Q q R2 (by simpa using hf) w
  | false => exact w _ _ H1 (by simpa using hf) (R2.pushB false)
theorem so_orV (a : SoE xc ta ka) (b : SoE xc tb kb) : SoE xc (tOrV ta tb) (kOrV ka kb) := fun γ Θ σ H Q q R hk w => a γ Θ σ H _ _ R hk fun γ1 v H1 hk1 R1 => by
  obtain ⟨c, γ2, rfl, hf, R2⟩ := popB_ok R1 hk1
  refine ⟨c, rfl, ?_⟩
  cases c with
  | false => exact b γ2 Θ σ H1 Q q R2 (by simpa using hf) w
  | true => exact w _ _ H1 (by simpa using hf) (R2.pushB true)
theorem so_notV (a : SoE xc ta ka) : SoE xc (tNotV ta) (kNotV ka) := fun γ Θ σ H Q q R hk w => a γ Θ σ H _ _ R hk fun γ1 v H1 hk1 R1 => by
  obtain ⟨c, γ2, rfl, hf, R2⟩ := popB_ok R1 hk1
  exact ⟨c, rfl, w _ _ H1 hf (R2.pushB (!c))⟩
def kIf (c : KT) (ka kb : KE) : KE := fun γ q => c γ fun b γ1 => if b = true then ka γ1 q else kb γ1 q
theorem so_if (c : SoT xc c1 h1) (a : SoE xc ta ka) (b : SoE xc tb kb) : SoE xc (tIf c1 ta tb) (kIf h1 ka kb) := fun γ Θ σ H Q q R hk w => c γ Θ σ H _ _ R hk fun d γ1 H1 hk1 R1 => by
  cases d with
  | true => exact a γ1 Θ σ H1 Q q R1 (by simpa using hk1) w
  | false => exact b γ1 Θ σ H1 Q q R1 (by simpa using hk1) w
/-! ### displays -/
def popC : Nat → List Sl → Option ((Bool × List D) × List Sl)
  | 0, tm => some ((true, []), tm)
  | _ + 1, [] => none
  | n + 1, s :: tm => (con s).bind fun c => (popC n tm).bind fun x => some ((x.1.1 && c.1, x.1.2 ++ [c.2]), x.2)
theorem cont_snoc {s : Sl} : ∀ ss : List Sl, cont (ss ++ [s]) = (cont ss).bind fun y => (con s).bind fun x => some (y.1 && x.1, y.2 ++ [x.2])
  | [] => by
    simp only [List.nil_append, cont, Option.bind_some]
    cases con s <;> simp
  | r :: ss => by
    simp only [List.cons_append, cont, cont_snoc ss]
    cases con r with
    | none => rfl
    | some x =>
      cases cont ss with
      | none => rfl
      | some y =>
        cases con s with
        | none => rfl
        | some z => simp [Bool.and_assoc]
theorem popC_ok : ∀ {n : Nat} {tm r : List Sl} {b : Bool} {ds : List D}, popC n tm = some ((b, ds), r) → ∃ ss, tm = ss.reverse ++ r ∧ ss.length = n ∧ cont ss = some (b, ds)
  | 0, tm, r, b, ds, h => by
    simp only [popC, Option.some.injEq, Prod.mk.injEq] at h
    obtain ⟨⟨rfl, rfl⟩, rfl⟩ := h
    exact ⟨[], rfl, rfl, rfl⟩
  | n + 1, [], _, _, _, h => by cases h
  | n + 1, s :: tm, r, b, ds, h => by
    simp only [popC] at h
    cases e1 : con s with
    | none => rw [e1] at h; cases h
    | some c =>
      cases e2 : popC n tm with
      | none => rw [e1, e2] at h; cases h
      | some x =>
        rw [e1, e2] at h
        simp only [Option.bind_some, Option.some.injEq, Prod.mk.injEq] at h
        obtain ⟨⟨rfl, rfl⟩, rfl⟩ := h
        obtain ⟨ss, e3, e4, e5⟩ := popC_ok (b := x.1.1) (ds := x.1.2) (r := x.2) e2
        refine ⟨ss ++ [s], by rw [e3]; simp, by simp [e4], ?_⟩
        rw [cont_snoc, e5, e1]
        rfl
def kMk (l : Bool) (n : Nat) (ka : KE) : KE := fun γ q => ka γ fun γ1 => (popC n γ1.tm).elim False fun x => q ⟨γ1.sl, mkS l x.1.1 x.1.2 :: x.2, γ1.n⟩
theorem mk_core {C : Cn} {γ : VSt} {Θ : List V} {σ : L2.St} {H : Hp} {vs : List V} {l : Bool} {q : VSt → Prop} (R : Rel C γ (vs.reverse ++ Θ) σ H) (el : vs.length = n) (h : (popC n γ.tm).elim False fun x => q ⟨γ.sl, mkS l x.1.1 x.1.2 :: x.2, γ.n⟩) :
    ∀ p, H p = none → ∃ γ', q γ' ∧ Rel C γ' (.ref p :: Θ) σ (upd H p (hoq l vs)) := fun p hp => by
  obtain ⟨⟨⟨b, ds⟩, r⟩, e, hq⟩ := elimF h
  obtain ⟨ss, e1, e2, e3⟩ := popC_ok e
  obtain ⟨sl, tm, j⟩ := γ
  dsimp only at e1 hq
  subst e1
  exact ⟨_, hq, R.cont (by omega) e3 hp⟩
theorem so_lst {ts : TA} (h : SoA xc n ts ka) (hn : n ≤ 10000000 := by decide) : SoE xc (tLst ts) (kMk true n ka) := fun γ Θ σ H Q q R hk w => h γ Θ σ H _ _ R hk fun γ1 vs H1 el hk1 R1 =>
  ⟨szle (by omega), fun p hp => by
    obtain ⟨γ', hq, R2⟩ := mk_core R1 el hk1 p hp
    exact w γ' _ _ hq R2⟩
theorem so_tup {ts : TA} (h : SoA xc n ts ka) (hn : n ≤ 10000000 := by decide) : SoE xc (tTup ts) (kMk false n ka) := fun γ Θ σ H Q q R hk w => h γ Θ σ H _ _ R hk fun γ1 vs H1 el hk1 R1 =>
  ⟨szle (by omega), fun p hp => by
    obtain ⟨γ', hq, R2⟩ := mk_core R1 el hk1 p hp
    exact w γ' _ _ hq R2⟩
/-! ### items -/
def ixD (ds : List D) (i : Int) (f : Nat → D → Prop) : Prop := (ixN ds.length i).elim False fun k => (ds[k]?).elim False (f k)
def seqD (l : Bool) : D → Option (List D)
  | .list ds => if l then some ds else none
  | .tuple ds => if l then none else some ds
  | _ => none
theorem seqD_eq {l : Bool} {d : D} {ds : List D} (h : seqD l d = some ds) : d = dq l ds := by
  cases d <;> cases l <;> simp [seqD] at h <;> subst h <;> rfl
def kIx (l : Bool) (ka kb : KE) : KE := fun γ q => ka γ fun γ1 => kb γ1 fun γ2 => match γ2.tm with
  | .fz (.int i) :: s :: tm => ((look γ2.sl s).bind (seqD l)).elim False fun ds => ixD ds i fun k d => q ⟨γ2.sl, subS s k d :: tm, γ2.n⟩
  | _ => False
theorem ix_core {C : Cn} {γ : VSt} {Θ : List V} {σ : L2.St} {H : Hp} {v u : V} {l : Bool} {q : VSt → Prop} (R : Rel C γ (u :: v :: Θ) σ H) (h : match γ.tm with
  | .fz (.int i) :: s :: tm => ((look γ.sl s).bind (seqD l)).elim False fun ds => ixD ds i fun k d => q ⟨γ.sl, subS s k d :: tm, γ.n⟩
  | _ => False) : ∃ p xs i w γ', v = .ref p ∧ u = .int i ∧ H p = some (hoq l xs) ∧ atI xs i = some w ∧ q γ' ∧ Rel C γ' (w :: Θ) σ H := by
  obtain ⟨sl, tm, j⟩ := γ
  dsimp only at h
  split at h
  · rename_i i s tm'
    obtain ⟨ds, e, hd⟩ := elimF h
    obtain ⟨d0, e1, e2⟩ := Option.bind_eq_some_iff.mp e
    have e3 := seqD_eq e2
    subst e3
    obtain ⟨T, r, _⟩ := R.read (d := .int i) rfl
    cases r
    obtain ⟨p, xs, rfl, hp, el, k⟩ := R.pop.item e1
    unfold ixD at hd
    obtain ⟨kk, e4, hd⟩ := elimF hd
    obtain ⟨d, e5, hd⟩ := elimF hd
    have hlt : kk < xs.length := by
      have := (List.getElem?_eq_some_iff.mp e5).1
      omega
    have e6 : xs[kk]? = some xs[kk] := List.getElem?_eq_getElem hlt
    refine ⟨p, xs, i, xs[kk], _, rfl, rfl, hp, ?_, hd, k kk d _ e5 e6⟩
    unfold atI
    rw [el, e4]
    exact e6
  · exact h.elim
theorem so_ixL (a : SoE xc ta ka) (b : SoE xc tb kb) : SoE xc (tOp (rIxL K) ta tb) (kIx true ka kb) := fun γ Θ σ H Q q R hk w => a γ Θ σ H _ _ R hk fun γ1 v1 H1 hk1 R1 => b γ1 _ σ H1 _ _ R1 hk1 fun γ2 v2 H2 hk2 R2 => by
  obtain ⟨p, xs, i, z, γ', rfl, rfl, hp, ha, hq, R3⟩ := ix_core R2 hk2
  exact ⟨p, xs, i, z, rfl, rfl, SqL.of hp, ha, w γ' z H2 hq R3⟩
theorem so_ixT (a : SoE xc ta ka) (b : SoE xc tb kb) : SoE xc (tOp (rIxT K) ta tb) (kIx false ka kb) := fun γ Θ σ H Q q R hk w => a γ Θ σ H _ _ R hk fun γ1 v1 H1 hk1 R1 => b γ1 _ σ H1 _ _ R1 hk1 fun γ2 v2 H2 hk2 R2 => by
  obtain ⟨p, xs, i, z, γ', rfl, rfl, hp, ha, hq, R3⟩ := ix_core R2 hk2
  exact ⟨p, xs, i, z, rfl, rfl, SqT.of hp, ha, w γ' z H2 hq R3⟩
theorem ixD_ints {gs : List Int} {i : Int} {f : Nat → D → Prop} (h0 : 0 ≤ i) (h1 : i < gs.length) (h : f i.toNat (.int (gs.getD i.toNat 0))) : ixD (gs.map PyData.int) i f := by
  unfold ixD
  have e1 : ixN (gs.map PyData.int).length i = some i.toNat := by
    unfold ixN
    rw [List.length_map, if_pos h0, if_pos h1]
  have e2 : (gs.map PyData.int)[i.toNat]? = some (.int (gs.getD i.toNat 0)) := by
    rw [List.getElem?_map, List.getD_eq_getElem?_getD, List.getElem?_eq_getElem (by omega)]
    rfl
  rw [e1]
  show ((gs.map PyData.int)[i.toNat]?).elim False (f i.toNat)
  rw [e2]
  exact h
/-! ### new lists of things that may be shared -/
theorem Trs.take {H : Hp} {Z : Reg} : ∀ {vs : List V} {ds : List D} {S : List Addr}, Trs H Z S vs ds → S = [] → ∀ n, Trs H Z [] (vs.take n) (ds.take n)
  | [], [], _, h, _, n => by simpa using Trs.nil
  | [], _ :: _, _, h, _, n => by cases h
  | _ :: _, [], _, h, _, n => by cases h
  | v :: vs, d :: ds, _, h, e, 0 => .nil
  | v :: vs, d :: ds, _, h, e, n + 1 => by
    cases h with
    | cons h1 h2 =>
      obtain ⟨rfl, rfl⟩ := List.append_eq_nil_iff.mp e
      exact .cons (S := []) h1 (Trs.take h2 rfl n)
theorem Trs.drop {H : Hp} {Z : Reg} : ∀ {vs : List V} {ds : List D} {S : List Addr}, Trs H Z S vs ds → S = [] → ∀ n, Trs H Z [] (vs.drop n) (ds.drop n)
  | [], [], _, h, _, n => by simpa using Trs.nil
  | [], _ :: _, _, h, _, n => by cases h
  | _ :: _, [], _, h, _, n => by cases h
  | v :: vs, d :: ds, _, h, e, 0 => by subst e; exact h
  | v :: vs, d :: ds, _, h, e, n + 1 => by
    cases h with
    | cons h1 h2 =>
      obtain ⟨rfl, rfl⟩ := List.append_eq_nil_iff.mp e
      exact Trs.drop h2 rfl n
def newL (ds : List D) : Sl := .ow (nolists ds) (.list ds)
theorem Rel.newL {C : Cn} {Z : Reg} {S1 S2 : List Addr} {sl tm : List Sl} {j : Int} {Θ : List V} {σ : L2.St} {H : Hp} {us : List V} {es : List D} {p : Addr} (h : RelX C Z S1 S2 ⟨sl, tm, j⟩ Θ σ H) (t : Trs H Z [] us es) (hp : H p = none) :
    Rel C ⟨sl, G.newL es :: tm, j⟩ (.ref p :: Θ) σ (upd H p (.lst us)) := by
  have sm := same_upd (o := .lst us) hp
  have h1 : RelX C Z S1 S2 ⟨sl, tm, j⟩ Θ σ (upd H p (.lst us)) := by
    refine ⟨fun a o e m => ⟨(h.fr a o e m).1, sm a o (h.fr a o e m).2⟩, h.es.mono (fun t vs e => sm t _ e) (fun _ z => z) (fun a _ o e => sm a o e) (fun a _ o e => sm a o e), h.et.mono (fun t vs e => sm t _ e) (fun _ z => z) (fun a _ o e => sm a o e) (fun a _ o e => sm a o e), h.nd, h.nz, fun q b e => ⟨(h.pu q b e).1.mono (sm q), (h.pu q b e).2⟩, fun a z => ?_, h.dj, fun k j π u e ev => ?_⟩
    · obtain ⟨o, e⟩ := h.ex a z
      exact ⟨o, sm a o e⟩
    · obtain ⟨s, d', e', w, g1, g2, g3, g4, wk⟩ := h.al k j π u e ev
      obtain ⟨w', T', ew, t, sub⟩ := h.slot g1 g2
      rw [g4] at ew
      cases ew
      exact ⟨s, d', e', w, g1, g2, g3, g4, (Tr.part t g3 wk).2 _ (fun t vs e => sm t _ e) fun a _ o e => sm a o e⟩
  have f : Fl C Z S1 S2 (upd H p (.lst us)) [p] := by
    refine ⟨?_, fun a m => ?_⟩
    · show (p :: (S1 ++ S2)).Nodup
      refine List.nodup_cons.mpr ⟨fun m => ?_, h.nd⟩
      rcases List.mem_append.mp m with m | m
      · obtain ⟨ys, q⟩ := h.es.dom p m
        rw [hp] at q
        cases q
      · obtain ⟨ys, q⟩ := h.et.dom p m
        rw [hp] at q
        cases q
    · simp only [List.mem_singleton] at m
      subst m
      refine ⟨fun z => ?_, fun q b e z => ?_, _, upd_same⟩
      · obtain ⟨o, q⟩ := h.ex a z
        rw [hp] at q
        cases q
      · subst z
        obtain ⟨x, y, z, e2, _⟩ := (h.pu a b e).1
        rw [hp] at e2
        cases e2
  have t' : Trs (upd H p (.lst us)) Z [] us es := Trs.mono (fun t vs e => sm t _ e) (fun _ z => z) (fun a _ o e => sm a o e) _ _ _ t fun a m => nomatch m
  unfold G.newL
  cases hn : nolists es with
  | true => exact ⟨_, _, _, h1.pushF f (A' := [p]) (Dr := []) (by simp) (.ow (.lst (S := []) upd_same (Trs.nolist _ _ _ t' hn).2)) (fun i π z => nomatch z)⟩
  | false => exact ⟨_, _, _, h1.pushF f (A' := [p]) (Dr := []) (by simp) (.sp upd_same t') (fun i π z => nomatch z)⟩
/-- the items of the top, shared -/
def shr (sl : List Sl) (s : Sl) (l : Bool) : Option (List D) := ((look sl s).bind (seqD l)).bind fun ds => match s with
  | .al _ _ => if nolists ds then some ds else none
  | _ => some ds
theorem Rel.shr {C : Cn} {sl tm : List Sl} {s : Sl} {j : Int} {v : V} {Θ : List V} {σ : L2.St} {H : Hp} {l : Bool} {ds : List D} (R : Rel C ⟨sl, s :: tm, j⟩ (v :: Θ) σ H) (e : G.shr sl s l = some ds) :
    ∃ a vs Z S1 S2, v = .ref a ∧ H a = some (hoq l vs) ∧ RelX C Z S1 S2 ⟨sl, tm, j⟩ Θ σ H ∧ Trs H Z [] vs ds := by
  unfold G.shr at e
  obtain ⟨ds', e1, e2⟩ := Option.bind_eq_some_iff.mp e
  obtain ⟨d0, e3, e4⟩ := Option.bind_eq_some_iff.mp e1
  have e5 := seqD_eq e4
  subst e5
  obtain ⟨a, vs, rfl, ha, el, _⟩ := R.item e3
  have eqv : ∀ us, H a = some (hoq l us) → us = vs := fun us q => by
    rw [ha] at q
    cases l with
    | true => cases q; rfl
    | false => cases q; rfl
  -- frozen
  have frz : ∀ {d}, Rel C ⟨sl, .fz d :: tm, j⟩ (.ref a :: Θ) σ H → d = dq l ds' → ds' = ds → ∃ b us Z S1 S2, V.ref a = .ref b ∧ H b = some (hoq l us) ∧ RelX C Z S1 S2 ⟨sl, tm, j⟩ Θ σ H ∧ Trs H Z [] us ds := fun {d} R ed eds => by
    subst ed
    subst eds
    obtain ⟨Z, S1, S2, h⟩ := R
    obtain ⟨A, B, es, r, f⟩ := RelX.popF (ss := [.fz (dq l ds')]) (us := [.ref a]) h rfl
    cases es with
    | cons e1 e2 =>
      cases e1 with
      | fz t =>
        obtain ⟨a', us, T, ea, ha', ts, sub⟩ := t.seq
        cases ea
        have eT : T = [] := by
          cases T with
          | nil => rfl
          | cons y ys => exact nomatch sub y (by simp)
        subst eT
        exact ⟨a, us, Z, S1, B, rfl, ha', r, ts⟩
  cases s with
  | jk => cases e3
  | dc m => cases e3
  | dt m => cases e3
  | sh m => cases e3
  | xv _ _ m => cases e3
  | ho _ _ => cases e3
  | io d => cases e3
  | pu => cases e3
  | fz d =>
    cases e3
    exact frz R rfl (by simpa using e2)
  | ow b d =>
    cases e3
    exact frz R.frzT rfl (by simpa using e2)
  | al i π =>
    dsimp only at e2
    by_cases hn : nolists ds' = true
    · rw [if_pos hn] at e2
      cases e2
      obtain ⟨Z, S1, S2, h⟩ := R
      obtain ⟨T, t, _⟩ := h.trAt (k := 0) rfl rfl e3
      obtain ⟨a', us, T', ea, ha', ts, _⟩ := t.seq
      cases ea
      obtain ⟨A, B, es, r, f⟩ := RelX.popF (ss := [.al i π]) (us := [.ref a]) h rfl
      exact ⟨a, us, Z, S1, B, rfl, ha', r, (Trs.nolist _ _ _ ts hn).2⟩
    · rw [if_neg hn] at e2
      cases e2
/-- list(xs), list(t) -/
def kListOf (ka : KE) : KE := fun γ q => ka γ fun γ1 => match γ1.tm with
  | s :: tm => ((shr γ1.sl s true).orElse fun _ => shr γ1.sl s false).elim False fun ds => q ⟨γ1.sl, newL ds :: tm, γ1.n⟩
  | _ => False
theorem so_listOf {ts : TA} (h : SoA xc 1 ts ka) : SoE xc (tCB (fun xs H Q => ∃ p ys, xs = [.ref p] ∧ (SqL K H p ys ∨ SqT K H p ys) ∧ ∀ l, H l = none → Q (.ref l) (upd H l (.lst ys))) ts) (kListOf ka) := fun γ Θ σ H Q q R hk w => h γ Θ σ H _ _ R hk fun γ1 vs H1 el hk1 R1 => by
  match vs, el, R1 with
  | [v], _, R1 =>
    obtain ⟨sl, tm, j⟩ := γ1
    dsimp only at hk1
    match tm, hk1, R1 with
    | s :: tm, hk1, R1 =>
      obtain ⟨ds, e, hq⟩ := elimF hk1
      cases e1 : shr sl s true with
      | some ds1 =>
        rw [e1] at e
        cases e
        obtain ⟨a, us, Z, S1, S2, rfl, ha, X, ts⟩ := Rel.shr R1 e1
        exact ⟨a, us, rfl, .inl (SqL.of ha), fun p hp => w _ _ _ hq (Rel.newL X ts hp)⟩
      | none =>
        rw [e1] at e
        obtain ⟨a, us, Z, S1, S2, rfl, ha, X, ts⟩ := Rel.shr R1 (l := false) e
        exact ⟨a, us, rfl, .inr (SqT.of ha), fun p hp => w _ _ _ hq (Rel.newL X ts hp)⟩
/-- slices -/
def kNo : KO := fun γ q => q none γ
def popI (γ : VSt) (f : Int → VSt → Prop) : Prop := match γ.tm with
  | .fz (.int i) :: tm => f i ⟨γ.sl, tm, γ.n⟩
  | _ => False
theorem popI_ok {C : Cn} {γ : VSt} {Θ : List V} {σ : L2.St} {H : Hp} {v : V} {f : Int → VSt → Prop} (R : Rel C γ (v :: Θ) σ H) (h : popI γ f) : ∃ i γ', v = .int i ∧ f i γ' ∧ Rel C γ' Θ σ H := by
  unfold popI at h
  obtain ⟨sl, tm, j⟩ := γ
  dsimp only at h
  split at h
  · rename_i i tm'
    obtain ⟨T, r, _⟩ := R.read (d := .int i) rfl
    cases r
    exact ⟨i, _, rfl, h, R.pop⟩
  · exact h.elim
def kPart (k : KE) : KO := fun γ q => k γ fun γ1 => popI γ1 fun i γ2 => q (some i) γ2
theorem so_no : SoO xc tNoPart kNo := fun γ Θ σ H Q q R hk w => w _ _ H hk R
theorem so_part (h : SoE xc t k) : SoO xc (tPart t) (kPart k) := fun γ Θ σ H Q q R hk w => h γ Θ σ H _ _ R hk fun γ1 v H1 hk1 R1 => by
  obtain ⟨i, γ2, rfl, hf, R2⟩ := popI_ok R1 hk1
  exact ⟨i, rfl, w _ _ H1 hf R2⟩
def cutD (ds : List D) (lo hi : Option Int) : List D := (ds.drop (HT.sIx ds.length 0 lo)).take (HT.sIx ds.length ds.length hi - HT.sIx ds.length 0 lo)
def kSl (ka : KE) (lo hi : KO) : KE := fun γ q => ka γ fun γ1 => lo γ1 fun a γ2 => hi γ2 fun b γ3 => match γ3.tm with
  | s :: tm => (shr γ3.sl s true).elim False fun ds => q ⟨γ3.sl, newL (cutD ds a b) :: tm, γ3.n⟩
  | _ => False
theorem so_sl {tl th : TO} {lo hi : KO} (a : SoE xc ta ka) (b : SoO xc tl lo) (c : SoO xc th hi) : SoE xc (tSl (rSlL K) ta tl th) (kSl ka lo hi) := fun γ Θ σ H Q q R hk w => a γ Θ σ H _ _ R hk fun γ1 v H1 hk1 R1 => b γ1 _ σ H1 _ _ R1 hk1 fun i γ2 H2 hk2 R2 => c γ2 _ σ H2 _ _ R2 hk2 fun j γ3 H3 hk3 R3 => by
  obtain ⟨sl, tm, jj⟩ := γ3
  dsimp only at hk3
  match tm, hk3, R3 with
  | s :: tm, hk3, R3 =>
    obtain ⟨ds, e, hq⟩ := elimF hk3
    obtain ⟨p, us, Z, S1, S2, rfl, ha, X, ts⟩ := Rel.shr R3 e
    refine ⟨p, us, rfl, SqL.of ha, fun o ho => w _ _ _ hq (Rel.newL X ?_ ho)⟩
    have el := ts.length
    unfold cutV cutD
    rw [el]
    exact (ts.drop rfl _).take rfl _
/-- xs + ys -/
def kCat (ka kb : KE) : KE := fun γ q => ka γ fun γ1 => kb γ1 fun γ2 => match γ2.tm with
  | s2 :: s1 :: tm => (shr γ2.sl s1 true).elim False fun ds => (shr γ2.sl s2 true).elim False fun es => ds.length + es.length ≤ 10000000 ∧ q ⟨γ2.sl, newL (ds ++ es) :: tm, γ2.n⟩
  | _ => False
theorem RelX.shr {C : Cn} {Z : Reg} {S1 S2 : List Addr} {sl tm : List Sl} {s : Sl} {j : Int} {v : V} {Θ : List V} {σ : L2.St} {H : Hp} {l : Bool} {ds : List D} (h : RelX C Z S1 S2 ⟨sl, s :: tm, j⟩ (v :: Θ) σ H) (e : G.shr sl s l = some ds) :
    ∃ a vs Z' S2', v = .ref a ∧ H a = some (hoq l vs) ∧ RelX C Z' S1 S2' ⟨sl, tm, j⟩ Θ σ H ∧ Trs H Z' [] vs ds ∧ ∀ a, Z a → Z' a := by
  unfold G.shr at e
  obtain ⟨ds', e1, e2⟩ := Option.bind_eq_some_iff.mp e
  obtain ⟨d0, e3, e4⟩ := Option.bind_eq_some_iff.mp e1
  have e5 := seqD_eq e4
  subst e5
  obtain ⟨A, B, es, r, f⟩ := RelX.popF (ss := [s]) (us := [v]) h rfl
  obtain ⟨T0, en, rfl⟩ : ∃ T0, Ent C Z H T0 (some v) s ∧ A = T0 := by
    cases es with
    | cons e1 e2 =>
      cases e2
      exact ⟨_, e1, by simp⟩
  have go : datS s = some (dq l ds') → ds' = ds → ∃ a vs Z' S2', v = .ref a ∧ H a = some (hoq l vs) ∧ RelX C Z' S1 S2' ⟨sl, tm, j⟩ Θ σ H ∧ Trs H Z' [] vs ds ∧ ∀ a, Z a → Z' a := fun q eds => by
    subst eds
    obtain ⟨w, Tw, ew, t, sbw⟩ := en.tr q
    cases ew
    have g := r.growF f
    have t2 : Tr H (fun a => Z a ∨ a ∈ A) [] v (dq l ds') := Tr.freeze (fun _ z => .inl z) _ _ _ t fun a m => .inr (sbw a m)
    obtain ⟨a, us, T, rfl, ha, ts, sub⟩ := t2.seq
    have eT : T = [] := by
      cases T with
      | nil => rfl
      | cons y ys => exact nomatch sub y (by simp)
    subst eT
    exact ⟨a, us, _, B, rfl, ha, g, ts, fun a z => .inl z⟩
  cases s with
  | jk => cases e3
  | dc m => cases e3
  | dt m => cases e3
  | sh m => cases e3
  | xv _ _ m => cases e3
  | ho _ _ => cases e3
  | io d => cases e3
  | pu => cases e3
  | fz d =>
    cases e3
    exact go rfl (by simpa using e2)
  | ow b d =>
    cases e3
    exact go rfl (by simpa using e2)
  | al i π =>
    dsimp only at e2
    by_cases hn : nolists ds' = true
    · rw [if_pos hn] at e2
      cases e2
      obtain ⟨T, t, _⟩ := h.trAt (k := 0) rfl rfl e3
      obtain ⟨a, us, T', rfl, ha', ts, _⟩ := t.seq
      exact ⟨a, us, Z, B, rfl, ha', r, (Trs.nolist _ _ _ ts hn).2, fun _ z => z⟩
    · rw [if_neg hn] at e2
      cases e2
theorem so_cat (a : SoE xc ta ka) (b : SoE xc tb kb) : SoE xc (tOp rCat ta tb) (kCat ka kb) := fun γ Θ σ H Q q R hk w => a γ Θ σ H _ _ R hk fun γ1 v1 H1 hk1 R1 => b γ1 _ σ H1 _ _ R1 hk1 fun γ2 v2 H2 hk2 R2 => by
  obtain ⟨sl, tm, j⟩ := γ2
  dsimp only at hk2
  split at hk2
  · obtain ⟨ds, e1, hk3⟩ := elimF hk2
    obtain ⟨es, e2, hl, hq⟩ := elimF hk3
    obtain ⟨Z, S1, S2, X⟩ := R2
    obtain ⟨b', zs, Z2, S2', rfl, hb, X2, t2, _⟩ := X.shr e2
    obtain ⟨a', xs, Z3, S3', rfl, ha, X3, t3, sub⟩ := X2.shr e1
    have l1 := t3.length
    have l2 := t2.length
    refine ⟨a', b', xs, zs, rfl, rfl, ha, hb, szle (by omega), fun p hp => w _ _ _ hq (Rel.newL X3 ?_ hp)⟩
    exact t3.append (t2.weak sub)
  · exact hk2.elim
theorem nolists_ints (ns : List Int) : nolists (ns.map PyData.int) = true := by
  induction ns with
  | nil => rfl
  | cons n ns ih => simp [nolists, nolist, ih]
/-- list(range(..)) -/
theorem Rel.ints {C : Cn} {sl tm : List Sl} {j : Int} {Θ : List V} {σ : L2.St} {H : Hp} {p : Addr} (R : Rel C ⟨sl, tm, j⟩ Θ σ H) (hp : H p = none) (ns : List Int) : Rel C ⟨sl, .ow true (dI ns) :: tm, j⟩ (.ref p :: Θ) σ (upd H p (.lst (ns.map V.int))) := by
  obtain ⟨Z, S1, S2, X⟩ := R
  have := Rel.newL X (Trs.intsR (Z := Z) ns) hp
  unfold G.newL at this
  rw [nolists_ints] at this
  exact this
def kRg2 (ka kb : KE) : VSt → (Int → Int → VSt → Prop) → Prop := fun γ q => ka γ fun γ1 => kb γ1 fun γ2 => popI γ2 fun j γ3 => popI γ3 fun i γ4 => q i j γ4
def kRg1 (ka : KE) : VSt → (Int → Int → VSt → Prop) → Prop := fun γ q => ka γ fun γ1 => popI γ1 fun j γ2 => q 0 j γ2
def kListRg (r : VSt → (Int → Int → VSt → Prop) → Prop) : KE := fun γ q => r γ fun i j γ1 => (-1000000000000 ≤ i ∧ i ≤ 1000000000000 ∧ -1000000000000 ≤ j ∧ j ≤ 1000000000000 ∧ j - i ≤ 10000000) ∧ q ⟨γ1.sl, .ow true (dI (rg i j)) :: γ1.tm, γ1.n⟩
theorem listRg_core {C : Cn} {γ : VSt} {Θ : List V} {σ : L2.St} {H : Hp} {i j : Int} {q : VSt → Prop} {Q : VK} (R : Rel C γ Θ σ H) (h : (-1000000000000 ≤ i ∧ i ≤ 1000000000000 ∧ -1000000000000 ≤ j ∧ j ≤ 1000000000000 ∧ j - i ≤ 10000000) ∧ q ⟨γ.sl, .ow true (dI (rg i j)) :: γ.tm, γ.n⟩)
    (w : ∀ γ' v H', q γ' → Rel C γ' (v :: Θ) σ H' → Q v H') : RgOk i j ∧ ∀ p, H p = none → Q (.ref p) (upd H p (.lst (rgV i j))) := by
  obtain ⟨⟨a1, a2, a3, a4, a5⟩, hq⟩ := h
  refine ⟨?_, fun p hp => ?_⟩
  · have e : (2 : Int) ^ 62 = 4611686018427387904 := by decide
    have e2 : (2 : Nat) ^ 24 = 16777216 := by decide
    unfold RgOk
    rw [e, e2]
    exact ⟨by omega, by omega, by omega, by omega, by omega⟩
  · rw [rgV_map]
    obtain ⟨sl, tm, n⟩ := γ
    exact w _ _ _ hq (R.ints hp _)
theorem so_listRg2 (a : SoE xc ta ka) (b : SoE xc tb kb) : SoE xc (tLstRg (tRg2 ta tb)) (kListRg (kRg2 ka kb)) := fun γ Θ σ H Q q R hk w => a γ Θ σ H _ _ R hk fun γ1 v1 H1 hk1 R1 => b γ1 _ σ H1 _ _ R1 hk1 fun γ2 v2 H2 hk2 R2 => by
  obtain ⟨j, γ3, rfl, hf, R3⟩ := popI_ok R2 hk2
  obtain ⟨i, γ4, rfl, hg, R4⟩ := popI_ok R3 hf
  exact ⟨i, j, rfl, rfl, listRg_core R4 hg w⟩
theorem so_listRg1 (a : SoE xc ta ka) : SoE xc (tLstRg (tRg1 ta)) (kListRg (kRg1 ka)) := fun γ Θ σ H Q q R hk w => a γ Θ σ H _ _ R hk fun γ1 v1 H1 hk1 R1 => by
  obtain ⟨j, γ3, rfl, hf, R3⟩ := popI_ok R1 hk1
  exact ⟨j, rfl, listRg_core R3 hf w⟩
/-! ### calls -/
def kCallT (W : Tw) (n : Nat) (ka : KE) : KE := fun γ q => ka γ fun γ1 => (datN γ1.sl n γ1.tm).elim False fun x => W x.1 fun d => q ⟨γ1.sl, own d :: x.2, γ1.n⟩
theorem Rel.newR {C : Cn} {sl tm : List Sl} {j : Int} {Θ : List V} {σ : L2.St} {H H' : Hp} {v : V} {d : D} (R : Rel C ⟨sl, tm, j⟩ Θ σ H) (sm : Same H H') (nw : New H H' v d) : Rel C ⟨sl, own d :: tm, j⟩ (v :: Θ) σ H' := by
  obtain ⟨S, r, nd, f⟩ := nw
  refine R.new (fun a o e _ => sm a o e) (fun p b q => ?_) ⟨S, Rep.tr _ _ _ r, nd, f⟩
  obtain ⟨Z, S1, S2, X⟩ := R
  exact (X.pu p b q).1.mono (sm p)
theorem so_callT {W : Tw} {ts : TA} (h : SoA xc n ts ka) : SoE xc (tCall (spT W) [] E0 ts) (kCallT W n ka) := fun γ Θ σ H Q q R hk w => h γ Θ σ H _ _ R hk fun γ1 vs H1 el hk1 R1 => by
  obtain ⟨⟨ds, rr⟩, e, hf⟩ := elimF hk1
  obtain ⟨R3, T, rp, _⟩ := Rel.pops (Θ := Θ) R1 el e
  rw [List.append_nil]
  exact ⟨T, ds, _, rp, hf, fun d v H' hq sm nw => w _ v H' hq (R3.newR sm nw)⟩
def kCallTK (W : Tw) (ix : List Nat) (n : Nat) (ka : KE) : KE := fun γ q => ka γ fun γ1 => (datN γ1.sl n γ1.tm).elim False fun x => W (ix.filterMap fun i => x.1[i]?) fun d => q ⟨γ1.sl, own d :: x.2, γ1.n⟩
theorem Reps.pickI {H : Hp} {T : List Addr} {vs : List V} {ds : List D} (r : Reps H T vs ds) : ∀ ix : List Nat, ∃ T', Reps H T' (ix.filterMap fun i => vs[i]?) (ix.filterMap fun i => ds[i]?) ∧ ∀ a ∈ T', a ∈ T
  | [] => ⟨[], .nil, fun _ z => nomatch z⟩
  | i :: ix => by
    obtain ⟨T', q, sub⟩ := Reps.pickI r ix
    have el := r.length
    cases e : ds[i]? with
    | none =>
      have e2 : vs[i]? = none := List.getElem?_eq_none (by have := List.getElem?_eq_none_iff.mp e; omega)
      rw [List.filterMap_cons_none e, List.filterMap_cons_none e2]
      exact ⟨T', q, sub⟩
    | some d =>
      obtain ⟨v, T1, e2, rv, s1⟩ := r.get e
      rw [List.filterMap_cons_some e, List.filterMap_cons_some e2]
      exact ⟨_, .cons rv q, fun a m => (List.mem_append.mp m).elim (s1 a) (sub a)⟩
theorem so_callTK {W : Tw} {ix : List Nat} {ts : TA} (h : SoA xc n ts ka) : SoE xc (tCallK (spT W) (gKwV ix) E0 tNil ts) (kCallTK W ix n ka) := fun γ Θ σ H Q q R hk w => h γ Θ σ H _ _ R hk fun γ1 vs H1 el hk1 R1 => by
  obtain ⟨⟨ds, rr⟩, e, hf⟩ := elimF hk1
  obtain ⟨R3, T, rp, _⟩ := Rel.pops (Θ := Θ) R1 el e
  obtain ⟨T', rp', _⟩ := rp.pickI ix
  exact ⟨T', _, _, rp', hf, fun d v H' hq sm nw => w _ v H' hq (R3.newR sm nw)⟩
def kCallP (c : Int) (W : Tw) (n : Nat) (ka : KE) : KE := fun γ q => ka γ fun γ1 => (datN γ1.sl n γ1.tm).elim False fun x => match x.2 with
  | .pu :: r => (0 ≤ c ∧ c ≤ γ1.n) ∧ W x.1 fun d => q ⟨γ1.sl, own d :: r, γ1.n - c⟩
  | _ => False
theorem so_callP {c : Int} {W : Tw} {ts : TA} (h : SoA xc (n + 1) ts ka) : SoE xc (tCall (spP c W) [] E0 ts) (kCallP c W n ka) := fun γ Θ σ H Q q R hk w => h γ Θ σ H _ _ R hk fun γ1 vs H1 el hk1 R1 => by
  obtain ⟨⟨ds, rr⟩, e, hf⟩ := elimF hk1
  match vs, el with
  | v :: vs, el =>
    rw [List.reverse_cons, List.append_assoc] at R1
    obtain ⟨R3, T, rp, np⟩ := Rel.pops (Θ := [v] ++ Θ) R1 (by simpa using el) e
    dsimp only at hf
    split at hf
    · rename_i r
      obtain ⟨⟨c0, c1⟩, hw⟩ := hf
      have R4 : Rel C ⟨γ1.sl, .pu :: r, γ1.n⟩ (v :: Θ) σ H1 := R3
      have pv : ∃ p b, C.pu = some (p, b) ∧ v = .ref p := by
        obtain ⟨Z, S1, S2, X⟩ := R4
        obtain ⟨A, B, es, r, f⟩ := RelX.popF (ss := [.pu]) (us := [v]) X rfl
        cases es with
        | cons e1 e2 =>
          cases e1 with
          | pu q => exact ⟨_, _, q, rfl⟩
      obtain ⟨p, b, epu, rfl⟩ := pv
      have R5 := R4.pop
      have pu : PuAt H1 p (b - γ1.n) := by
        obtain ⟨Z, S1, S2, X⟩ := R5
        exact (X.pu p b epu).1
      have bok := C.ok p b epu
      rw [List.append_nil]
      refine ⟨p, b - γ1.n, vs, T, ds, _, rfl, pu, by omega, rp, np p b epu, hw, fun d v H' hq fr kp nw => ?_⟩
      obtain ⟨S, rd, nd, f⟩ := nw
      refine w _ v H' hq (R5.new (n' := γ1.n - c) (fun a o e ne => fr a o e (ne p b epu)) (fun p' b' e' => ?_) ⟨S, Rep.tr _ _ _ rd, nd, f⟩)
      rw [epu] at e'
      cases e'
      have : b - γ1.n + c = b - (γ1.n - c) := by omega
      rw [← this]
      exact kp
    · exact hf.elim
/-! ### methods of lists -/
def isLst (γ : VSt) : Prop := match γ.tm with
  | s :: _ => ((look γ.sl s).bind (seqD true)).elim False fun _ => True
  | _ => False
theorem tyV_of {C : Cn} {γ : VSt} {Θ : List V} {σ : L2.St} {H : Hp} {v : V} (R : Rel C γ (v :: Θ) σ H) (h : isLst γ) : tyV K "list" v H := by
  unfold isLst at h
  obtain ⟨sl, tm, j⟩ := γ
  dsimp only at h
  split at h
  · obtain ⟨ds, e, _⟩ := elimF h
    obtain ⟨d0, e1, e2⟩ := Option.bind_eq_some_iff.mp e
    have e3 := seqD_eq e2
    subst e3
    obtain ⟨a, vs, rfl, ha, _⟩ := R.item e1
    exact tyL ha
  · exact h.elim
/-- a method that only reads -/
def kM (n : Nat) (f : List D → (D → Prop) → Prop) (ko ka : KE) : KE := fun γ q => ko γ fun γ1 => isLst γ1 ∧ ka γ1 fun γ2 => (datN γ2.sl (n + 1) γ2.tm).elim False fun x => f x.1 fun d => q ⟨γ2.sl, .fz d :: x.2, γ2.n⟩
def SoM (n : Nat) (r : V → List V → Hp → VK → Prop) (f : List D → (D → Prop) → Prop) : Prop := SoC (n + 1) (fun vs H Q => match vs with | v :: vs => r v vs H Q | [] => False) f
theorem so_m {r : V → List V → Hp → VK → Prop} {f : List D → (D → Prop) → Prop} {ts : TA} (hr : SoM n r f) (ho : SoE xc t k) (ha : SoA xc n ts ka) : SoE xc (tBM K "list" r t ts) (kM n f k ka) := fun γ Θ σ H Q q R hk w => ho γ Θ σ H _ _ R hk fun γ1 v H1 hk1 R1 =>
  ⟨tyV_of R1 hk1.1, ha γ1 _ σ H1 _ _ R1 hk1.2 fun γ2 vs H2 el hk2 R2 => by
    obtain ⟨⟨ds, rr⟩, e, hf⟩ := elimF hk2
    have R2' : Rel C ⟨γ2.sl, γ2.tm, γ2.n⟩ ((v :: vs).reverse ++ Θ) σ H2 := by simpa using R2
    obtain ⟨R3, T, rp, _⟩ := Rel.pops (Θ := Θ) R2' (by simp [el]) e
    exact hr H2 (v :: vs) T ds _ _ rp (by simp [el]) hf fun v d sc hq => w _ v H2 hq (R3.push fun Z => sc H2 Z)⟩
def vCnt : List D → (D → Prop) → Prop := fun ds q => match ds with
  | [.list es, .int k] => (intsOf es).elim False fun ns => q (.int (ns.count k : Nat))
  | _ => False
theorem sm_count : SoM 1 (rCntI K) vCnt := fun H vs T ds Q q r el hf w => by
  unfold vCnt at hf
  split at hf
  · obtain ⟨ns, e, hg⟩ := elimF hf
    obtain rfl := intsOf_eq e
    obtain ⟨v, u, T1, T2, rfl, r1, r2⟩ := r.c2
    cases r2
    cases r1 with
    | lst e rs =>
      rw [rs.intsInv.2] at e
      exact ⟨_, ns, _, rfl, rfl, SqL.of e, w _ _ (sca_int _) hg⟩
  · exact hf.elim
theorem idxOf_min : ∀ (l : List Int) (x : Int) (m : Nat), m < l.idxOf x → l[m]? ≠ some x
  | [], _, _, h => by simp at h
  | y :: ys, x, 0, h => by
    rw [List.idxOf_cons] at h
    intro z
    simp at z
    subst z
    simp at h
  | y :: ys, x, m + 1, h => by
    rw [List.idxOf_cons] at h
    by_cases e : y = x
    · subst e
      simp at h
    · have e2 : (y == x) = false := by simpa using e
      rw [e2] at h
      intro z
      exact idxOf_min ys x m (by simpa using h) (by simpa using z)
def vIdx : List D → (D → Prop) → Prop := fun ds q => match ds with
  | [.list es, .int k] => (intsOf es).elim False fun ns => k ∈ ns ∧ q (.int (ns.idxOf k : Nat))
  | _ => False
theorem sm_index : SoM 1 (rIndex K) vIdx := fun H vs T ds Q q r el hf w => by
  unfold vIdx at hf
  split at hf
  · rename_i es kk
    obtain ⟨ns, e, hg⟩ := elimF hf
    obtain rfl := intsOf_eq e
    obtain ⟨v, u, T1, T2, rfl, r1, r2⟩ := r.c2
    cases r2
    cases r1 with
    | lst e rs =>
      rw [rs.intsInv.2] at e
      have lt := List.idxOf_lt_length_of_mem hg.1
      refine ⟨_, ns.map V.int, .int kk, ns.idxOf kk, .int kk, rfl, rfl, SqL.of e, rfl, flat_ints ns, ?_, by simp [eqV], fun m z hm hz => ?_, w _ _ (sca_int _) hg.2⟩
      · rw [List.getElem?_map, List.getElem?_eq_getElem lt, List.getElem_idxOf lt]
        rfl
      · rw [List.getElem?_map] at hz
        cases q : ns[m]? with
        | none => rw [q] at hz; cases hz
        | some x =>
          rw [q] at hz
          cases hz
          have hne : x ≠ kk := fun z => by
            subst z
            exact idxOf_min _ _ _ hm q
          simp [eqV, hne]
  · exact hf.elim
end
end G
/-! GM: lists that are written, loops, blocks, defs. -/
namespace G
open PySem PySem.Spec PyProof.Rows L2
variable {C : Cn} {xc : XC C}
section
variable {t t1 t2 ta tb tc : TE} {k k1 k2 ka kb kc ko : KE} {n m : Nat} {c1 c2 : TT} {h1 h2 : KT} {K : PySem.W.Frag}
/-! ### writes -/
def wrL (sl : List Sl) (i : Nat) (π : List Nat) (f : Bool → D → List D → Prop) : Prop := match sl[i]? with
  | some (.ow b d) => (atP d π).elim False fun e => match e with
    | .list es => f b d es
    | _ => False
  | some (.io d) => (atP d π).elim False fun e => match e with
    | .list es => f true d es
    | _ => False
  | _ => False
/-- the names behind a write -/
def putS (sl : List Sl) (i : Nat) (b : Bool) (d : D) : List Sl := sl.set i (reS ((sl[i]?).getD .jk) b d)
def ioOk (sl : List Sl) (i : Nat) (b : Bool) : Prop := match sl[i]? with
  | some (.io _) => b = true
  | _ => True
theorem wrL_inv {sl : List Sl} {i : Nat} {π : List Nat} {f : Bool → D → List D → Prop} (h : wrL sl i π f) : ∃ s0 b d es, sl[i]? = some s0 ∧ (s0 = .ow b d ∨ (s0 = .io d ∧ b = true)) ∧ datS s0 = some d ∧ atP d π = some (.list es) ∧ f b d es := by
  unfold wrL at h
  split at h
  · rename_i b d e
    obtain ⟨x, ex, hx⟩ := elimF h
    split at hx
    · exact ⟨_, b, d, _, e, .inl rfl, rfl, ex, hx⟩
    · exact hx.elim
  · rename_i d e
    obtain ⟨x, ex, hx⟩ := elimF h
    split at hx
    · exact ⟨_, true, d, _, e, .inr ⟨rfl, rfl⟩, rfl, ex, hx⟩
    · exact hx.elim
  · exact h.elim
theorem putS_eq {sl : List Sl} {i : Nat} {s0 : Sl} {b : Bool} {d : D} (e : sl[i]? = some s0) : putS sl i b d = sl.set i (reS s0 b d) := by
  unfold putS
  rw [e]
  rfl
theorem ioOk_at {sl : List Sl} {i : Nat} {s0 : Sl} {b : Bool} (h : ioOk sl i b) (e : sl[i]? = some s0) : ∀ x, s0 = .io x → b = true := fun x z => by
  subst z
  unfold ioOk at h
  rw [e] at h
  exact h
/-- what stands below: the alias is walked to -/
theorem RelX.walk {C : Cn} {Z : Reg} {S1 S2 : List Addr} {γ : VSt} {Θ : List V} {σ : L2.St} {H : Hp} {j i : Nat} {π : List Nat} {v : V} (h : RelX C Z S1 S2 γ Θ σ H) (e : γ.tm[j]? = some (.al i π)) (ev : Θ[j]? = some v) : ∃ w, σ[i]? = some (some w) ∧ Wk H w π v := by
  obtain ⟨s, d', e', w, g1, g2, g3, g4, wk⟩ := h.al j i π v e ev
  exact ⟨w, g4, wk⟩
theorem okB {b c : Bool} {π : List Nat} (h : (b && c) = true ∨ π = []) : (b = true ∨ π = []) ∧ ((b && c) = b ∨ ((b && c) = false ∧ π = [])) := by
  rcases h with h | h
  · rw [Bool.and_eq_true] at h
    exact ⟨.inl h.1, .inl (by rw [h.1, h.2]; rfl)⟩
  · refine ⟨.inr h, ?_⟩
    cases hb : (b && c) with
    | true =>
      rw [Bool.and_eq_true] at hb
      exact .inl hb.1.symm
    | false => exact .inr ⟨rfl, h⟩
def kApp (ko ke : KE) : KE := fun γ q => ko γ fun γ1 => isLst γ1 ∧ ke γ1 fun γ2 => match γ2.tm with
  | s :: .al i π :: tm => (con s).elim False fun c => noAl i tm = true ∧ wrL γ2.sl i π fun b d es => (((b && c.1) = true ∨ π = []) ∧ ioOk γ2.sl i (b && c.1)) ∧ es.length < 10000000 ∧ q ⟨putS γ2.sl i (b && c.1) (setP d π (.list (es ++ [c.2]))), .fz .none :: tm, γ2.n⟩
  | _ => False
theorem so_app (ho : SoE xc t ko) (he : SoE xc ta ka) : SoE xc (tBM K "list" rAppend t (tCons ta tNil)) (kApp ko ka) := fun γ Θ σ H Q q R hk w => ho γ Θ σ H _ _ R hk fun γ1 v H1 hk1 R1 =>
  ⟨tyV_of R1 hk1.1, he γ1 _ σ H1 _ _ R1 hk1.2 fun γ2 u H2 hk2 R2 => by
    obtain ⟨sl, tm, j⟩ := γ2
    dsimp only at hk2
    split at hk2
    · rename_i s i π tm
      obtain ⟨⟨cb, cd⟩, ec, na, hw⟩ := elimF hk2
      obtain ⟨s0, b, d, es, e1, hs, eds, e2, ⟨hb, hio⟩, hl, hq⟩ := wrL_inv hw
      rw [putS_eq e1] at hq
      obtain ⟨hb1, hb2⟩ := okB hb
      obtain ⟨Z, S1, S2, X⟩ := R2
      obtain ⟨w0, ew, wk⟩ := X.walk (j := 1) rfl rfl
      obtain ⟨A, B, en, X1, f⟩ := RelX.popF (ss := [s, .al i π]) (us := [u, v]) X rfl
      obtain ⟨A', en', rfl⟩ : ∃ A', Ent C Z H2 A' (some u) s ∧ A = A' := by
        cases en with
        | cons e1 e2 =>
          cases e2 with
          | cons e2 e3 =>
            cases e2
            cases e3
            exact ⟨_, e1, by simp⟩
      obtain ⟨a, vs, T, rfl, ha, ts, aA, aZ, aT, put⟩ := X1.putF f e1 hs na ew wk e2 hb1
      have el := ts.length
      have ti := en'.con ec
      have t1 : Trs (upd H2 a (.lst (vs ++ [u]))) (rgn (b && cb) Z) (T ++ (A ++ [])) (vs ++ [u]) (es ++ [cd]) := by
        refine ((ts.upd ha aZ aT).weak (rgn_mono fun z => ?_)).append (.cons ((ti.upd ha aZ fun x m z => aA (z ▸ m)).weak (rgn_mono fun z => ?_)) .nil)
        · rw [Bool.and_eq_true] at z; exact z.1
        · rw [Bool.and_eq_true] at z; exact z.2
      obtain ⟨S1', X2, _⟩ := put (vs ++ [u]) (es ++ [cd]) (b && cb) _ [] hb2 (ioOk_at hio e1) t1 (by simp)
      have R3 : Rel C ⟨_, tm, j⟩ Θ σ (upd H2 a (.lst (vs ++ [u]))) := ⟨_, _, _, X2⟩
      exact ⟨a, vs, u, rfl, rfl, ha, szlt (by omega), w _ _ _ hq (R3.push fun Z => .non)⟩
    · exact hk2.elim⟩
/-- an item is taken out of a list -/
def popK (γ : VSt) (i : Nat) (π : List Nat) (tm : List Sl) (kk : Int) (q : VSt → Prop) : Prop := noAl i tm = true ∧ wrL γ.sl i π fun b d es => (b = true ∨ π = []) ∧ (0 ≤ kk ∧ kk < es.length ∧ es.length ≤ 10000000) ∧ (es[kk.toNat]?).elim False fun x => q ⟨putS γ.sl i b (setP d π (.list (es.eraseIdx kk.toNat))), (if b then own x else .fz x) :: tm, γ.n⟩
theorem popK_ok {C : Cn} {sl tm : List Sl} {j : Int} {ss : List Sl} {us : List V} {v : V} {Θ : List V} {σ : L2.St} {H : Hp} {i : Nat} {π : List Nat} {kk : Int} {q : VSt → Prop} (R : Rel C ⟨sl, ss ++ .al i π :: tm, j⟩ (us ++ v :: Θ) σ H) (el : us.length = ss.length)
    (h : popK ⟨sl, ss ++ .al i π :: tm, j⟩ i π tm kk q) : ∃ a vs y γ', v = .ref a ∧ H a = some (.lst vs) ∧ 0 ≤ kk ∧ (kk < vs.length ∧ vs.length ≤ 10000000) ∧ vs[kk.toNat]? = some y ∧ q γ' ∧ Rel C γ' (y :: Θ) σ (upd H a (.lst (vs.eraseIdx kk.toNat))) := by
  obtain ⟨na, hw⟩ := h
  obtain ⟨s0, b, d, es, e1, hs, eds, e2, hb, ⟨k0, k1, k2⟩, hx⟩ := wrL_inv hw
  obtain ⟨x, ex, hq⟩ := elimF hx
  dsimp only at hq
  rw [putS_eq e1] at hq
  obtain ⟨Z, S1, S2, X⟩ := R
  obtain ⟨w0, ew, wk⟩ := X.walk (j := ss.length) (i := i) (π := π) (v := v) (by show (ss ++ .al i π :: tm)[ss.length]? = _; rw [List.getElem?_append_right (Nat.le_refl _)]; simp) (by rw [← el, List.getElem?_append_right (Nat.le_refl _)]; simp)
  have X' : RelX C Z S1 S2 ⟨sl, (ss ++ [.al i π]) ++ tm, j⟩ ((us ++ [v]) ++ Θ) σ H := by simpa using X
  obtain ⟨A0, B, en, X1, f0⟩ := RelX.popF (ss := ss ++ [.al i π]) (us := us ++ [v]) X' (by simp [el])
  have f : Fl C Z S1 B H [] := ⟨by simpa using X1.nd, fun a m => nomatch m⟩
  obtain ⟨a, vs, T, rfl, ha, ts, aA, aZ, aT, put⟩ := X1.putF f e1 hs na ew wk e2 hb
  have tl := ts.length
  obtain ⟨y, T1, Rr, ey, ty, pm, ⟨R', tr, pr⟩, _⟩ := ts.at ex
  have subR : ∀ x ∈ R', x ≠ a := fun x m => aT x (pm.mem_iff.mpr (List.mem_append_right _ (pr.mem_iff.mp m)))
  have subT : ∀ x ∈ T1, x ≠ a := fun x m => aT x (pm.mem_iff.mpr (List.mem_append_left _ m))
  obtain ⟨S1', X2, f2⟩ := put (vs.eraseIdx kk.toNat) (es.eraseIdx kk.toNat) b R' T1 (.inl rfl) (fun x z => by
    rcases hs with h | h
    · rw [h] at z; cases z
    · exact h.2) (tr.upd ha aZ subR) (by
    rw [List.append_nil]
    exact pm.trans (List.perm_append_comm.trans (List.Perm.append_right T1 pr.symm)))
  have ty2 : Tr (upd H a (.lst (vs.eraseIdx kk.toNat))) (rgn b Z) T1 y x := ty.upd ha aZ subT
  refine ⟨a, vs, y, _, rfl, ha, k0, ⟨by omega, by omega⟩, ey, hq, ?_⟩
  cases b with
  | true =>
    rw [if_pos rfl]
    unfold own
    by_cases hn : nolist x = true
    · rw [if_pos hn]
      exact Rel.push ⟨_, _, _, X2⟩ fun Z => (Tr.nolist _ _ _ ty2 hn).2
    · rw [if_neg hn]
      exact ⟨_, _, _, X2.pushF f2 (A' := T1) (Dr := []) (by simp) (.ow ty2) (fun i π z => nomatch z)⟩
  | false =>
    rw [if_neg (by simp)]
    have g := X2.growF f2
    have t3 : Tr (upd H a (.lst (vs.eraseIdx kk.toNat))) (fun a => Z a ∨ a ∈ T1) [] y x := Tr.freeze (fun _ z => .inl z) _ _ _ ty2 fun _ m => .inr m
    exact ⟨_, _, _, g.pushE (Z' := fun _ => False) (.fz t3) List.nodup_nil (fun a m => nomatch m) (fun i π z => nomatch z)⟩
def kPop (ko : KE) : KE := fun γ q => ko γ fun γ1 => isLst γ1 ∧ match γ1.tm with
  | .al i π :: tm => wrL γ1.sl i π fun _ _ es => popK γ1 i π tm (es.length - 1 : Nat) q ∧ es ≠ []
  | _ => False
theorem so_pop (ho : SoE xc t ko) : SoE xc (tBM0 K "list" rPop t) (kPop ko) := fun γ Θ σ H Q q R hk w => ho γ Θ σ H _ _ R hk fun γ1 v H1 hk1 R1 =>
  ⟨tyV_of R1 hk1.1, by
    obtain ⟨sl, tm, j⟩ := γ1
    obtain ⟨_, hk1⟩ := hk1
    dsimp only at hk1
    split at hk1
    · rename_i i π tm
      obtain ⟨s0, b, d, es, e1, hs, eds, e2, hp, hne⟩ := wrL_inv hk1
      obtain ⟨Z, S1, S2, X⟩ := id R1
      obtain ⟨T0, t0, _⟩ := X.trAt (k := 0) (d := .list es) rfl rfl (by simp only [look, e1, eds, Option.bind_some]; exact e2)
      obtain ⟨a, vs, y, γ', rfl, ha, k0, k1, ey, hq, R2⟩ := popK_ok (ss := []) (us := []) R1 rfl hp
      have el : vs.length = es.length := by
        obtain ⟨a', us, T', ea, ha', ts, _⟩ := (show Tr H1 Z T0 (.ref a) (dq true es) from t0).seq
        cases ea
        have ha2 : H1 a = some (.lst us) := ha'
        rw [ha] at ha2
        cases ha2
        exact ts.length
      have e3 : ((es.length - 1 : Nat) : Int).toNat = vs.length - 1 := by omega
      rw [e3] at ey R2
      refine ⟨a, vs, y, rfl, rfl, ha, ey, ?_⟩
      have e4 : vs.eraseIdx (vs.length - 1) = vs.dropLast := List.eraseIdx_length_sub_one
      rw [e4] at R2
      exact w _ _ _ hq R2
    · exact hk1.elim⟩
def kPopAt (ko ke : KE) : KE := fun γ q => ko γ fun γ1 => isLst γ1 ∧ ke γ1 fun γ2 => match γ2.tm with
  | .fz (.int kk) :: .al i π :: tm => popK γ2 i π tm kk q
  | _ => False
theorem so_popAt (ho : SoE xc t ko) (he : SoE xc ta ka) : SoE xc (tBM K "list" rPopAt t (tCons ta tNil)) (kPopAt ko ka) := fun γ Θ σ H Q q R hk w => ho γ Θ σ H _ _ R hk fun γ1 v H1 hk1 R1 =>
  ⟨tyV_of R1 hk1.1, he γ1 _ σ H1 _ _ R1 hk1.2 fun γ2 u H2 hk2 R2 => by
    obtain ⟨sl, tm, j⟩ := γ2
    dsimp only at hk2
    split at hk2
    · rename_i kk i π tm
      obtain ⟨T, r, _⟩ := R2.read (d := .int kk) rfl
      cases r
      obtain ⟨a, vs, y, γ', rfl, ha, k0, k1, ey, hq, R3⟩ := popK_ok (ss := [.fz (.int kk)]) (us := [.int kk]) R2 rfl hk2
      refine ⟨a, vs, kk, kk.toNat, y, rfl, rfl, ha, ?_, ?_, ?_, ey, w _ _ _ hq R3⟩
      · have e : (2 : Int) ^ 63 = 9223372036854775808 := by decide
        omega
      · have e : (2 : Int) ^ 63 = 9223372036854775808 := by decide
        omega
      · unfold seqIndex?
        simp only [show ¬ kk < 0 by omega, if_false]
        rw [if_pos]
        simp
        omega
    · exact hk2.elim⟩
/-- o[i] = e -/
def kgSub (ko ki : KE) : KG := fun γ q => ko γ fun γ1 => ki γ1 fun γ2 => match γ2.tm with
  | .fz (.int kk) :: .al i π :: s :: tm => (con s).elim False fun c => noAl i tm = true ∧ wrL γ2.sl i π fun b d es => (((b && c.1) = true ∨ π = []) ∧ ioOk γ2.sl i (b && c.1)) ∧ (0 ≤ kk ∧ kk < es.length) ∧ q ⟨putS γ2.sl i (b && c.1) (setP d π (.list (es.set kk.toNat c.2))), tm, γ2.n⟩
  | _ => False
theorem so_gsub (ho : SoE xc t ko) (hi : SoE xc ta ka) : SoG xc (gSub t ta rSetL) (kgSub ko ka) := fun γ v Θ σ H Q q R hk w => ho γ _ σ H _ _ R hk fun γ1 o H1 hk1 R1 => hi γ1 _ σ H1 _ _ R1 hk1 fun γ2 u H2 hk2 R2 => by
  obtain ⟨sl, tm, j⟩ := γ2
  dsimp only at hk2
  split at hk2
  · rename_i kk i π s tm
    obtain ⟨⟨cb, cd⟩, ec, na, hw⟩ := elimF hk2
    obtain ⟨s0, b, d, es, e1, hs, eds, e2, ⟨hb, hio⟩, ⟨k0, k1⟩, hq⟩ := wrL_inv hw
    rw [putS_eq e1] at hq
    obtain ⟨hb1, hb2⟩ := okB hb
    obtain ⟨T0, r0, _⟩ := R2.read (d := .int kk) rfl
    cases r0
    obtain ⟨Z, S1, S2, X⟩ := R2
    obtain ⟨w0, ew, wk⟩ := X.walk (j := 1) rfl rfl
    obtain ⟨A, B, en, X1, f⟩ := RelX.popF (ss := [.fz (.int kk), .al i π, s]) (us := [.int kk, o, v]) X rfl
    obtain ⟨A', en', rfl⟩ : ∃ A', Ent C Z H2 A' (some v) s ∧ A = A' := by
      cases en with
      | cons e1 e2 =>
        cases e1
        cases e2 with
        | cons e2 e3 =>
          cases e2
          cases e3 with
          | cons e3 e4 =>
            cases e4
            exact ⟨_, e3, by simp⟩
    obtain ⟨a, vs, T, rfl, ha, ts, aA, aZ, aT, put⟩ := X1.putF f e1 hs na ew wk e2 hb1
    have el := ts.length
    have ti := en'.con ec
    have hlt : kk.toNat < es.length := by omega
    have ts' : Trs (upd H2 a (.lst (vs.set kk.toNat v))) (rgn (b && cb) Z) T vs es := (ts.upd ha aZ aT).weak (rgn_mono fun z => by rw [Bool.and_eq_true] at z; exact z.1)
    have ti' : Tr (upd H2 a (.lst (vs.set kk.toNat v))) (rgn (b && cb) Z) A v cd := (ti.upd ha aZ fun x m z => aA (z ▸ m)).weak (rgn_mono fun z => by rw [Bool.and_eq_true] at z; exact z.2)
    obtain ⟨y, T1, Rr, ey, ty, pm, _, kset⟩ := ts'.at (i := kk.toNat) (List.getElem?_eq_getElem hlt)
    obtain ⟨T2, t2, p2⟩ := kset _ A v cd (fun _ _ h => h) (fun _ _ _ h => h) (fun _ _ _ h => h) ti'
    obtain ⟨S1', X2, _⟩ := put (vs.set kk.toNat v) (es.set kk.toNat cd) (b && cb) T2 T1 hb2 (ioOk_at hio e1) t2 (by
      refine List.perm_iff_count.mpr fun x => ?_
      have q1 := pm.count_eq x
      have q2 := p2.count_eq x
      rw [List.count_append] at q1 q2 ⊢
      rw [List.count_append]
      omega)
    refine ⟨a, vs, kk, kk.toNat, rfl, rfl, ha, ?_, w _ _ _ hq ⟨_, _, _, X2⟩⟩
    unfold ixN
    rw [if_pos k0, if_pos (by omega)]
  · exact hk2.elim
/-! ### what is walked over -/
def ItD (C : Cn) (J : It) (ds : List D) (tm : List Sl) (Ψ : List V) : Prop := ∀ (E : List Sl) (Φ : List V) (i : Nat) (sl : List Sl) (n : Int) (σ : L2.St) (H : Hp), Φ.length = E.length → Rel C ⟨sl, E ++ tm, n⟩ (Φ ++ Ψ) σ H → (∀ d, ds[i]? = some d → J.go i H ∧ ∀ x H3, J.yld i H x H3 → Rel C ⟨sl, .fz d :: (E ++ tm), n⟩ (x :: (Φ ++ Ψ)) σ H3) ∧ (ds.length ≤ i → J.stop i H)
def PopD (C : Cn) (tm' : List Sl) (Ψ : List V) (tm : List Sl) (Θ : List V) : Prop := ∀ (E : List Sl) (Φ : List V) (sl : List Sl) (n : Int) (σ : L2.St) (H : Hp), Φ.length = E.length → (∀ s ∈ E, ∀ i π, s ≠ .al i π) → Rel C ⟨sl, E ++ tm', n⟩ (Φ ++ Ψ) σ H → Rel C ⟨sl, E ++ tm, n⟩ (Φ ++ Θ) σ H
abbrev KI := VSt → (List D → VSt → Prop) → Prop
def SoI {C : Cn} (xc : XC C) (wi : TI) (ki : KI) : Prop := ∀ (γ : VSt) (Θ : List V) (σ : L2.St) (H : Hp) (R : It → Hp → Prop) (q : List D → VSt → Prop), Rel C γ Θ σ H → ki γ q →
  (∀ J ds γ' Ψ H', q ds γ' → PopD C γ'.tm Ψ γ.tm Θ → ItD C J ds γ'.tm Ψ → Rel C γ' Ψ σ H' → R J H') → wi σ H R
theorem Rel.dupAt {C : Cn} {γ : VSt} {d : D} {v : V} {Θ : List V} {σ : L2.St} {H : Hp} {kk : Nat} (R : Rel C γ Θ σ H) (e : γ.tm[kk]? = some (.fz d)) (ev : Θ[kk]? = some v) : Rel C ⟨γ.sl, .fz d :: γ.tm, γ.n⟩ (v :: Θ) σ H := by
  obtain ⟨Z, S1, S2, h⟩ := R
  obtain ⟨v', T, Q, ev', en, pm, _⟩ := h.et.at e
  rw [List.getElem?_map, ev] at ev'
  cases ev'
  cases en with
  | fz t =>
    obtain ⟨sl, tm, n⟩ := γ
    exact ⟨Z, S1, _, h.pushE (Z' := Z) (.fz t) List.nodup_nil (fun a m => nomatch m) (fun i π z => nomatch z)⟩
theorem Fl.sub {C : Cn} {Z : Reg} {S1 S2 A A1 A2 : List Addr} {H : Hp} (f : Fl C Z S1 S2 H A) (pm : A.Perm (A1 ++ A2)) : Fl C Z S1 S2 H A1 := by
  refine ⟨nodup_cnt.mpr fun x => ?_, fun a m => f.ok a (pm.mem_iff.mpr (List.mem_append_left _ m))⟩
  have h1 := nodup_cnt.mp f.nd x
  have h2 := pm.count_eq x
  rw [List.count_append] at h1 h2 ⊢
  omega
/-- an entry below the top is forgotten -/
theorem popD_one {C : Cn} {s : Sl} {v : V} {tm : List Sl} {Θ : List V} : PopD C (s :: tm) (v :: Θ) tm Θ := fun E Φ sl n σ H el na R => by
  obtain ⟨Z, S1, S2, h⟩ := R
  have h' : RelX C Z S1 S2 ⟨sl, (E ++ [s]) ++ tm, n⟩ ((Φ ++ [v]) ++ Θ) σ H := by simpa using h
  obtain ⟨A, B, en, X, f⟩ := RelX.popF (ss := E ++ [s]) (us := Φ ++ [v]) h' (by simp [el])
  rw [List.map_append] at en
  obtain ⟨A1, A2, rfl, e1, e2⟩ := en.split (by simpa using el)
  exact ⟨Z, S1, _, X.pushEs (f.sub (.refl _)) e1 na⟩
theorem popD_refl {C : Cn} {tm tm' : List Sl} {Θ : List V} (e : tm' = tm) : PopD C tm' Θ tm Θ := fun E Φ sl n σ H el na R => e ▸ R
theorem itD_list {C : Cn} {l : Bool} {a : Addr} {ds : List D} {tm : List Sl} {Θ : List V} (J : It) (hJ : ∀ i H vs, H a = some (hoq l vs) → (∀ x, vs[i]? = some x → J.go i H) ∧ (∀ x H3, J.yld i H x H3 → H3 = H ∧ vs[i]? = some x) ∧ (vs.length ≤ i → J.stop i H)) : ItD C J ds (.fz (dq l ds) :: tm) (.ref a :: Θ) := fun E Φ i sl n σ H ee R => by
  have R1 := R.dupAt (kk := E.length) (d := dq l ds) (v := .ref a) (by rw [List.getElem?_append_right (Nat.le_refl _)]; simp) (by rw [← ee, List.getElem?_append_right (Nat.le_refl _)]; simp)
  obtain ⟨a', vs, ea, ha, el, k⟩ := R1.item (l := l) (ds := ds) rfl
  cases ea
  obtain ⟨j1, j2, j3⟩ := hJ i H vs ha
  refine ⟨fun d e => ?_, fun hi => j3 (by omega)⟩
  have hlt : i < vs.length := by
    have := (List.getElem?_eq_some_iff.mp e).1
    omega
  refine ⟨j1 _ (List.getElem?_eq_getElem hlt), fun x H3 hy => ?_⟩
  obtain ⟨rfl, ex⟩ := j2 x H3 hy
  exact k i d x e ex
/-- the top, frozen, as a sequence -/
def frzSeq (l : Bool) (s : Sl) : Option (List D) := match s with
  | .fz d => seqD l d
  | .ow _ d => seqD l d
  | _ => none
def kIt (l : Bool) (ke : KE) : KI := fun γ q => ke γ fun γ1 => match γ1.tm with
  | s :: tm => (frzSeq l s).elim False fun ds => q ds ⟨γ1.sl, .fz (dq l ds) :: tm, γ1.n⟩ ∧ tm = γ.tm
  | _ => False
theorem it_core {C : Cn} {sl tm : List Sl} {s : Sl} {j : Int} {v : V} {Θ : List V} {σ : L2.St} {H : Hp} {l : Bool} {ds : List D} (R : Rel C ⟨sl, s :: tm, j⟩ (v :: Θ) σ H) (e : frzSeq l s = some ds) : ∃ a vs, v = .ref a ∧ H a = some (hoq l vs) ∧ Rel C ⟨sl, .fz (dq l ds) :: tm, j⟩ (v :: Θ) σ H := by
  have R2 : Rel C ⟨sl, .fz (dq l ds) :: tm, j⟩ (v :: Θ) σ H := by
    cases s with
    | fz d => rw [← seqD_eq (d := d) e]; exact R
    | ow b d => rw [← seqD_eq (d := d) e]; exact R.frzT
    | jk => cases e
    | dc m => cases e
    | dt m => cases e
    | sh m => cases e
    | xv _ _ m => cases e
    | ho _ _ => cases e
    | io d => cases e
    | al i π => cases e
    | pu => cases e
  obtain ⟨a, vs, rfl, ha, _, _⟩ := R2.item (l := l) (ds := ds) rfl
  exact ⟨a, vs, rfl, ha, R2⟩
theorem so_itL (h : SoE xc t k) : SoI xc (iList K t) (kIt true k) := fun γ Θ σ H Rr q R hk w => h γ Θ σ H _ _ R hk fun γ1 v H1 hk1 R1 => by
  obtain ⟨sl, tm, j⟩ := γ1
  dsimp only at hk1
  split at hk1
  · rename_i s tm
    obtain ⟨ds, e, hq, et⟩ := elimF hk1
    subst et
    obtain ⟨a, vs, rfl, ha, R2⟩ := it_core R1 e
    refine ⟨a, rfl, ⟨vs, SqL.of ha⟩, w _ ds _ _ H1 hq popD_one (itD_list (l := true) _ fun i H xs hx => ⟨fun x ex => ⟨xs, x, SqL.of hx, ex⟩, fun x H3 hy => ⟨hy.1, hy.2 xs (SqL.of hx)⟩, fun hi => ⟨xs, SqL.of hx, hi⟩⟩) R2⟩
  · exact hk1.elim
theorem so_itT (h : SoE xc t k) : SoI xc (iTup K t) (kIt false k) := fun γ Θ σ H Rr q R hk w => h γ Θ σ H _ _ R hk fun γ1 v H1 hk1 R1 => by
  obtain ⟨sl, tm, j⟩ := γ1
  dsimp only at hk1
  split at hk1
  · rename_i s tm
    obtain ⟨ds, e, hq, et⟩ := elimF hk1
    subst et
    obtain ⟨a, vs, rfl, ha, R2⟩ := it_core R1 e
    refine ⟨a, rfl, ⟨vs, SqT.of ha⟩, w _ ds _ _ H1 hq popD_one (itD_list (l := false) _ fun i H xs hx => ⟨fun x ex => ⟨xs, x, SqT.of hx, ex⟩, fun x H3 hy => ⟨hy.1, hy.2 xs (SqT.of hx)⟩, fun hi => ⟨xs, SqT.of hx, hi⟩⟩) R2⟩
  · exact hk1.elim
theorem itD_range {C : Cn} {tm : List Sl} {Ψ : List V} (a b : Int) : ItD C (Itr a (b - a).toNat) ((rg a b).map PyData.int) tm Ψ := fun E Φ i sl n σ H ee R => by
  refine ⟨fun d e => ?_, fun hi => ?_⟩
  · rw [List.getElem?_map] at e
    have hi : i < (b - a).toNat := by
      rcases Nat.lt_or_ge i (b - a).toNat with z | z
      · exact z
      · rw [List.getElem?_eq_none (by rw [rg_length]; omega)] at e
        cases e
    have er : (rg a b)[i]? = some (a + i) := by
      unfold rg
      rw [List.getElem?_map, List.getElem?_range hi]
      rfl
    rw [er] at e
    cases e
    refine ⟨hi, fun x H3 hy => ?_⟩
    obtain ⟨rfl, rfl⟩ := hy
    exact R.push fun Z => .int _
  · rw [List.length_map, rg_length] at hi
    exact hi
def kRng1 (ke : KE) : KI := fun γ q => ke γ fun γ1 => popI γ1 fun j γ2 => (-1000000000000 ≤ j ∧ j ≤ 1000000000000) ∧ q ((rg 0 j).map PyData.int) γ2 ∧ γ2.tm = γ.tm
def kRng2 (ka kb : KE) : KI := fun γ q => ka γ fun γ1 => kb γ1 fun γ2 => popI γ2 fun j γ3 => popI γ3 fun i γ4 => (-1000000000000 ≤ i ∧ i ≤ 1000000000000 ∧ -1000000000000 ≤ j ∧ j ≤ 1000000000000) ∧ q ((rg i j).map PyData.int) γ4 ∧ γ4.tm = γ.tm
theorem so_rng1 (h : SoE xc t k) : SoI xc (iRng1 (tCons t tNil)) (kRng1 k) := fun γ Θ σ H Rr q R hk w => h γ Θ σ H _ _ R hk fun γ1 v H1 hk1 R1 => by
  obtain ⟨j, γ2, rfl, ⟨⟨b1, b2⟩, hq, et⟩, R2⟩ := popI_ok R1 hk1
  have e : (2 : Int) ^ 62 = 4611686018427387904 := by decide
  refine ⟨j, rfl, by omega, by omega, ?_⟩
  have := w (Itr 0 j.toNat) _ γ2 Θ H1 hq (popD_refl et) (by have := itD_range (C := C) (tm := γ2.tm) (Ψ := Θ) 0 j; simpa using this) R2
  exact this
theorem so_rng2 (h : SoE xc ta ka) (h' : SoE xc tb kb) : SoI xc (iRng2 (tCons ta (tCons tb tNil))) (kRng2 ka kb) := fun γ Θ σ H Rr q R hk w => h γ Θ σ H _ _ R hk fun γ1 v H1 hk1 R1 => h' γ1 _ σ H1 _ _ R1 hk1 fun γ2 u H2 hk2 R2 => by
  obtain ⟨j, γ3, rfl, hf, R3⟩ := popI_ok R2 hk2
  obtain ⟨i, γ4, rfl, ⟨⟨b1, b2, b3, b4⟩, hq, et⟩, R4⟩ := popI_ok R3 hf
  have e : (2 : Int) ^ 62 = 4611686018427387904 := by decide
  exact ⟨i, j, rfl, ⟨by omega, by omega, by omega, by omega⟩, w _ _ γ4 Θ H2 hq (popD_refl et) (itD_range i j) R4⟩
/-! ### statements -/
section
variable {s1 s2 : TS} {p1 p2 : KS} {g1 g2 : TG} {e1 e2 : KG}
def okS : Sl → Bool
  | .al _ _ => false
  | _ => true
def kgName (i : Nat) : KG := fun γ q => match γ.tm with
  | s :: tm => (okS s = true ∧ noAl i tm = true) ∧ q ⟨γ.sl.set i s, tm, γ.n⟩
  | _ => False
theorem okS_ne {s : Sl} (h : okS s = true) : ∀ i π, s ≠ .al i π := fun i π z => by subst z; cases h
theorem so_gname {i : Nat} : SoG xc (gName i) (kgName i) := fun γ v Θ σ H Q q R hk w => by
  obtain ⟨sl, tm, j⟩ := γ
  unfold kgName at hk
  dsimp only at hk
  split at hk
  · obtain ⟨⟨h1, h2⟩, hq⟩ := hk
    exact w _ _ _ hq (R.set (okS_ne h1) h2)
  · exact hk.elim
def SoGs {C : Cn} (xc : XC C) (n : Nat) (t : TGs) (k : KG) : Prop := ∀ (γ : VSt) (vs Θ : List V) (σ : L2.St) (H : Hp) (Q : L2.St → Hp → Prop) (q : VSt → Prop), vs.length = n → Rel C γ (vs ++ Θ) σ H → k γ q → (∀ γ' σ' H', q γ' → Rel C γ' Θ σ' H' → Q σ' H') → t vs σ H Q
def kgNil : KG := fun γ q => q γ
def kgCons (a b : KG) : KG := fun γ q => a γ fun γ1 => b γ1 q
theorem so_gnil : SoGs xc 0 gNil kgNil := fun γ vs Θ σ H Q q el R hk w => by
  match vs, el with
  | [], _ => exact ⟨rfl, w _ _ _ hk R⟩
theorem so_gcons {ts : TGs} {es : KG} (a : SoG xc g1 e1) (b : SoGs xc n ts es) : SoGs xc (n + 1) (gCons g1 ts) (kgCons e1 es) := fun γ vs Θ σ H Q q el R hk w => by
  match vs, el with
  | v :: vs, el => exact ⟨v, vs, rfl, a γ v _ σ H _ _ R hk fun γ1 σ1 H1 hk1 R1 => b γ1 vs Θ σ1 H1 Q q (by simpa using el) R1 hk1 w⟩
/-- (a, b, ..) = a tuple -/
def kgTup (n : Nat) (a : KG) : KG := fun γ q => match γ.tm with
  | s :: tm => (itS s).elim False fun ss => ss.length = n ∧ a ⟨γ.sl, ss ++ tm, γ.n⟩ q
  | _ => False
theorem so_gtup {ts : TGs} {es : KG} (b : SoGs xc n ts es) : SoG xc (gTup K n ts) (kgTup n es) := fun γ v Θ σ H Q q R hk w => by
  obtain ⟨sl, tm, j⟩ := γ
  unfold kgTup at hk
  dsimp only at hk
  split at hk
  · obtain ⟨ss, e, hn, hq⟩ := elimF hk
    obtain ⟨a, vs, rfl, ha, el, R2⟩ := R.unpack e
    exact ⟨a, vs, rfl, SqT.of ha, by omega, b _ vs Θ σ H Q q (by omega) R2 hq w⟩
  · exact hk.elim
def kAsg (ke : KE) (g : KG) : KS := fun γ e => ke γ fun γ1 => g γ1 e.nx
theorem so_asg (a : SoE xc t k) (b : SoG xc g1 e1) : SoS xc (tAsg t g1) (kAsg k e1) := fun γ Θ σ H De e R hk w => a γ Θ σ H _ _ R hk fun γ1 v H1 hk1 R1 => b γ1 v Θ σ H1 _ _ R1 hk1 w.nx
/-- a, b = x, y -/
def kPar (i j : Nat) (ka : KE) : KS := fun γ e => ka γ fun γ1 => match γ1.tm with
  | s2 :: s1 :: tm => (okS s2 = true ∧ okS s1 = true ∧ noAl i tm = true ∧ noAl j tm = true) ∧ e.nx ⟨(γ1.sl.set i s1).set j s2, tm, γ1.n⟩
  | _ => False
theorem so_par {i j : Nat} {ts : TA} (hij : i ≠ j) (a : SoA xc 2 ts ka) : SoS xc (tPar i j ts) (kPar i j ka) := fun γ Θ σ H De e R hk w => a γ Θ σ H _ _ R hk fun γ1 vs H1 el hk1 R1 => by
  obtain ⟨sl, tm, n⟩ := γ1
  dsimp only at hk1
  match vs, el with
  | [v, u], _ =>
    split at hk1
    · rename_i s2 s1 tm
      obtain ⟨⟨q1, q2, q3, q4⟩, hq⟩ := hk1
      have R2 : Rel C ⟨sl, s2 :: s1 :: tm, n⟩ (u :: v :: Θ) σ H1 := R1
      have na : noAl j (s1 :: tm) = true := by
        unfold noAl at q4 ⊢
        rw [List.all_cons, q4, Bool.and_true]
        cases s1 <;> first | rfl | cases q2
      have R3 := (R2.set (okS_ne q1) na).set (i := i) (okS_ne q2) q3
      rw [List.set_comm _ _ (Ne.symm hij), List.set_comm _ _ (Ne.symm hij)] at R3
      exact ⟨v, u, rfl, w.nx _ _ _ hq R3⟩
    · exact hk1.elim
/-- x += e -/
def kAug (i : Nat) (f : Int → Int → Int) (ke : KE) : KS := fun γ e => match γ.sl[i]? with
  | some (.fz (.int a)) => ke γ fun γ1 => popI γ1 fun b γ2 => noAl i γ2.tm = true ∧ e.nx ⟨γ2.sl.set i (.fz (.int (f a b))), γ2.tm, γ2.n⟩
  | _ => False
theorem so_aug {i : Nat} {f : Int → Int → Int} (a : SoE xc t k) : SoS xc (tAug i t (ipI f)) (kAug i f k) := fun γ Θ σ H De e R hk w => by
  unfold kAug at hk
  split at hk
  · rename_i x ex
    obtain ⟨sl, tm, n⟩ := γ
    obtain ⟨v, ev, Rv⟩ := R.varF ex
    obtain ⟨T, r, _⟩ := Rv.read (d := .int x) rfl
    cases r
    refine ⟨_, ev, a _ Θ σ H _ _ R hk fun γ1 v H1 hk1 R1 => ?_⟩
    obtain ⟨b, γ2, rfl, ⟨na, hq⟩, R2⟩ := popI_ok R1 hk1
    obtain ⟨sl2, tm2, n2⟩ := γ2
    have R3 := R2.push (v := .int (f x b)) (d := .int (f x b)) fun Z => .int _
    exact ⟨x, b, rfl, rfl, w.nx _ _ _ hq (R3.set (fun i π z => nomatch z) na)⟩
  · exact hk.elim
def kDrop (ke : KE) : KS := fun γ e => ke γ fun γ1 => match γ1.tm with
  | _ :: tm => e.nx ⟨γ1.sl, tm, γ1.n⟩
  | _ => False
theorem so_drop (a : SoE xc t k) : SoS xc (tDrop t) (kDrop k) := fun γ Θ σ H De e R hk w => a γ Θ σ H _ _ R hk fun γ1 v H1 hk1 R1 => by
  obtain ⟨sl, tm, n⟩ := γ1
  dsimp only at hk1
  split at hk1
  · exact w.nx _ _ _ hk1 R1.pop
  · exact hk1.elim
def kRet (ke : KE) : KS := fun γ e => ke γ fun γ1 => match γ1.tm with
  | s :: tm => e.rt s ⟨γ1.sl, tm, γ1.n⟩
  | _ => False
theorem so_ret (a : SoE xc t k) : SoS xc (tRet t) (kRet k) := fun γ Θ σ H De e R hk w => a γ Θ σ H _ _ R hk fun γ1 v H1 hk1 R1 => by
  obtain ⟨sl, tm, n⟩ := γ1
  dsimp only at hk1
  split at hk1
  · exact w.rt _ _ _ _ _ _ hk1 R1
  · exact hk1.elim
def kRetN : KS := fun γ e => e.rt (.fz .none) γ
theorem so_retN : SoS xc tRetN kRetN := fun γ Θ σ H De e R hk w => by
  obtain ⟨sl, tm, n⟩ := γ
  exact w.rt _ _ _ _ _ _ hk (R.push fun Z => .non)
def kNever : KS := fun _ _ => False
theorem so_never : SoS xc tNever kNever := fun γ Θ σ H De e R hk w => hk.elim
def kNext : KS := fun γ e => e.nx γ
theorem so_next : SoS xc tNext kNext := fun γ Θ σ H De e R hk w => w.nx _ _ _ hk R
def kBreak : KS := fun γ e => e.bk γ
theorem so_break : SoS xc tBreak kBreak := fun γ Θ σ H De e R hk w => w.bk _ _ _ hk R
def kCont : KS := fun γ e => e.ct γ
theorem so_cont : SoS xc tCont kCont := fun γ Θ σ H De e R hk w => w.ct _ _ _ hk R
def kSeq (a b : KS) : KS := fun γ e => a γ ⟨fun γ' => b γ' e, e.rt, e.bk, e.ct⟩
theorem so_seq (a : SoS xc s1 p1) (b : SoS xc s2 p2) : SoS xc (tSeq s1 s2) (kSeq p1 p2) := fun γ Θ σ H De e R hk w => a γ Θ σ H _ _ R hk ⟨fun γ' σ' H' h R' => b γ' Θ σ' H' De e R' h w, w.rt, w.bk, w.ct⟩
/-- with a word between them -/
def kCut (a b : KS) : KS := fun γ e => ∃ Mid : VSt → Prop, a γ ⟨Mid, e.rt, e.bk, e.ct⟩ ∧ ∀ γ', Mid γ' → b γ' e
theorem so_cut (a : SoS xc s1 p1) (b : SoS xc s2 p2) : SoS xc (C8.tCut s1 s2) (kCut p1 p2) := fun γ Θ σ H De e R hk w => by
  obtain ⟨Mid, h1, h2⟩ := hk
  exact ⟨fun σ' H' => ∃ γ', Mid γ' ∧ Rel C γ' Θ σ' H', a γ Θ σ H _ _ R h1 ⟨fun γ' σ' H' h R' => ⟨γ', h, R'⟩, w.rt, w.bk, w.ct⟩, fun σ' H' ⟨γ', h, R'⟩ => b γ' Θ σ' H' De e R' (h2 γ' h) w⟩
def kIfS (c : KT) (a b : KS) : KS := fun γ e => c γ fun x γ1 => if x = true then a γ1 e else b γ1 e
theorem so_ifS (c : SoT xc c1 h1) (a : SoS xc s1 p1) (b : SoS xc s2 p2) : SoS xc (tIfS c1 s1 s2) (kIfS h1 p1 p2) := fun γ Θ σ H De e R hk w => c γ Θ σ H _ _ R hk fun x γ1 H1 hk1 R1 => by
  cases x with
  | true => exact a γ1 Θ σ H1 De e R1 (by simpa using hk1) w
  | false => exact b γ1 Θ σ H1 De e R1 (by simpa using hk1) w
/-- for: the items one by one -/
def forL (g : KG) (kb : KS) (tm : List Sl) : List D → VSt → KEd → Prop
  | [], γ, e => e.nx γ
  | d :: ds, γ, e => g ⟨γ.sl, .fz d :: γ.tm, γ.n⟩ fun γ1 => kb γ1 ⟨fun γ2 => γ2.tm = tm ∧ forL g kb tm ds γ2 e, e.rt, fun γ2 => γ2.tm = tm ∧ e.nx γ2, fun γ2 => γ2.tm = tm ∧ forL g kb tm ds γ2 e⟩
def kFor (ki : KI) (g : KG) (kb : KS) : KS := fun γ e => ki γ fun ds γ1 => forL g kb γ1.tm ds γ1 ⟨fun γ2 => e.nx ⟨γ2.sl, γ.tm, γ2.n⟩, e.rt, fun _ => False, fun _ => False⟩
theorem so_for {wi : TI} {ki : KI} (hi : SoI xc wi ki) (hg : SoG xc g1 e1) (hb : SoS xc s1 p1) : SoS xc (tFor wi g1 s1) (kFor ki e1 p1) := fun γ Θ σ H De e R hk w => hi γ Θ σ H _ _ R hk fun J ds γ1 Ψ H1 hq hp hJ R1 => by
  refine ⟨fun i m σ' H' => m = ds.length - i ∧ i ≤ ds.length ∧ ∃ γ', γ'.tm = γ1.tm ∧ forL e1 p1 γ1.tm (ds.drop i) γ' ⟨fun γ2 => e.nx ⟨γ2.sl, γ.tm, γ2.n⟩, e.rt, fun _ => False, fun _ => False⟩ ∧ Rel C γ' Ψ σ' H', ⟨ds.length, rfl, Nat.zero_le _, γ1, rfl, by simpa using hq, R1⟩, ?_⟩
  rintro i m σ' H' ⟨rfl, hi, γ', et, hf, R'⟩
  obtain ⟨sl', tm', n'⟩ := γ'
  dsimp only at et
  subst et
  obtain ⟨j1, j2⟩ := hJ [] [] i sl' n' σ' H' rfl R'
  by_cases hlt : i < ds.length
  · right
    have e2 : ds.drop i = ds[i] :: ds.drop (i + 1) := List.drop_eq_getElem_cons hlt
    rw [e2] at hf
    obtain ⟨g, y⟩ := j1 ds[i] (List.getElem?_eq_getElem hlt)
    refine ⟨g, fun σ2 H2 => ∃ γ2, γ2.tm = γ1.tm ∧ forL e1 p1 γ1.tm (ds.drop (i + 1)) γ2 ⟨fun γ2 => e.nx ⟨γ2.sl, γ.tm, γ2.n⟩, e.rt, fun _ => False, fun _ => False⟩ ∧ Rel C γ2 Ψ σ2 H2, fun σ2 H2 ⟨γ2, a, b, c⟩ => ⟨ds.length - (i + 1), by omega, rfl, hlt, γ2, a, b, c⟩, fun x H3 hy => ?_⟩
    refine hg _ x Ψ σ' H3 _ _ (y x H3 hy) hf fun γ3 σ3 H4 hb3 R3 => ?_
    refine hb γ3 Ψ σ3 H4 _ _ R3 hb3 ⟨fun γ' σ' H' h R' => ⟨γ', h.1, h.2, R'⟩, w.rt, fun γ' σ' H' h R' => ?_, fun γ' σ' H' h R' => ⟨γ', h.1, h.2, R'⟩⟩
    obtain ⟨sl, tm, n⟩ := γ'
    obtain ⟨et, hx⟩ := h
    dsimp only at et hx
    subst et
    exact w.nx _ _ _ hx (hp [] [] _ _ _ _ rfl (fun _ m => nomatch m) R')
  · left
    have e0 : i = ds.length := by omega
    refine ⟨j2 (by omega), ?_⟩
    rw [e0, List.drop_length] at hf
    exact w.nx _ _ _ hf (hp [] [] _ _ _ _ rfl (fun _ m => nomatch m) R')
def kWhile (c : KT) (kb : KS) : KS := fun γ e => ∃ W : Nat → VSt → Prop, (∃ m, W m γ) ∧ ∀ m γ, W m γ → c γ fun b γ1 => if b = true then kb γ1 ⟨fun γ2 => ∃ m', m' < m ∧ W m' γ2, e.rt, e.nx, fun γ2 => ∃ m', m' < m ∧ W m' γ2⟩ else e.nx γ1
theorem so_while (c : SoT xc c1 h1) (hb : SoS xc s1 p1) : SoS xc (tWhile c1 s1) (kWhile h1 p1) := fun γ Θ σ H De e R hk w => by
  obtain ⟨W, ⟨m, w0⟩, step⟩ := hk
  refine ⟨fun m σ' H' => ∃ γ', W m γ' ∧ Rel C γ' Θ σ' H', ⟨m, γ, w0, R⟩, fun m σ' H' ⟨γ', hw, R'⟩ => c γ' Θ σ' H' _ _ R' (step m γ' hw) fun b γ1 H1 hk1 R1 => ?_⟩
  cases b with
  | true =>
    rw [if_pos rfl] at hk1 ⊢
    refine ⟨fun σ2 H2 => ∃ m', m' < m ∧ ∃ γ2, W m' γ2 ∧ Rel C γ2 Θ σ2 H2, fun σ2 H2 ⟨m', lt, γ2, a, b⟩ => ⟨m', lt, γ2, a, b⟩, ?_⟩
    exact hb γ1 Θ σ' H1 _ _ R1 hk1 ⟨fun γ2 σ2 H2 ⟨m', lt, a⟩ R2 => ⟨m', lt, γ2, a, R2⟩, w.rt, w.nx, fun γ2 σ2 H2 ⟨m', lt, a⟩ R2 => ⟨m', lt, γ2, a, R2⟩⟩
  | false =>
    rw [if_neg (by simp)] at hk1 ⊢
    exact w.nx _ _ _ hk1 R1
end
end
end G
/-! GN: comprehensions, enumerate, zip; a def by its body's values. -/
namespace G
open PySem PySem.Spec PyProof.Rows L2
variable {C : Cn} {xc : XC C}
section
variable {t t1 t2 ta tb tc : TE} {k k1 k2 ka kb kc ko : KE} {n m : Nat} {c1 c2 : TT} {h1 h2 : KT} {K : PySem.W.Frag}
/-- the list that is made, one item more -/
theorem Rel.grow {C : Cn} {sl tm : List Sl} {s : Sl} {b cb : Bool} {es : List D} {cd : D} {j : Int} {u v : V} {Θ : List V} {σ : L2.St} {H : Hp} (R : Rel C ⟨sl, s :: .ow b (.list es) :: tm, j⟩ (u :: v :: Θ) σ H) (ec : con s = some (cb, cd)) :
    ∃ a vs, v = .ref a ∧ H a = some (.lst vs) ∧ vs.length = es.length ∧ Rel C ⟨sl, .ow (b && cb) (.list (es ++ [cd])) :: tm, j⟩ (v :: Θ) σ (upd H a (.lst (vs ++ [u]))) := by
  obtain ⟨Z, S1, S2, X⟩ := R
  obtain ⟨A, B, en, X1, f⟩ := RelX.popF (ss := [s, .ow b (.list es)]) (us := [u, v]) X rfl
  -- the two of them
  obtain ⟨A1, A2, e1, e2, rfl⟩ : ∃ A1 A2, Ent C Z H A1 (some u) s ∧ Ent C Z H A2 (some v) (.ow b (.list es)) ∧ A = A1 ++ A2 := by
    cases en with
    | cons e1 e2 =>
      cases e2 with
      | cons e2 e3 =>
        cases e3
        exact ⟨_, _, e1, e2, by simp⟩
  have ti := e1.con ec
  have key : ∃ a vs T, v = .ref a ∧ H a = some (.lst vs) ∧ A2 = a :: T ∧ Trs H (rgn b Z) T vs es := by
    cases e2 with
    | ow t =>
      cases t with
      | lst q ts => exact ⟨_, _, _, rfl, q, rfl, ts⟩
      | lstZ z _ _ => exact z.elim
    | sp q ts => exact ⟨_, _, _, rfl, q, rfl, ts⟩
  obtain ⟨a, vs, T, rfl, ha, rfl, ts⟩ := key
  have cnt : ∀ x, List.count x A1 + (List.count x [a] + List.count x T) + (List.count x S1 + List.count x B) ≤ 1 := fun x => by
    have := nodup_cnt.mp f.nd x
    rw [List.count_append, List.count_append, List.count_append, ← List.singleton_append, List.count_append] at this
    omega
  have cpos : ∀ {x : Addr} {l : List Addr}, x ∈ l → 0 < List.count x l := fun h => List.count_pos_iff.mpr h
  have ca : List.count a [a] = 1 := by simp
  have out : ∀ {x : Addr} {l : List Addr}, x ∈ l → (∀ y, List.count y l ≤ List.count y A1 + List.count y T + List.count y S1 + List.count y B) → x ≠ a := fun {x l} m h z => by
    subst z
    have := cpos m
    have := h x
    have := cnt x
    omega
  have aZ : ¬ C.tz Z a := (f.ok a (by simp)).1
  have nA : ∀ x ∈ A1, x ≠ a := fun x m => out m fun y => by omega
  have nT : ∀ x ∈ T, x ≠ a := fun x m => out m fun y => by omega
  have nS : ∀ x ∈ S1, x ≠ a := fun x m => out m fun y => by omega
  have nB : ∀ x ∈ B, x ≠ a := fun x m => out m fun y => by omega
  have el := ts.length
  refine ⟨a, vs, rfl, ha, el, ?_⟩
  have kt : ∀ t xs, H t = some (.tup xs) → upd H a (.lst (vs ++ [u])) t = some (.tup xs) := fun t xs et => by
    rw [upd_ne (show t ≠ a from fun z => by rw [z, ha] at et; cases et)]
    exact et
  have kne : ∀ x, x ≠ a → ∀ o, H x = some o → upd H a (.lst (vs ++ [u])) x = some o := fun x q o eo => by
    rw [upd_ne q]
    exact eo
  have kz0 : ∀ x, C.tz Z x → ∀ o, H x = some o → upd H a (.lst (vs ++ [u])) x = some o := fun x z o eo => kne x (fun q => aZ (q ▸ z)) o eo
  have kz : ∀ x, Z x → ∀ o, H x = some o → upd H a (.lst (vs ++ [u])) x = some o := fun x z => kz0 x (.inl z)
  have X2 : RelX C Z S1 B ⟨sl, tm, j⟩ Θ σ (upd H a (.lst (vs ++ [u]))) := by
    refine ⟨fun x o e m => ⟨(X1.fr x o e m).1, kz0 x (X1.fr x o e m).1 o (X1.fr x o e m).2⟩, X1.es.mono kt (fun _ z => z) kz fun x m => kne x (nS x m), X1.et.mono kt (fun _ z => z) kz fun x m => kne x (nB x m), X1.nd, X1.nz, fun q b e => ⟨(X1.pu q b e).1.mono fun o eo => kne q ?_ o eo, (X1.pu q b e).2⟩, fun x z => ?_, X1.dj, fun k i π w e ev => ?_⟩
    · exact fun z => (f.ok a (by simp)).2.1 q b e z.symm
    · obtain ⟨o, e⟩ := X1.ex x z
      exact ⟨o, kz0 x z o e⟩
    · obtain ⟨s, d', e', w', g1, g2, g3, g4, wk⟩ := X1.al k i π w e ev
      obtain ⟨w2, T', ew, t, sub⟩ := X1.slot g1 g2
      rw [g4] at ew
      cases ew
      exact ⟨s, d', e', w', g1, g2, g3, g4, (Tr.part t g3 wk).2 _ kt fun x z => z.elim (kz x) fun m => kne x (nS x (sub x m))⟩
  have t1 : Trs (upd H a (.lst (vs ++ [u]))) (rgn (b && cb) Z) (T ++ (A1 ++ [])) (vs ++ [u]) (es ++ [cd]) := by
    refine ((ts.upd ha (fun z => aZ (.inl z)) nT).weak (rgn_mono fun z => ?_)).append (.cons ((ti.upd ha (fun z => aZ (.inl z)) nA).weak (rgn_mono fun z => ?_)) .nil)
    · rw [Bool.and_eq_true] at z; exact z.1
    · rw [Bool.and_eq_true] at z; exact z.2
  have f2 : Fl C Z S1 B (upd H a (.lst (vs ++ [u]))) (a :: (T ++ (A1 ++ []))) := by
    refine ⟨nodup_cnt.mpr fun x => ?_, fun x m => ?_⟩
    · have := cnt x
      rw [List.append_nil, List.cons_append, ← List.singleton_append, List.count_append, List.count_append, List.count_append, List.count_append]
      omega
    · have mA : x ∈ A1 ++ a :: T := by
        rcases List.mem_cons.mp m with rfl | m
        · simp
        · rcases List.mem_append.mp m with m | m
          · exact List.mem_append_right _ (List.mem_cons_of_mem _ m)
          · exact List.mem_append_left _ (by simpa using m)
      obtain ⟨q1, q2, xs, eo⟩ := f.ok x mA
      refine ⟨q1, q2, ?_⟩
      by_cases hx : x = a
      · exact ⟨_, by rw [hx]; exact upd_same⟩
      · exact ⟨xs, kne x hx _ eo⟩
  have en' : Ent C Z (upd H a (.lst (vs ++ [u]))) (a :: (T ++ (A1 ++ []))) (some (.ref a)) (.ow (b && cb) (.list (es ++ [cd]))) := by
    cases hb : (b && cb) with
    | true =>
      rw [hb] at t1
      exact .ow (.lst upd_same t1)
    | false =>
      rw [hb] at t1
      exact .sp upd_same t1
  exact ⟨_, _, _, X2.pushF f2 (Dr := []) (by simp) en' (fun i π z => nomatch z)⟩
/-- [e for x in xs if t] -/
def lcL (j : Nat) (kt : KT) (ke : KE) : List D → VSt → (VSt → Prop) → Prop
  | [], γ, q => q γ
  | d :: ds, γ, q => noAl j γ.tm = true ∧ kt ⟨γ.sl.set j (.fz d), γ.tm, γ.n⟩ fun b γ1 => γ1.tm = γ.tm ∧ if b = true then ke γ1 fun γ2 => match γ2.tm with
      | s :: .ow b0 (.list es) :: tm => (con s).elim False fun c => (noAl j tm = true ∧ tm = γ.tm.tail ∧ es.length < 10000000) ∧ lcL j kt ke ds ⟨γ2.sl.set j .jk, .ow (b0 && c.1) (.list (es ++ [c.2])) :: tm, γ2.n⟩ q
      | _ => False
    else lcL j kt ke ds ⟨γ1.sl.set j .jk, γ1.tm, γ1.n⟩ q
def kLc (ki : KI) (j : Nat) (kt : KT) (ke : KE) : KE := fun γ q => ki γ fun ds γ1 => noAl j γ1.tm = true ∧ lcL j kt ke ds ⟨γ1.sl.set j .jk, .ow true (.list []) :: γ1.tm, γ1.n⟩ fun γ2 => match γ2.tm with
  | s :: tm => (okS s = true ∧ tm = γ1.tm) ∧ q ⟨γ2.sl, s :: γ.tm, γ2.n⟩
  | _ => False
/-- what stands at a name that is forgotten does not matter -/
theorem Rel.jkσ {C : Cn} {γ : VSt} {Θ : List V} {σ σ' : L2.St} {H : Hp} {j : Nat} (R : Rel C γ Θ σ H) (e : γ.sl[j]? = some .jk ∨ γ.sl[j]? = none) (na : noAl j γ.tm = true) (hs : σ = σ'.set j none) : Rel C γ Θ σ' H := by
  obtain ⟨sl, tm, n⟩ := γ
  dsimp only at e na
  rcases e with e | e
  · have R2 := R.jk (i := j) na ((σ'[j]?).getD none)
    have e1 : sl.set j .jk = sl := by
      refine List.ext_getElem? fun i => ?_
      by_cases hi : j = i
      · subst hi
        rw [List.getElem?_set_self (List.getElem?_eq_some_iff.mp e).1, e]
      · rw [List.getElem?_set_ne hi]
    have e2 : σ.set j ((σ'[j]?).getD none) = σ' := by
      subst hs
      rw [List.set_set]
      refine List.ext_getElem? fun i => ?_
      by_cases hi : j = i
      · subst hi
        rcases Nat.lt_or_ge j σ'.length with z | z
        · rw [List.getElem?_set_self z, List.getElem?_eq_getElem z]
          rfl
        · rw [List.getElem?_eq_none (by rw [List.length_set]; exact z), List.getElem?_eq_none z]
      · rw [List.getElem?_set_ne hi]
    rw [e1, e2] at R2
    exact R2
  · have e2 : σ = σ' := by
      rw [hs]
      refine List.set_eq_of_length_le ?_
      have l1 : sl.length ≤ j := List.getElem?_eq_none_iff.mp e
      obtain ⟨Z, S1, S2, X⟩ := R
      have l2 := X.es.length
      change σ.length = sl.length at l2
      rw [hs, List.length_set] at l2
      omega
    rw [← e2]
    exact R
theorem set_jk (sl : List Sl) (j : Nat) : (sl.set j .jk)[j]? = some .jk ∨ (sl.set j .jk)[j]? = none := by
  rcases Nat.lt_or_ge j sl.length with z | z
  · exact .inl (List.getElem?_set_self z)
  · exact .inr (List.getElem?_eq_none (by rw [List.length_set]; exact z))
theorem noAl_cons {j : Nat} {s : Sl} {tm : List Sl} (h : noAl j tm = true) (hs : okS s = true) : noAl j (s :: tm) = true := by
  unfold noAl at h ⊢
  rw [List.all_cons, h, Bool.and_true]
  cases s <;> first | rfl | cases hs
theorem so_lc {wi : TI} {ki : KI} {j : Nat} {tt : TT} {kt : KT} {te : TE} {ke : KE} (hi : SoI xc wi ki) (ht : SoT xc tt kt) (he : SoE xc te ke) : SoE xc (tLc wi (gName j) tt te [j]) (kLc ki j kt ke) := fun γ Θ σ H Q q R hk w => hi γ Θ σ H _ _ R hk fun J ds γ1 Ψ H1 hq hp hJ R1 => by
  obtain ⟨na, hq⟩ := hq
  obtain ⟨sl1, tm1, n1⟩ := γ1
  dsimp only at hq na hJ
  intro D hD
  have R2 := (R1.jk (i := j) na none).ints hD []
  refine ⟨fun i m H' => m = ds.length - i ∧ i ≤ ds.length ∧ ∃ sl b es n, lcL j kt ke (ds.drop i) ⟨sl, .ow b (.list es) :: tm1, n⟩ (fun γ2 => match γ2.tm with | s :: tm => (okS s = true ∧ tm = tm1) ∧ q ⟨γ2.sl, s :: γ.tm, γ2.n⟩ | _ => False) ∧ (sl[j]? = some .jk ∨ sl[j]? = none) ∧ Rel C ⟨sl, .ow b (.list es) :: tm1, n⟩ (.ref D :: Ψ) (σ.set j none) H', ⟨ds.length, rfl, Nat.zero_le _, _, true, [], n1, by simpa using hq, set_jk _ _, R2⟩, ?_⟩
  rintro i m H' ⟨rfl, hi, sl, b, es, n, hf, hjk, R'⟩
  obtain ⟨j1, j2⟩ := hJ [.ow b (.list es)] [.ref D] i sl n _ H' rfl R'
  by_cases hlt : i < ds.length
  · right
    have e2 : ds.drop i = ds[i] :: ds.drop (i + 1) := List.drop_eq_getElem_cons hlt
    rw [e2] at hf
    obtain ⟨na1, hf⟩ := hf
    obtain ⟨g, y⟩ := j1 ds[i] (List.getElem?_eq_getElem hlt)
    have na2 : noAl j (.ow b (.list es) :: tm1) = true := na1
    refine ⟨g, fun H2 => ∃ sl b es n, lcL j kt ke (ds.drop (i + 1)) ⟨sl, .ow b (.list es) :: tm1, n⟩ (fun γ2 => match γ2.tm with | s :: tm => (okS s = true ∧ tm = tm1) ∧ q ⟨γ2.sl, s :: γ.tm, γ2.n⟩ | _ => False) ∧ (sl[j]? = some .jk ∨ sl[j]? = none) ∧ Rel C ⟨sl, .ow b (.list es) :: tm1, n⟩ (.ref D :: Ψ) (σ.set j none) H2, fun H2 h2 => ⟨ds.length - (i + 1), by omega, rfl, hlt, h2⟩, fun x H3 hy => ?_⟩
    refine ⟨by show ((σ.set j none).set j _).set j none = σ.set j none; rw [List.set_set, List.set_set], ?_⟩
    have R3 : Rel C ⟨sl.set j (.fz ds[i]), .ow b (.list es) :: tm1, n⟩ (.ref D :: Ψ) ((σ.set j none).set j (some x)) H3 := (y x H3 hy).set (fun i π z => nomatch z) na2
    refine ht _ _ _ H3 _ _ R3 hf fun c γ2 H4 hk4 R4 => ?_
    obtain ⟨et, hk4⟩ := hk4
    obtain ⟨sl2, tm2, n2⟩ := γ2
    dsimp only at et
    subst et
    have back : ∀ {sl : List Sl} {tm : List Sl} {n : Int} {Θ : List V} {H : Hp}, noAl j tm = true → Rel C ⟨sl, tm, n⟩ Θ ((σ.set j none).set j (some x)) H → Rel C ⟨sl.set j .jk, tm, n⟩ Θ (σ.set j none) H := fun hna R => by
      have := R.jk (i := j) hna none
      rw [List.set_set, List.set_set] at this
      exact this
    cases c with
    | false =>
      rw [if_neg (by simp)] at hk4 ⊢
      exact ⟨_, _, _, _, hk4, set_jk _ _, back na2 R4⟩
    | true =>
      rw [if_pos rfl] at hk4 ⊢
      refine he _ _ _ H4 _ _ R4 hk4 fun γ5 y5 H5 hk5 R5 => ?_
      obtain ⟨sl5, tm5, n5⟩ := γ5
      dsimp only at hk5
      split at hk5
      · rename_i s b0 es0 tm
        obtain ⟨⟨cb, cd⟩, ec, ⟨na5, et5, hl⟩, hk6⟩ := elimF hk5
        simp only [List.tail_cons] at et5
        subst et5
        obtain ⟨a, vs, ea, ha, el, R6⟩ := R5.grow ec
        cases ea
        exact ⟨vs, ha, szlt (by omega), _, _, _, _, hk6, set_jk _ _, back (noAl_cons na5 rfl) R6⟩
      · exact hk5.elim
  · left
    have e0 : i = ds.length := by omega
    refine ⟨j2 (by omega), ?_⟩
    rw [e0, List.drop_length] at hf
    obtain ⟨⟨h1, _⟩, hq⟩ := hf
    have R3 := R'.jkσ hjk (noAl_cons na rfl) rfl
    have R4 := hp [.ow b (.list es)] [.ref D] _ _ _ _ rfl (fun s m i π => by
      simp only [List.mem_singleton] at m
      subst m
      exact fun z => nomatch z) R3
    exact w _ _ _ hq R4
/-! ### enumerate, zip -/
def enumD : Nat → List D → List D
  | _, [] => []
  | k, d :: ds => .tuple [.int k, d] :: enumD (k + 1) ds
theorem enumD_at : ∀ (ds : List D) (k i : Nat), (enumD k ds)[i]? = (ds[i]?).map fun d => .tuple [.int ((k + i : Nat) : Int), d]
  | [], k, i => by simp [enumD]
  | d :: ds, k, 0 => by simp [enumD]
  | d :: ds, k, i + 1 => by
    simp only [enumD, List.getElem?_cons_succ, enumD_at ds (k + 1) i]
    congr 1
    funext d
    have : k + 1 + i = k + (i + 1) := by omega
    rw [this]
theorem enumD_len (ds : List D) (k : Nat) : (enumD k ds).length = ds.length := by
  induction ds generalizing k with
  | nil => rfl
  | cons d ds ih => simp [enumD, ih]
theorem Rel.pair {C : Cn} {sl tm : List Sl} {d e : D} {j : Int} {v u : V} {Θ : List V} {σ : L2.St} {H : Hp} {p : Addr} (R : Rel C ⟨sl, .fz e :: .fz d :: tm, j⟩ (u :: v :: Θ) σ H) (hp : H p = none) : Rel C ⟨sl, .fz (.tuple [d, e]) :: tm, j⟩ (.ref p :: Θ) σ (upd H p (.tup [v, u])) := by
  have := Rel.cont (ss := [.fz d, .fz e]) (vs := [v, u]) (tm := tm) (l := false) (p := p) (b := nolist d && (nolist e && true)) (ds := [d, e]) (by simpa using R) rfl rfl hp
  have e0 : mkS false (nolist d && (nolist e && true)) [d, e] = .fz (.tuple [d, e]) := by
    unfold mkS own dq
    cases h : (nolist d && (nolist e && true)) with
    | true =>
      have h2 : nolist d = true ∧ nolist e = true := by simpa using h
      simp [nolist, nolists, h2.1, h2.2]
    | false => simp
  rw [e0] at this
  exact this
def kEnum (ke : KE) : KI := fun γ q => ke γ fun γ1 => match γ1.tm with
  | s :: tm => (frzSeq true s).elim False fun ds => q (enumD 0 ds) ⟨γ1.sl, .fz (.list ds) :: tm, γ1.n⟩ ∧ tm = γ.tm
  | _ => False
theorem so_enum (h : SoE xc t k) : SoI xc (iEnum K (tCons t tNil)) (kEnum k) := fun γ Θ σ H Rr q R hk w => h γ Θ σ H _ _ R hk fun γ1 v H1 hk1 R1 => by
  obtain ⟨sl, tm, j⟩ := γ1
  dsimp only at hk1
  split at hk1
  · rename_i s tm
    obtain ⟨ds, e, hq, et⟩ := elimF hk1
    subst et
    obtain ⟨a, vs, rfl, ha, R2⟩ := it_core R1 e
    refine ⟨a, vs, rfl, SqL.of ha, w _ (enumD 0 ds) _ _ H1 hq popD_one (fun E Φ i sl n σ H ee R => ?_) R2⟩
    have R1 := R.dupAt (kk := E.length) (d := .list ds) (v := .ref a) (by show (E ++ _)[E.length]? = _; rw [List.getElem?_append_right (Nat.le_refl _)]; simp [dq]) (by rw [← ee, List.getElem?_append_right (Nat.le_refl _)]; simp)
    obtain ⟨a', us, ea, ha2, el, kk⟩ := R1.item (l := true) (ds := ds) rfl
    cases ea
    have ha2' : H a = some (.lst us) := ha2
    refine ⟨fun d ed => ?_, fun hi => ⟨us, SqL.of ha2', by rw [enumD_len] at hi; omega⟩⟩
    rw [enumD_at, Nat.zero_add] at ed
    cases q : ds[i]? with
    | none => rw [q] at ed; cases ed
    | some x =>
      rw [q] at ed
      cases ed
      have hlt : i < us.length := by
        have := (List.getElem?_eq_some_iff.mp q).1
        omega
      have eu : us[i]? = some us[i] := List.getElem?_eq_getElem hlt
      refine ⟨⟨us, _, SqL.of ha2', eu⟩, fun y H3 hy => ?_⟩
      obtain ⟨T, z, rfl, hT, rfl, hz⟩ := hy
      have ez := hz us (SqL.of ha2')
      have R3 := R.push (v := .int (i : Nat)) (d := .int (i : Nat)) fun Z => .int _
      have R4 := R3.dupAt (kk := E.length + 1) (d := .list ds) (v := .ref a) (by show (Sl.fz _ :: (E ++ _))[E.length + 1]? = _; rw [List.getElem?_cons_succ, List.getElem?_append_right (Nat.le_refl _)]; simp [dq]) (by rw [List.getElem?_cons_succ, ← ee, List.getElem?_append_right (Nat.le_refl _)]; simp)
      obtain ⟨a3, us3, ea3, ha3, el3, kk3⟩ := R4.item (l := true) (ds := ds) rfl
      cases ea3
      have e3 : us3 = us := by
        have : H a = some (.lst us3) := ha3
        rw [ha2'] at this
        cases this
        rfl
      subst e3
      exact (kk3 i x z q ez).pair hT
  · exact hk1.elim
def zipD : List D → List D → List D
  | d :: ds, e :: es => .tuple [d, e] :: zipD ds es
  | _, _ => []
theorem zipD_at : ∀ (ds es : List D) (i : Nat) (x : D), (zipD ds es)[i]? = some x → ∃ d e, ds[i]? = some d ∧ es[i]? = some e ∧ x = .tuple [d, e]
  | d :: ds, e :: es, 0, x, h => by simp [zipD] at h; exact ⟨d, e, rfl, rfl, h.symm⟩
  | d :: ds, e :: es, i + 1, x, h => by simpa [zipD] using zipD_at ds es i x (by simpa [zipD] using h)
  | [], _, i, x, h => by simp [zipD] at h
  | _ :: _, [], i, x, h => by simp [zipD] at h
theorem zipD_len : ∀ (ds es : List D), (zipD ds es).length = min ds.length es.length
  | d :: ds, e :: es => by simp [zipD, zipD_len ds es]
  | [], _ => by simp [zipD]
  | _ :: _, [] => by simp [zipD]
def kZip (ka kb : KE) : KI := fun γ q => ka γ fun γ1 => kb γ1 fun γ2 => match γ2.tm with
  | s2 :: .fz (.list ds) :: tm => (frzSeq true s2).elim False fun es => q (zipD ds es) ⟨γ2.sl, .fz (.list es) :: .fz (.list ds) :: tm, γ2.n⟩ ∧ tm = γ.tm
  | _ => False
theorem so_zip (h : SoE xc ta ka) (h' : SoE xc tb kb) : SoI xc (iZip K (tCons ta (tCons tb tNil))) (kZip ka kb) := fun γ Θ σ H Rr q R hk w => h γ Θ σ H _ _ R hk fun γ1 v H1 hk1 R1 => h' γ1 _ σ H1 _ _ R1 hk1 fun γ2 u H2 hk2 R2 => by
  obtain ⟨sl, tm, j⟩ := γ2
  dsimp only at hk2
  split at hk2
  · rename_i s2 ds tm
    obtain ⟨es, e, hq, et⟩ := elimF hk2
    subst et
    obtain ⟨b, zs, rfl, hb, R3⟩ := it_core R2 e
    obtain ⟨a, xs, rfl, ha, _, _⟩ := R3.pop.item (l := true) (ds := ds) rfl
    refine ⟨a, b, xs, zs, rfl, SqL.of ha, SqL.of hb, w _ (zipD ds es) _ _ H2 hq (fun E Φ sl n σ H el na R => popD_one E Φ sl n σ H el na (popD_one E Φ sl n σ H el na R)) (fun E Φ i sl n σ H ee R => ?_) R3⟩
    have R1 := R.dupAt (kk := E.length) (d := .list es) (v := .ref b) (by show (E ++ _)[E.length]? = _; rw [List.getElem?_append_right (Nat.le_refl _)]; simp [dq]) (by rw [← ee, List.getElem?_append_right (Nat.le_refl _)]; simp)
    obtain ⟨b', us, eb, hb2, elb, kb⟩ := R1.item (l := true) (ds := es) rfl
    cases eb
    have R1' := R.dupAt (kk := E.length + 1) (d := .list ds) (v := .ref a) (by show (E ++ _)[E.length + 1]? = _; rw [List.getElem?_append_right (by omega)]; simp) (by rw [← ee, List.getElem?_append_right (by omega)]; simp)
    obtain ⟨a', ws, ea, ha2, ela, ka⟩ := R1'.item (l := true) (ds := ds) rfl
    cases ea
    have hb3 : H b = some (.lst us) := hb2
    have ha3 : H a = some (.lst ws) := ha2
    refine ⟨fun x ex => ?_, fun hi => ⟨ws, us, SqL.of ha3, SqL.of hb3, by rw [zipD_len] at hi; omega⟩⟩
    obtain ⟨d0, e0, q1, q2, rfl⟩ := zipD_at _ _ _ _ ex
    have l1 : i < ws.length := by
      have := (List.getElem?_eq_some_iff.mp q1).1
      omega
    have l2 : i < us.length := by
      have := (List.getElem?_eq_some_iff.mp q2).1
      omega
    refine ⟨⟨ws, us, _, _, SqL.of ha3, SqL.of hb3, List.getElem?_eq_getElem l1, List.getElem?_eq_getElem l2⟩, fun y H3 hy => ?_⟩
    obtain ⟨T, x1, x2, rfl, hT, rfl, hx1, hx2⟩ := hy
    have R4 := ka i d0 x1 q1 (hx1 ws (SqL.of ha3))
    have R5 := R4.dupAt (kk := E.length + 1) (d := .list es) (v := .ref b) (by show (Sl.fz _ :: (E ++ _))[E.length + 1]? = _; rw [List.getElem?_cons_succ, List.getElem?_append_right (Nat.le_refl _)]; simp [dq]) (by rw [List.getElem?_cons_succ, ← ee, List.getElem?_append_right (Nat.le_refl _)]; simp)
    obtain ⟨b4, us4, eb4, hb4, elb4, kb4⟩ := R5.item (l := true) (ds := es) rfl
    cases eb4
    have e4 : us4 = us := by
      have : H b = some (.lst us4) := hb4
      rw [hb3] at this
      cases this
      rfl
    subst e4
    exact (kb4 i e0 x2 q2 (hx2 _ (SqL.of hb3))).pair hT
  · exact hk2.elim
/-! ### a def -/
/-- what is returned: new -/
def rtN (G : D → Prop) : Sl → Prop
  | .fz d => nolist d = true ∧ G d
  | .ow true d => G d
  | _ => False
def edT (G : D → Prop) : KEd := ⟨fun _ => G .none, fun s _ => rtN G s, fun _ => False, fun _ => False⟩
def edP (G : D → Prop) : KEd := ⟨fun γ => 0 ≤ γ.n ∧ G .none, fun s γ => 0 ≤ γ.n ∧ rtN G s, fun _ => False, fun _ => False⟩
theorem Rel.start {H : Hp} {S : List Addr} {vs : List V} {ds : List D} {N : List Str} (r : Reps H S vs ds) (pu : Option (Addr × Int)) (ok : ∀ p b, pu = some (p, b) → b ≤ 2 ^ 100) (n : Int) (hpu : ∀ p b, pu = some (p, b) → PuAt H p (b - n) ∧ p ∉ S) (us : List V) (ss : List Sl)
    (hu : (us = [] ∧ ss = []) ∨ ∃ p b, pu = some (p, b) ∧ us = [.ref p] ∧ ss = [.pu]) (hN : (us ++ vs).length ≤ N.length) :
    Rel ⟨H, fun a => ∃ b, pu = some (a, b), pu, ok, none, noReg⟩ ⟨ss ++ ds.map Sl.fz ++ List.replicate (N.length - (us ++ vs).length) .jk, [], n⟩ [] (L2.start N (us ++ vs)) H := by
  have jks : ∀ (k : Nat) {C : Cn} {Z : Reg}, Ents C Z H [] (List.replicate k none) (List.replicate k .jk) := fun k => by
    induction k with
    | zero => exact .nil
    | succ k ih => exact .cons (S := []) (.jk _) ih
  refine ⟨fun a => (∃ o, H a = some o) ∧ ∀ p b, pu = some (p, b) → a ≠ p, [], [], ⟨fun a o e m => ⟨.inl ⟨⟨o, e⟩, fun p b q z => m ⟨b, z ▸ q⟩⟩, e⟩, ?_, .nil, List.nodup_nil, fun a m => (nomatch m), fun p b q => ⟨(hpu p b q).1, fun z => z.elim (fun z => z.2 p b q rfl) id, fun m => (nomatch m)⟩, fun a z => z.elim (fun z => z.1) False.elim, fun _ _ z => z, fun k i π v e => by simp at e⟩⟩
  have tr := Reps.tr (Z := noReg) _ _ _ r
  have fz := Trs.fzs (C := ⟨H, fun a => ∃ b, pu = some (a, b), pu, ok, none, noReg⟩) (Z := fun a => (∃ o, H a = some o) ∧ ∀ p b, pu = some (p, b) → a ≠ p) (Trs.freeze (Z' := fun a => (∃ o, H a = some o) ∧ ∀ p b, pu = some (p, b) → a ≠ p) (fun _ z => z.elim) _ _ _ tr fun a m => ⟨by
    obtain ⟨xs, e⟩ := Reps.dom _ _ _ r a m
    exact ⟨_, e⟩, fun p b q z => (hpu p b q).2 (z ▸ m)⟩) rfl
  show Ents _ _ H [] (L2.start N (us ++ vs)) (ss ++ ds.map Sl.fz ++ List.replicate (N.length - (us ++ vs).length) .jk)
  unfold L2.start
  rw [List.map_append]
  have mid := Ents.append fz (jks (N.length - (us ++ vs).length))
  rcases hu with ⟨rfl, rfl⟩ | ⟨p, b, q, rfl, rfl⟩
  · simpa using mid
  · exact .cons (S := []) (.pu q) mid
theorem Rel.outN {C : Cn} {sl tm : List Sl} {s : Sl} {n : Int} {v : V} {Θ : List V} {σ : L2.St} {H : Hp} {G : D → Prop} (R : Rel C ⟨sl, s :: tm, n⟩ (v :: Θ) σ H) (h : rtN G s) (hM : ∀ a, C.M a → ∃ b, C.pu = some (a, b)) : ∃ d, G d ∧ New C.H0 H v d := by
  obtain ⟨Z, S1, S2, X⟩ := R
  obtain ⟨A, B, en, X1, f⟩ := RelX.popF (ss := [s]) (us := [v]) X rfl
  obtain ⟨A', e1, rfl⟩ : ∃ A', Ent C Z H A' (some v) s ∧ A = A' := by
    cases en with
    | cons e1 e2 =>
      cases e2
      exact ⟨_, e1, by simp⟩
  have new : ∀ a ∈ A, C.H0 a = none := fun a m => by
    cases q : C.H0 a with
    | none => rfl
    | some o =>
      exfalso
      by_cases hm : C.M a
      · obtain ⟨b, eb⟩ := hM a hm
        exact (f.ok a m).2.1 a b eb rfl
      · exact (f.ok a m).1 (X1.fr a o q hm).1
  cases e1 with
  | jk v => cases h
  | al v i π => cases h
  | pu q => cases h
  | io t q => cases h
  | dc _ _ => cases h
  | dt _ _ => cases h
  | sh _ _ => cases h
  | xv _ _ => cases h
  | ho _ _ _ => cases h
  | sp q t => cases h
  | fz t =>
    obtain ⟨hn, hG⟩ := h
    exact ⟨_, hG, [], Tr.repO _ _ _ (Tr.nolist (Z' := noReg) _ _ _ t hn).2, List.nodup_nil, fun a m => nomatch m⟩
  | ow t => exact ⟨_, h, A, Tr.repO _ _ _ t, (List.nodup_append.mp f.nd).1, new⟩
section
variable {P : Program} {w : World} {mg : Str → Option Value} {base : Heap} {kl : Nat} {f : Addr} {fd : FuncData} {ps : List Str}
/-- a def that changes nothing, by the values of its body -/
theorem okT {x qual : Str} {st : Stmt} {N : List Str} {W : Tw} {kb : KS} (F : Fun K x qual st f fd) (S : FnScope N ps (defScope st)) (hN : ps.length ≤ N.length) (har : ∀ ds G, W ds G → ds.length = ps.length)
    (hb : ∀ (cdv : Value) (A : Around) (outer : List Env) (s : Shared) (H : Hp) (E : XK), Bare (A.deeper (envOfC qual (defScope st) s.heap.objs.size f cdv)) → Room kl (A.deeper (envOfC qual (defScope st) s.heap.objs.size f cdv)) → ∃ t, PSs (cxOf CX0 P w K mg base N qual (defScope st) f cdv A outer s H E).nox (defBody st) t ∧ ∀ (C : Cn) (xc : XC C), SoS xc t kb)
    (val : ∀ ds G, W ds G → kb ⟨ds.map Sl.fz ++ List.replicate (N.length - ps.length) .jk, [], 0⟩ (edT G)) : FnG P w K mg base CX0 (kl + 1) f fd ps (spT W) := by
  refine okG F S (fun vs H Q E h => ?_) (fun cdv A outer s H vs Q E hg hr h => ?_)
  · obtain ⟨S, ds, Gq, r, hw, _⟩ := h
    rw [r.length]
    exact har _ _ hw
  · obtain ⟨t, hp, so⟩ := hb cdv A outer s H E hg hr
    obtain ⟨S, ds, Gq, r, hw, hk⟩ := h
    have el := r.length
    have ea := har _ _ hw
    refine ⟨t, hp, so ⟨H, fun a => ∃ b, (none : Option (Addr × Int)) = some (a, b), none, fun _ _ z => (nomatch z), none, noReg⟩ (noXC _) _ [] _ H _ (edT Gq) (by simpa using Rel.start (N := N) r none (fun _ _ z => nomatch z) 0 (fun _ _ z => nomatch z) [] [] (.inl ⟨rfl, rfl⟩) (by simp; omega)) (by rw [el, ea]; exact val ds Gq hw) ⟨fun γ' σ' H' hn R => ?_, fun s γ' v Θ' σ' H' hr R => ?_, fun _ _ _ z _ => z.elim, fun _ _ _ z _ => z.elim⟩⟩
    · obtain ⟨Z, S1, S2, X⟩ := R
      exact hk _ _ _ hn (fun a o e => (X.fr a o e (fun ⟨b, z⟩ => nomatch z)).2) ⟨[], .non, List.nodup_nil, fun a m => nomatch m⟩
    · obtain ⟨d, hG, nw⟩ := R.outN hr (fun a m => m)
      obtain ⟨Z, S1, S2, X⟩ := R
      exact hk _ _ _ hG (fun a o e => (X.fr a o e (fun ⟨b, z⟩ => nomatch z)).2) nw
/-- a def that draws from the purse, its first argument -/
theorem okP {x qual : Str} {st : Stmt} {N : List Str} {W : Tw} {kb : KS} {c : Int} (F : Fun K x qual st f fd) (S : FnScope N ps (defScope st)) (hN : ps.length ≤ N.length) (har : ∀ ds G, W ds G → ds.length + 1 = ps.length) (hc : 0 ≤ c)
    (hb : ∀ (cdv : Value) (A : Around) (outer : List Env) (s : Shared) (H : Hp) (E : XK), Bare (A.deeper (envOfC qual (defScope st) s.heap.objs.size f cdv)) → Room kl (A.deeper (envOfC qual (defScope st) s.heap.objs.size f cdv)) → ∃ t, PSs (cxOf CX0 P w K mg base N qual (defScope st) f cdv A outer s H E).nox (defBody st) t ∧ ∀ (C : Cn) (xc : XC C), SoS xc t kb)
    (val : ∀ ds G, W ds G → kb ⟨.pu :: (ds.map Sl.fz ++ List.replicate (N.length - ps.length) .jk), [], c⟩ (edP G)) : FnG P w K mg base CX0 (kl + 1) f fd ps (spP c W) := by
  refine okG F S (fun vs H Q E h => ?_) (fun cdv A outer s H vs Q E hg hr h => ?_)
  · obtain ⟨p, b, vs', S, ds, Gq, rfl, _, _, r, _, hw, _⟩ := h
    rw [List.length_cons, r.length]
    exact har _ _ hw
  · obtain ⟨t, hp, so⟩ := hb cdv A outer s H E hg hr
    obtain ⟨p, b, vs', S, ds, Gq, rfl, hpu, hb, r, np, hw, hk⟩ := h
    have el := r.length
    have ea := har _ _ hw
    have ok : ∀ q b', (some (p, b + c) : Option (Addr × Int)) = some (q, b') → b' ≤ 2 ^ 100 := fun q b' z => by cases z; omega
    have e0 : b + c - c = b := by omega
    refine ⟨t, hp, so ⟨H, fun a => ∃ b', (some (p, b + c) : Option (Addr × Int)) = some (a, b'), some (p, b + c), ok, none, noReg⟩ (noXC _) _ [] _ H _ (edP Gq) (Rel.start (N := N) r (some (p, b + c)) ok c (fun q b' z => by cases z; exact ⟨e0.symm ▸ hpu, np⟩) [.ref p] [.pu] (.inr ⟨p, b + c, rfl, rfl, rfl⟩) (by simp; omega)) ?_ ⟨fun γ' σ' H' hn R => ?_, fun s γ' v Θ' σ' H' hr R => ?_, fun _ _ _ z _ => z.elim, fun _ _ _ z _ => z.elim⟩⟩
    · have e1 : ([V.ref p] ++ vs').length = ps.length := by simp; omega
      rw [e1]
      exact val ds Gq hw
    · obtain ⟨Z, S1, S2, X⟩ := R
      exact hk _ _ _ hn.2 (fun a o e ne => (X.fr a o e (fun ⟨b, z⟩ => by cases z; exact ne rfl)).2) ((X.pu p _ rfl).1.le (by have := hn.1; omega)) ⟨[], .non, List.nodup_nil, fun a m => nomatch m⟩
    · obtain ⟨d, hG, nw⟩ := R.outN hr.2 (fun a m => m)
      obtain ⟨Z, S1, S2, X⟩ := R
      exact hk _ _ _ hG (fun a o e ne => (X.fr a o e (fun ⟨b, z⟩ => by cases z; exact ne rfl)).2) ((X.pu p _ rfl).1.le (by have := hr.1; dsimp only; omega)) nw
end
/-! ### a def that changes its first argument -/
abbrev TwI := List D → (D → D → Prop) → Prop
def spI (W : TwI) : Sp := fun vs H Q _ => ∃ v0 vs' S T d0 ds G, vs = v0 :: vs' ∧ Rep H S v0 d0 ∧ S.Nodup ∧ Reps H T vs' ds ∧ (∀ a ∈ T, a ∉ S) ∧ W (d0 :: ds) G ∧
  ∀ d e v H', G d e → (∀ a o, H a = some o → a ∉ S → H' a = some o) → (∃ S1 S2, Rep H' S1 v0 e ∧ Rep H' S2 v d ∧ (S1 ++ S2).Nodup ∧ ∀ a ∈ S1 ++ S2, a ∈ S ∨ H a = none) → Q v H'
def ownF (s : Option Sl) : Option (Sl × D) := match s with
  | some (.ow true d) => some (.ow true d, d)
  | some (.io d) => some (.io d, d)
  | _ => none
def kCallI (W : TwI) (n : Nat) (ka : KE) : KE := fun γ q => ka γ fun γ1 => (datN γ1.sl n γ1.tm).elim False fun x => match x.2 with
  | .al i [] :: r => (nolists x.1 = true ∧ noAl i r = true) ∧ (ownF (γ1.sl[i]?)).elim False fun s => W (s.2 :: x.1) fun d e => q ⟨γ1.sl.set i (reS s.1 true e), own d :: r, γ1.n⟩
  | _ => False
theorem so_callI {W : TwI} {ts : TA} (h : SoA xc (n + 1) ts ka) : SoE xc (tCall (spI W) [] E0 ts) (kCallI W n ka) := fun γ Θ σ H Q q R hk w => h γ Θ σ H _ _ R hk fun γ1 vs H1 el hk1 R1 => by
  obtain ⟨⟨ds, rr⟩, e, hf⟩ := elimF hk1
  obtain ⟨sl, tm, j⟩ := γ1
  match vs, el with
  | v :: vs, el =>
    rw [List.reverse_cons, List.append_assoc] at R1
    obtain ⟨R3, T, rp, np⟩ := Rel.pops (Θ := [v] ++ Θ) R1 (by simpa using el) e
    dsimp only at hf
    split at hf
    · rename_i i r
      obtain ⟨⟨hn, na⟩, hs⟩ := hf
      obtain ⟨⟨s0, d0⟩, es, hw⟩ := elimF hs
      dsimp only at hw
      have e0 : sl[i]? = some s0 ∧ (s0 = .ow true d0 ∨ s0 = .io d0) := by
        unfold ownF at es
        split at es
        · rename_i q; cases es; exact ⟨q, .inl rfl⟩
        · rename_i q; cases es; exact ⟨q, .inr rfl⟩
        · cases es
      obtain ⟨e1, hs0⟩ := e0
      have hT : T = [] := Reps.nolist _ _ _ rp hn
      subst hT
      obtain ⟨Z, Sa, Sb0, X0⟩ := R3
      obtain ⟨s1, d1, e1', w1, g1, g2, g3, g4, wk⟩ := X0.al 0 i [] v rfl rfl
      cases wk
      obtain ⟨A, Sb, en, X, f⟩ := RelX.popF (ss := [.al i []]) (us := [v]) X0 rfl
      obtain ⟨v1, T0, Rr, ev, ent, pm, kk⟩ := X.es.at e1
      rw [g4] at ev
      cases ev
      have tr : Tr H1 noReg T0 v d0 := by
        rcases hs0 with rfl | rfl
        · cases ent with
          | ow t => exact t
        · cases ent with
          | io t _ => exact t
      have ndS := pm.nodup_iff.mp (List.nodup_append.mp X.nd).1
      have ndT := (List.nodup_append.mp ndS).1
      have inS : ∀ a ∈ T0, a ∈ Sa := fun a m => pm.mem_iff.mpr (List.mem_append_left _ m)
      rw [List.append_nil]
      refine ⟨v, vs, T0, [], d0, ds, _, rfl, Tr.repO _ _ _ tr, ndT, rp, fun a m => (nomatch m), hw, fun d e2 v' H' hq fr nw => ?_⟩
      obtain ⟨S1, S2, r1, r2, nd12, new⟩ := nw
      have kt : ∀ t xs, H1 t = some (.tup xs) → H' t = some (.tup xs) := fun t xs et => fr t _ et fun m => by
        obtain ⟨ys, q⟩ := Tr.dom _ _ _ tr t m
        rw [et] at q
        cases q
      have kz0 : ∀ a, C.tz Z a → ∀ o, H1 a = some o → H' a = some o := fun a z o eo => fr a o eo fun m => X.nz a (List.mem_append_left _ (inS a m)) z
      have kz : ∀ a, Z a → ∀ o, H1 a = some o → H' a = some o := fun a z => kz0 a (.inl z)
      have disR : ∀ a ∈ Rr, a ∉ T0 := fun a m m' => (List.nodup_append.mp ndS).2.2 a m' a m rfl
      have disB : ∀ a ∈ Sb, a ∉ T0 := fun a m m' => (List.nodup_append.mp X.nd).2.2 a (inS a m') a m rfl
      have ent' : Ent C Z H' S1 (some v) (reS s0 true e2) := by
        rcases hs0 with rfl | rfl
        · exact .ow (Rep.tr _ _ _ r1)
        · cases ent with
          | io _ eio => exact .io (Rep.tr _ _ _ r1) eio
      obtain ⟨S', es', pm'⟩ := kk H' Z S1 (some v) _ kt (fun _ z => z) kz (fun a m o eo => fr a o eo (disR a m)) ent'
      have eσ : σ.set i (some v) = σ := by
        refine List.ext_getElem? fun j => ?_
        by_cases hj : i = j
        · subst hj
          rw [List.getElem?_set_self (List.getElem?_eq_some_iff.mp g4).1, g4]
        · rw [List.getElem?_set_ne hj]
      rw [eσ] at es'
      -- new cells are apart from what stands
      have apart : ∀ a ∈ S1 ++ S2, a ∉ Rr ∧ a ∉ Sb ∧ ¬ C.tz Z a ∧ ∀ p b, C.pu = some (p, b) → a ≠ p := fun a m => by
        rcases new a m with z | z
        · exact ⟨fun q => disR a q z, fun q => disB a q z, X.nz a (List.mem_append_left _ (inS a z)), fun p b q y => (X.pu p b q).2.2 (y ▸ List.mem_append_left _ (inS a z))⟩
        · refine ⟨fun q => ?_, fun q => ?_, fun q => ?_, fun p b q y => ?_⟩
          · obtain ⟨xs, e⟩ := X.es.dom a (pm.mem_iff.mpr (List.mem_append_right _ q))
            rw [z] at e; cases e
          · obtain ⟨xs, e⟩ := X.et.dom a q
            rw [z] at e; cases e
          · obtain ⟨o, e⟩ := X.ex a q
            rw [z] at e; cases e
          · obtain ⟨x1, x2, x3, e, _⟩ := (X.pu p b q).1
            rw [← y, z] at e; cases e
      have memS' : ∀ a ∈ S', a ∈ S1 ∨ a ∈ Rr := fun a m => List.mem_append.mp (pm'.mem_iff.mp m)
      have n12 := List.nodup_append.mp nd12
      have ndRB : ∀ a ∈ Rr, a ∉ Sb := fun a m m' => (List.nodup_append.mp X.nd).2.2 a (pm.mem_iff.mpr (List.mem_append_right _ m)) a m' rfl
      have ndS' : S'.Nodup := pm'.nodup_iff.mpr (List.nodup_append.mpr ⟨n12.1, (List.nodup_append.mp ndS).2.1, fun a m b m' e => (apart a (List.mem_append_left _ m)).1 (e ▸ m')⟩)
      have X2 : RelX C Z S' Sb ⟨sl.set i (reS s0 true e2), r, j⟩ Θ σ H' := by
        refine ⟨fun a o eo m => ⟨(X.fr a o eo m).1, kz0 a (X.fr a o eo m).1 o (X.fr a o eo m).2⟩, es', X.et.mono kt (fun _ z => z) kz fun a m o eo => fr a o eo (disB a m), List.nodup_append.mpr ⟨ndS', (List.nodup_append.mp X.nd).2.1, fun a m b m' eab => ?_⟩, fun a m => ?_, fun p b q => ⟨(X.pu p b q).1.mono fun o eo => fr p o eo fun m => (X.pu p b q).2.2 (List.mem_append_left _ (inS p m)), (X.pu p b q).2.1, fun m => ?_⟩, fun a z => ?_, X.dj, fun k i' π u e' ev' => ?_⟩
        · subst eab
          rcases memS' a m with m | m
          · exact (apart a (List.mem_append_left _ m)).2.1 m'
          · exact ndRB a m m'
        · rcases List.mem_append.mp m with m | m
          · rcases memS' a m with m | m
            · exact (apart a (List.mem_append_left _ m)).2.2.1
            · exact X.nz a (List.mem_append_left _ (pm.mem_iff.mpr (List.mem_append_right _ m)))
          · exact X.nz a (List.mem_append_right _ m)
        · rcases List.mem_append.mp m with m | m
          · rcases memS' p m with m | m
            · exact (apart p (List.mem_append_left _ m)).2.2.2 p b q rfl
            · exact (X.pu p b q).2.2 (List.mem_append_left _ (pm.mem_iff.mpr (List.mem_append_right _ m)))
          · exact (X.pu p b q).2.2 (List.mem_append_right _ m)
        · obtain ⟨o, eo⟩ := X.ex a z
          exact ⟨o, kz0 a z o eo⟩
        · obtain ⟨s2, d2, e3, w2, f1, f2, f3, f4, wk2⟩ := X.al k i' π u e' ev'
          have hj := al_set na e'
          refine ⟨s2, d2, e3, w2, (List.getElem?_set_ne hj).trans f1, f2, f3, f4, ?_⟩
          obtain ⟨vi, Ti, vj, Tj, a1, a2, a3, a4, a5, a6⟩ := Ents.apart X.es e1 f1 hj (List.nodup_append.mp X.nd).1
          rw [g4] at a1
          cases a1
          rw [f4] at a2
          cases a2
          obtain ⟨w3, Tw, ew3, t3, sbw⟩ := a4.tr f2
          cases ew3
          have hTi : Ti = T0 := by
            rcases hs0 with rfl | rfl
            · cases a3 with
              | ow t' => exact repU _ _ _ _ (Tr.repO _ _ _ t') (Tr.repO _ _ _ tr)
            · cases a3 with
              | io t' _ => exact repU _ _ _ _ (Tr.repO _ _ _ t') (Tr.repO _ _ _ tr)
          subst hTi
          exact (Tr.part t3 f3 wk2).2 H' kt fun a z => z.elim (kz a) fun m o eo => fr a o eo fun m' => (a5 a m').2 (sbw a m)
      refine w _ v' H' hq ?_
      have tv : Tr H' noReg S2 v' d := Rep.tr _ _ _ r2
      have old : ∀ a ∈ S2, a ∉ S' ++ Sb ∧ ¬ C.tz Z a ∧ ∀ p b, C.pu = some (p, b) → a ≠ p := fun a m => by
        obtain ⟨q1, q2, q3, q4⟩ := apart a (List.mem_append_right _ m)
        refine ⟨fun z => ?_, q3, q4⟩
        rcases List.mem_append.mp z with z | z
        · rcases memS' a z with z | z
          · exact n12.2.2 a z a m rfl
          · exact q1 z
        · exact q2 z
      unfold own
      by_cases hnl : nolist d = true
      · rw [if_pos hnl]
        exact Rel.push ⟨_, _, _, X2⟩ fun Z => (Tr.nolist d S2 v' tv hnl).2
      · rw [if_neg hnl]
        exact ⟨_, _, _, X2.pushE (Z' := Z) (.ow tv) n12.2.1 old (fun i π z => nomatch z)⟩
    · exact hf.elim
def ioD (γ : VSt) (f : D → Prop) : Prop := match γ.sl[0]? with
  | some (Sl.io e) => f e
  | _ => False
theorem ioD_inv {γ : VSt} {f : D → Prop} (h : ioD γ f) : ∃ e, γ.sl[0]? = some (.io e) ∧ f e := by
  unfold ioD at h
  split at h
  · rename_i e es
    exact ⟨e, es, h⟩
  · exact h.elim
def edI (G : D → D → Prop) : KEd := ⟨fun γ => ioD γ fun e => G .none e, fun s γ => ioD γ fun e => rtN (fun d => G d e) s, fun _ => False, fun _ => False⟩
section
variable {P : Program} {w : World} {mg : Str → Option Value} {base : Heap} {kl : Nat} {f : Addr} {fd : FuncData} {ps : List Str}
theorem okI {x qual : Str} {st : Stmt} {N : List Str} {W : TwI} {kb : KS} (F : Fun K x qual st f fd) (S : FnScope N ps (defScope st)) (hN : ps.length ≤ N.length) (har : ∀ ds G, W ds G → ds.length = ps.length)
    (hb : ∀ (cdv : Value) (A : Around) (outer : List Env) (s : Shared) (H : Hp) (E : XK), Bare (A.deeper (envOfC qual (defScope st) s.heap.objs.size f cdv)) → Room kl (A.deeper (envOfC qual (defScope st) s.heap.objs.size f cdv)) → ∃ t, PSs (cxOf CX0 P w K mg base N qual (defScope st) f cdv A outer s H E).nox (defBody st) t ∧ ∀ (C : Cn) (xc : XC C), SoS xc t kb)
    (val : ∀ d0 ds G, W (d0 :: ds) G → kb ⟨.io d0 :: (ds.map Sl.fz ++ List.replicate (N.length - ps.length) .jk), [], 0⟩ (edI G)) : FnG P w K mg base CX0 (kl + 1) f fd ps (spI W) := by
  refine okG F S (fun vs H Q E h => ?_) (fun cdv A outer s H vs Q E hg hr h => ?_)
  · obtain ⟨v0, vs', S, T, d0, ds, G, rfl, _, _, r, _, hw, _⟩ := h
    rw [List.length_cons, r.length]
    exact har _ _ hw
  · obtain ⟨t, hp, so⟩ := hb cdv A outer s H E hg hr
    obtain ⟨v0, vs', S0, T, d0, ds, Gq, rfl, r0, nd0, r, dis, hw, hk⟩ := h
    have el := r.length
    have ea := har _ _ hw
    rw [List.length_cons] at ea
    have jks : ∀ (k : Nat) {C : Cn} {Z : Reg}, Ents C Z H [] (List.replicate k none) (List.replicate k .jk) := fun k => by
      induction k with
      | zero => exact .nil
      | succ k ih => exact .cons (S := []) (.jk _) ih
    let C : Cn := ⟨H, fun a => a ∈ S0, none, fun _ _ z => (nomatch z), some v0, noReg⟩
    let Z : Reg := fun a => (∃ o, H a = some o) ∧ a ∉ S0
    have start : RelX C Z (S0 ++ []) [] ⟨.io d0 :: (ds.map Sl.fz ++ List.replicate (N.length - ps.length) .jk), [], 0⟩ [] (L2.start N (v0 :: vs')) H := by
      refine ⟨fun a o e m => ⟨.inl ⟨⟨o, e⟩, m⟩, e⟩, ?_, .nil, by simpa using nd0, fun a m => fun z => z.elim (fun z => z.2 (by simpa using m)) id, fun p b q => (nomatch q), fun a z => z.elim (fun z => z.1) False.elim, fun _ _ z => z, fun k i π v e => by simp at e⟩
      have fz := Trs.fzs (C := C) (Z := Z) (Trs.freeze (Z' := Z) (fun _ z => z.elim) _ _ _ (Reps.tr (Z := noReg) _ _ _ r) fun a m => ⟨by
        obtain ⟨xs, e⟩ := Reps.dom _ _ _ r a m
        exact ⟨_, e⟩, dis a m⟩) rfl
      show Ents C Z H _ (L2.start N (v0 :: vs')) _
      unfold L2.start
      have e1 : N.length - (v0 :: vs').length = N.length - ps.length := by rw [List.length_cons]; omega
      rw [e1, List.map_cons, List.cons_append]
      exact .cons (.io (Rep.tr _ _ _ r0) rfl) (Ents.append fz (jks _))
    -- the end
    have out : ∀ {sl tm : List Sl} {s : Sl} {n : Int} {v : V} {Θ : List V} {σ : L2.St} {H' : Hp} {e : D}, Rel C ⟨sl, s :: tm, n⟩ (v :: Θ) σ H' → sl[0]? = some (.io e) → rtN (fun d => Gq d e) s → Q v H' := fun {sl tm s n v Θ σ H' e} R es hr => by
      obtain ⟨Z2, Sa, Sb0, X0⟩ := R
      obtain ⟨A, Sb, en, X, f⟩ := RelX.popF (ss := [s]) (us := [v]) X0 rfl
      obtain ⟨A', e1, rfl⟩ : ∃ A', Ent C Z2 H' A' (some v) s ∧ A = A' := by
        cases en with
        | cons e1 e2 =>
          cases e2
          exact ⟨_, e1, by simp⟩
      obtain ⟨v1, T0, Rr, ev, ent, pm, _⟩ := X.es.at es
      have org : ∀ a, ¬ C.tz Z2 a → a ∈ S0 ∨ H a = none := fun a nz => by
        cases q : H a with
        | none => exact .inr rfl
        | some o =>
          left
          exact Classical.byContradiction fun hm => nz (X.fr a o q hm).1
      cases ent with
      | io t eio =>
        cases eio
        have res : ∃ d, Gq d e ∧ Rep H' A v d := by
          cases e1 with
          | jk v => cases hr
          | al v i π => cases hr
          | pu q => cases hr
          | io t q => cases hr
          | dc _ _ => cases hr
          | dt _ _ => cases hr
          | sh _ _ => cases hr
          | xv _ _ => cases hr
          | ho _ _ _ => cases hr
          | sp q t => cases hr
          | fz t => exact ⟨_, hr.2, Tr.repO _ _ _ (Tr.nolist (Z' := noReg) _ _ _ t hr.1).2⟩
          | ow t => exact ⟨_, hr, Tr.repO _ _ _ t⟩
        obtain ⟨d, hG, rd⟩ := res
        refine hk d e v H' hG (fun a o eo hm => (X.fr a o eo hm).2) ⟨T0, A, Tr.repO _ _ _ t, rd, ?_, fun a m => ?_⟩
        · refine nodup_cnt.mpr fun x => ?_
          have h1 := nodup_cnt.mp f.nd x
          have h2 := pm.count_eq x
          rw [List.count_append] at h1 h2 ⊢
          rw [List.count_append] at h1
          omega
        · rcases List.mem_append.mp m with m | m
          · exact org a (X.nz a (List.mem_append_left _ (pm.mem_iff.mpr (List.mem_append_left _ m))))
          · exact org a (f.ok a m).1
    refine ⟨t, hp, so C (noXC C) _ [] _ H _ (edI Gq) ⟨Z, _, [], start⟩ (val d0 ds Gq hw) ⟨fun γ' σ' H' hn R => ?_, fun s γ' v Θ' σ' H' hr R => ?_, fun _ _ _ z _ => z.elim, fun _ _ _ z _ => z.elim⟩⟩
    · obtain ⟨sl, tm, n⟩ := γ'
      obtain ⟨e, es, hn⟩ := ioD_inv hn
      exact out (R.push (v := .non) (d := .none) fun Z => .non) es ⟨rfl, hn⟩
    · obtain ⟨sl, tm, n⟩ := γ'
      obtain ⟨e, es, hr⟩ := ioD_inv hr
      exact out R es hr
end
end
end G
/-! GO: further constructs. -/
namespace G
open PySem PySem.Spec PyProof.Rows L2
variable {C : Cn} {xc : XC C}
section
variable {t t1 t2 ta tb tc : TE} {k k1 k2 ka kb kc ko : KE} {n m : Nat} {c1 c2 : TT} {h1 h2 : KT} {K : PySem.W.Frag}
theorem sr_neD : SoR (rNeD K) (vEqD true) := fun H v1 v2 T1 T2 d1 d2 Q q r1 r2 hf w =>
  ⟨d1, d2, Rep.dp K _ _ _ r1, Rep.dp K _ _ _ r2, hf.1, hf.2.1, w _ _ (sca_bl _) (by simpa using hf.2.2)⟩
/-- a list of ints, so many times -/
def kRep (ka kb : KE) : KE := fun γ q => ka γ fun γ1 => kb γ1 fun γ2 => popI γ2 fun j γ3 => match γ3.tm with
  | s :: tm => (shr γ3.sl s true).elim False fun ds => (j ≤ 1000000 ∧ ds.length * j.toNat ≤ 10000000) ∧ (intsOf ds).elim False fun ns => q ⟨γ3.sl, .ow true (dI (List.replicate j.toNat ns).flatten) :: tm, γ3.n⟩
  | _ => False
theorem elem_at {α : Type} {l : List α} {i : Nat} (h : i < l.length) : l[i]? = some l[i] := List.getElem?_eq_getElem h
theorem nolist_ints (ns : List Int) : nolist (dI ns) = false := rfl
theorem hasLen {α β : Type} (f : α → β) (l : List α) : (l.map f).length = l.length := List.length_map ..
theorem cutD_to (ds : List D) (k : Nat) : cutD ds none (some (k : Int)) = ds.take k := by
  unfold cutD
  rw [HT.sIx_none, HT.sIx_nat]
  simp
theorem cutD_from (ds : List D) (k : Nat) : cutD ds (some (k : Int)) none = ds.drop k := by
  unfold cutD
  rw [HT.sIx_none, HT.sIx_nat]
  by_cases h : k ≤ ds.length
  · rw [Nat.min_eq_left h]
    exact List.take_of_length_le (by rw [List.length_drop]; omega)
  · rw [Nat.min_eq_right (by omega), List.drop_of_length_le (Nat.le_refl _), List.drop_of_length_le (by omega)]
    simp
theorem cutD_mid (ds : List D) (a b : Nat) : cutD ds (some (a : Int)) (some (b : Int)) = (ds.drop a).take (b - a) := by
  unfold cutD
  rw [HT.sIx_nat, HT.sIx_nat]
  by_cases h : a ≤ ds.length
  · rw [Nat.min_eq_left h]
    by_cases h2 : b ≤ ds.length
    · rw [Nat.min_eq_left h2]
    · rw [Nat.min_eq_right (by omega), List.take_of_length_le (by rw [List.length_drop]; omega), List.take_of_length_le (by rw [List.length_drop]; omega)]
  · rw [Nat.min_eq_right (show ds.length ≤ a by omega), List.drop_of_length_le (Nat.le_refl _), List.drop_of_length_le (show ds.length ≤ a by omega)]
    simp
theorem cutD_toI {ns : List Int} {j : Int} (h : 0 ≤ j) : cutD (ns.map PyData.int) none (some j) = (ns.take j.toNat).map PyData.int := by
  obtain ⟨k, rfl⟩ : ∃ k : Nat, j = (k : Int) := ⟨j.toNat, by omega⟩
  rw [cutD_to, List.map_take]
  rfl
theorem cutD_fromI {ns : List Int} {j : Int} (h : 0 ≤ j) : cutD (ns.map PyData.int) (some j) none = (ns.drop j.toNat).map PyData.int := by
  obtain ⟨k, rfl⟩ : ∃ k : Nat, j = (k : Int) := ⟨j.toNat, by omega⟩
  rw [cutD_from, List.map_drop]
  rfl
theorem newL_ints (ns : List Int) : newL (ns.map PyData.int) = .ow true (dI ns) := by
  unfold newL
  rw [nolists_ints]
theorem newL_app (ns ms : List Int) : newL (ns.map PyData.int ++ ms.map PyData.int) = .ow true (dI (ns ++ ms)) := by
  rw [← List.map_append, newL_ints]
/-- a loop by an invariant on what is done; N: whatever is wanted behind a turn -/
theorem forL_inv {g : KG} {kb : KS} {tm : List Sl} {e : KEd} {β : Type} (l : List β) (f : β → D) (P : List β → VSt → Prop)
    (step : ∀ pre x post γ (N : VSt → Prop), l = pre ++ x :: post → γ.tm = tm → P pre γ → (∀ γ2, γ2.tm = tm → P (pre ++ [x]) γ2 → N γ2) → g ⟨γ.sl, .fz (f x) :: γ.tm, γ.n⟩ fun γ1 => kb γ1 ⟨fun γ2 => γ2.tm = tm ∧ N γ2, e.rt, fun γ2 => γ2.tm = tm ∧ e.nx γ2, fun γ2 => γ2.tm = tm ∧ N γ2⟩)
    (fin : ∀ γ, γ.tm = tm → P l γ → e.nx γ) : ∀ γ, γ.tm = tm → P [] γ → forL g kb tm (l.map f) γ e := by
  have main : ∀ (post pre : List β) (γ : VSt), l = pre ++ post → γ.tm = tm → P pre γ → forL g kb tm (post.map f) γ e := by
    intro post
    induction post with
    | nil =>
      intro pre γ hl ht hp
      rw [List.append_nil] at hl
      subst hl
      exact fin γ ht hp
    | cons x post ih =>
      intro pre γ hl ht hp
      exact step pre x post γ (fun γ2 => forL g kb tm (post.map f) γ2 e) hl ht hp fun γ2 h2 h3 => ih (pre ++ [x]) γ2 (by rw [hl]; simp) h2 h3
  exact fun γ ht h => main l [] γ rfl ht h
theorem forL_ints {g : KG} {kb : KS} {tm : List Sl} {e : KEd} (l : List Int) (P : List Int → VSt → Prop)
    (step : ∀ pre x post γ (N : VSt → Prop), l = pre ++ x :: post → γ.tm = tm → P pre γ → (∀ γ2, γ2.tm = tm → P (pre ++ [x]) γ2 → N γ2) → g ⟨γ.sl, .fz (.int x) :: γ.tm, γ.n⟩ fun γ1 => kb γ1 ⟨fun γ2 => γ2.tm = tm ∧ N γ2, e.rt, fun γ2 => γ2.tm = tm ∧ e.nx γ2, fun γ2 => γ2.tm = tm ∧ N γ2⟩)
    (fin : ∀ γ, γ.tm = tm → P l γ → e.nx γ) (γ : VSt) (ht : γ.tm = tm) (h : P [] γ) : forL g kb tm (l.map PyData.int) γ e := forL_inv l PyData.int P step fin γ ht h
/-- a comprehension by an invariant: what is done, what is made, how many draws are left -/
theorem lc_inv {j : Nat} {kt : KT} {ke : KE} {β : Type} {q : VSt → Prop} {sl T : List Sl} (b : Bool) (l : List β) (f : β → D) (P : List β → List D → Int → Prop) (hj : (sl.set j .jk) = sl) (na : noAl j T = true)
    (len : ∀ pre acc n, P pre acc n → acc.length < 10000000)
    (step : ∀ pre x post acc n (Y X : VSt → Prop), l = pre ++ x :: post → P pre acc n → (∀ s c cd n', con s = some (c, cd) → (b && c) = b → P (pre ++ [x]) (acc ++ [cd]) n' → Y ⟨sl.set j (.fz (f x)), s :: .ow b (.list acc) :: T, n'⟩) → (∀ n', P (pre ++ [x]) acc n' → X ⟨sl.set j (.fz (f x)), .ow b (.list acc) :: T, n'⟩) →
      kt ⟨sl.set j (.fz (f x)), .ow b (.list acc) :: T, n⟩ fun c γ1 => γ1.tm = .ow b (.list acc) :: T ∧ if c = true then ke γ1 Y else X γ1)
    (fin : ∀ acc n, P l acc n → q ⟨sl, .ow b (.list acc) :: T, n⟩) : ∀ acc n, P [] acc n → lcL j kt ke (l.map f) ⟨sl, .ow b (.list acc) :: T, n⟩ q := by
  have main : ∀ (post pre : List β) (acc : List D) (n : Int), l = pre ++ post → P pre acc n → lcL j kt ke (post.map f) ⟨sl, .ow b (.list acc) :: T, n⟩ q := by
    intro post
    induction post with
    | nil =>
      intro pre acc n hl hp
      rw [List.append_nil] at hl
      subst hl
      exact fin acc n hp
    | cons x post ih =>
      intro pre acc n hl hp
      have hjj : (sl.set j (.fz (f x))).set j .jk = sl := by rw [List.set_set]; exact hj
      refine ⟨noAl_cons na rfl, step pre x post acc n _ _ hl hp (fun s c cd n' hc hb hP => ?_) (fun n' hP => ?_)⟩
      · show (con s).elim False _
        rw [hc]
        refine ⟨⟨na, rfl, len _ _ _ hp⟩, ?_⟩
        dsimp only
        rw [hjj, hb]
        exact ih (pre ++ [x]) _ n' (by rw [hl]; simp) hP
      · dsimp only
        rw [hjj]
        exact ih (pre ++ [x]) _ n' (by rw [hl]; simp) hP
  exact fun acc n h => main l [] acc n rfl h
/-- a comprehension over ints that gives ints -/
theorem lc_ints' {j : Nat} {ke : KE} {q : VSt → Prop} {sl T : List Sl} {n : Int} (l : List Int) (h : Int → Int) (hj : (sl.set j .jk) = sl) (na : noAl j T = true) (len : l.length < 10000000)
    (step : ∀ x ∈ l, ∀ acc (Y : VSt → Prop), Y ⟨sl.set j (.fz (.int x)), .fz (.int (h x)) :: .ow true (.list acc) :: T, n⟩ → ke ⟨sl.set j (.fz (.int x)), .ow true (.list acc) :: T, n⟩ Y)
    (fin : q ⟨sl, .ow true (dI (l.map h)) :: T, n⟩) : lcL j kYes ke (l.map PyData.int) ⟨sl, .ow true (.list []) :: T, n⟩ q := by
  refine lc_inv (j := j) true l PyData.int (fun pre acc n' => acc = (pre.map h).map PyData.int ∧ n' = n ∧ ∃ post, l = pre ++ post) hj na (fun pre acc n' hp => ?_) (fun pre x post acc n' Y X hl hp hY hX => ?_) (fun acc n' hp => ?_) [] n ⟨rfl, rfl, l, rfl⟩
  · obtain ⟨rfl, _, post, rfl⟩ := hp
    rw [List.length_map, List.length_map]
    rw [List.length_append] at len
    omega
  · obtain ⟨rfl, rfl, _⟩ := hp
    refine ⟨rfl, ?_⟩
    rw [if_pos rfl]
    refine step x (by rw [hl]; simp) _ _ (hY _ true (.int (h x)) n' rfl rfl ⟨by simp, rfl, post, by rw [hl]; simp⟩)
  · obtain ⟨rfl, rfl, _⟩ := hp
    exact fin
theorem edT_rt {G : D → Prop} {s : Sl} {γ : VSt} : (edT G).rt s γ = rtN G s := rfl
theorem edP_rt {G : D → Prop} {s : Sl} {γ : VSt} : (edP G).rt s γ = (0 ≤ γ.n ∧ rtN G s) := rfl
theorem edT_nx {G : D → Prop} {γ : VSt} : (edT G).nx γ = G .none := rfl
theorem edP_nx {G : D → Prop} {γ : VSt} : (edP G).nx γ = (0 ≤ γ.n ∧ G .none) := rfl
theorem rtN_fz {G : D → Prop} {d : D} : rtN G (.fz d) = (nolist d = true ∧ G d) := rfl
theorem rtN_ow {G : D → Prop} {d : D} : rtN G (.ow true d) = G d := rfl
theorem rtN_own {G : D → Prop} {d : D} : rtN G (own d) = G d := by
  unfold own
  cases h : nolist d with
  | true => rw [if_pos rfl, rtN_fz, h]; simp
  | false => rw [if_neg (by simp), rtN_ow]
theorem own_int {i : Int} : own (.int i) = .fz (.int i) := rfl
theorem own_bool {b : Bool} : own (.bool b) = .fz (.bool b) := rfl
theorem own_str {x : Str} : own (.str x) = .fz (.str x) := rfl
theorem own_none : own .none = .fz .none := rfl
theorem own_list {ds : List D} : own (.list ds) = .ow true (.list ds) := rfl
theorem own_tup {ds : List D} : own (.tuple ds) = if nolists ds = true then .fz (.tuple ds) else .ow true (.tuple ds) := rfl
theorem mkS_lt {ds : List D} : mkS true true ds = .ow true (.list ds) := rfl
theorem mkS_lf {ds : List D} : mkS true false ds = .ow false (.list ds) := rfl
theorem mkS_tt {ds : List D} : mkS false true ds = own (.tuple ds) := rfl
theorem mkS_tf {ds : List D} : mkS false false ds = .fz (.tuple ds) := rfl
theorem con_own {d : D} : con (own d) = some (true, d) := by
  unfold own
  cases h : nolist d with
  | true => rw [if_pos rfl]; show some (nolist d, d) = _; rw [h]
  | false => rw [if_neg (by simp)]; rfl
theorem okS_own {d : D} : okS (own d) = true := by
  unfold own
  split <;> rfl
theorem look_own {sl : List Sl} {d : D} : look sl (own d) = some d := by
  unfold own
  split <;> rfl
theorem okS_fz {d : D} : okS (.fz d) = true := rfl
theorem okS_ow {b : Bool} {d : D} : okS (.ow b d) = true := rfl
theorem okS_pu : okS .pu = true := rfl
theorem okS_al {i : Nat} {π : List Nat} : okS (.al i π) = false := rfl
theorem noAl_nil {i : Nat} : noAl i [] = true := rfl
theorem noAl_fz {i : Nat} {d : D} {tm : List Sl} : noAl i (.fz d :: tm) = noAl i tm := by simp [noAl]
theorem noAl_ow {i : Nat} {b : Bool} {d : D} {tm : List Sl} : noAl i (.ow b d :: tm) = noAl i tm := by simp [noAl]
theorem noAl_pu {i : Nat} {tm : List Sl} : noAl i (.pu :: tm) = noAl i tm := by simp [noAl]
theorem noAl_al {i j : Nat} {π : List Nat} {tm : List Sl} : noAl i (.al j π :: tm) = ((j != i) && noAl i tm) := by simp [noAl]
theorem noAl_own {i : Nat} {d : D} {tm : List Sl} : noAl i (own d :: tm) = noAl i tm := by
  unfold own
  split <;> simp [noAl]
theorem con_fz {d : D} : con (.fz d) = some (nolist d, d) := rfl
theorem con_ow {b : Bool} {d : D} : con (.ow b d) = some (b, d) := rfl
theorem look_fz {sl : List Sl} {d : D} : look sl (.fz d) = some d := rfl
theorem look_ow {sl : List Sl} {b : Bool} {d : D} : look sl (.ow b d) = some d := rfl
theorem look_al {sl : List Sl} {i : Nat} {π : List Nat} : look sl (.al i π) = (sl[i]?).bind fun s => (datS s).bind fun d => atP d π := rfl
theorem datS_fz {d : D} : datS (.fz d) = some d := rfl
theorem datS_ow {b : Bool} {d : D} : datS (.ow b d) = some d := rfl
theorem datS_own {d : D} : datS (own d) = some d := by
  unfold own
  split <;> rfl
theorem subS_fz {d e : D} {k : Nat} : subS (.fz e) k d = .fz d := rfl
theorem subS_ow {d e : D} {k : Nat} : subS (.ow true e) k d = own d := rfl
theorem subS_of {d e : D} {k : Nat} : subS (.ow false e) k d = .fz d := rfl
theorem subS_al {d : D} {i k : Nat} {π : List Nat} : subS (.al i π) k d = if nolist d = true then .fz d else .al i (π ++ [k]) := rfl
theorem subS_own {d e : D} {k : Nat} : nolist e = false → subS (own e) k d = own d := fun h => by
  unfold own
  rw [h]
  rfl
theorem ixD_0 {d : D} {ds : List D} {f : Nat → D → Prop} : ixD (d :: ds) 0 f = f 0 d := by
  unfold ixD ixN
  simp
theorem ixD_1 {d e : D} {ds : List D} {f : Nat → D → Prop} : ixD (d :: e :: ds) 1 f = f 1 e := by
  unfold ixD ixN
  simp
  rw [if_pos (by omega)]
  exact Iff.rfl
theorem ixD_2 {d e g : D} {ds : List D} {f : Nat → D → Prop} : ixD (d :: e :: g :: ds) 2 f = f 2 g := by
  unfold ixD ixN
  simp
  rw [if_pos (by omega)]
  exact Iff.rfl
/-- at some place of a list of ints -/
theorem ixD_at {gs : List Int} {i : Int} {f : Nat → D → Prop} (h0 : 0 ≤ i) (h1 : i < gs.length) (h : ∀ x, gs[i.toNat]? = some x → f i.toNat (.int x)) : ixD (gs.map PyData.int) i f := by
  refine ixD_ints h0 h1 (h _ ?_)
  rw [List.getD_eq_getElem?_getD, List.getElem?_eq_getElem (by omega)]
  rfl
theorem ixD_any {ds : List D} {i : Int} {f : Nat → D → Prop} (h0 : 0 ≤ i) (h1 : i < ds.length) (h : ∀ x, ds[i.toNat]? = some x → f i.toNat x) : ixD ds i f := by
  unfold ixD
  have e1 : ixN ds.length i = some i.toNat := by
    unfold ixN
    rw [if_pos h0, if_pos h1]
  have e2 : ds[i.toNat]? = some ds[i.toNat] := List.getElem?_eq_getElem (by omega)
  rw [e1]
  show (ds[i.toNat]?).elim False (f i.toNat)
  rw [e2]
  exact h _ e2
/-- [x for x in ints if P(x)] -/
theorem lc_filt' {j : Nat} {kt : KT} {q : VSt → Prop} {sl T : List Sl} {n : Int} (l : List Int) (P : Int → Bool) (hj : (sl.set j .jk) = sl) (hjl : j < sl.length) (na : noAl j T = true) (len : l.length < 10000000)
    (step : ∀ x ∈ l, ∀ acc (Y : Bool → VSt → Prop), Y (P x) ⟨sl.set j (.fz (.int x)), .ow true (.list acc) :: T, n⟩ → kt ⟨sl.set j (.fz (.int x)), .ow true (.list acc) :: T, n⟩ Y)
    (fin : q ⟨sl, .ow true (dI (l.filter P)) :: T, n⟩) : lcL j kt (kVar j) (l.map PyData.int) ⟨sl, .ow true (.list []) :: T, n⟩ q := by
  refine lc_inv (j := j) true l PyData.int (fun pre acc n' => acc = (pre.filter P).map PyData.int ∧ n' = n ∧ ∃ post, l = pre ++ post) hj na (fun pre acc n' hp => ?_) (fun pre x post acc n' Y X hl hp hY hX => ?_) (fun acc n' hp => ?_) [] n ⟨rfl, rfl, l, rfl⟩
  · obtain ⟨rfl, _, post, rfl⟩ := hp
    rw [List.length_map]
    rw [List.length_append] at len
    have := List.length_filter_le P pre
    omega
  · obtain ⟨rfl, rfl, _⟩ := hp
    refine step x (by rw [hl]; simp) _ _ ⟨rfl, ?_⟩
    cases hx : P x with
    | true =>
      rw [if_pos rfl]
      have e : (sl.set j (.fz (.int x)))[j]? = some (.fz (.int x)) := List.getElem?_set_self hjl
      unfold kVar
      dsimp only
      rw [e]
      exact hY _ true (.int x) n' rfl rfl ⟨by rw [List.filter_append]; simp [hx], rfl, post, by rw [hl]; simp⟩
    | false =>
      rw [if_neg (by simp)]
      exact hX n' ⟨by rw [List.filter_append]; simp [hx], rfl, post, by rw [hl]; simp⟩
  · obtain ⟨rfl, rfl, _⟩ := hp
    exact fin
theorem look_mkL {sl : List Sl} {b : Bool} {ds : List D} : look sl (mkS true b ds) = some (.list ds) := by
  cases b <;> rfl
theorem okS_mkL {b : Bool} {ds : List D} : okS (mkS true b ds) = true := by
  cases b <;> rfl
end
end G
/-! GP: a def to which its last argument is given. -/
namespace G
open PySem PySem.Spec PyProof.Rows L2
variable {C : Cn} {xc : XC C}
section
variable {t t1 t2 ta tb tc : TE} {k k1 k2 ka kb kc ko : KE} {n m : Nat} {K : PySem.W.Frag}
/-- a def that reads its arguments but the last one, which is given to it -/
def spV (W : Tw) : Sp := fun vs H Q _ => ∃ vs' v0 S T ds d0 G, vs = vs' ++ [v0] ∧ Rep H S v0 d0 ∧ S.Nodup ∧ Reps H T vs' ds ∧ (∀ a ∈ T, a ∉ S) ∧ W (ds ++ [d0]) G ∧
  ∀ d v H', G d → (∀ a o, H a = some o → a ∉ S → H' a = some o) → (∃ S2, Rep H' S2 v d ∧ S2.Nodup ∧ ∀ a ∈ S2, a ∈ S ∨ H a = none) → Q v H'
theorem RelX.popsX {C : Cn} {Z : Reg} {S1 : List Addr} {sl : List Sl} {σ : L2.St} {H : Hp} {j : Int} : ∀ {n : Nat} {tm r : List Sl} {S2 : List Addr} {ds : List D} {vs Θ : List V}, RelX C Z S1 S2 ⟨sl, tm, j⟩ (vs.reverse ++ Θ) σ H → vs.length = n → datN sl n tm = some (ds, r) →
    ∃ T A S2', Reps H T vs ds ∧ (∀ a ∈ T, Z a ∨ a ∈ S1 ++ S2) ∧ RelX C Z S1 S2' ⟨sl, r, j⟩ Θ σ H ∧ S2 = A ++ S2'
  | 0, tm, r, S2, ds, vs, Θ, R, el, e => by
    simp only [datN, Option.some.injEq, Prod.mk.injEq] at e
    obtain ⟨rfl, rfl⟩ := e
    match vs, el with
    | [], _ => exact ⟨[], [], S2, .nil, fun _ z => (nomatch z), R, rfl⟩
  | n + 1, [], _, _, _, _, _, _, _, e => by cases e
  | n + 1, s :: tm, r, S2, ds, vs, Θ, R, el, e => by
    simp only [datN] at e
    cases e1 : look sl s with
    | none => rw [e1] at e; cases e
    | some d =>
      cases e2 : datN sl n tm with
      | none => rw [e1, e2] at e; cases e
      | some x =>
        rw [e1, e2] at e
        simp only [Option.bind_some, Option.some.injEq, Prod.mk.injEq] at e
        obtain ⟨rfl, rfl⟩ := e
        have hne : vs ≠ [] := fun z => by rw [z] at el; cases el
        obtain ⟨us, v, rfl⟩ : ∃ us v, vs = us ++ [v] := ⟨_, _, (List.dropLast_concat_getLast hne).symm⟩
        rw [List.reverse_append] at R
        have R' : RelX C Z S1 S2 ⟨sl, s :: tm, j⟩ (v :: (us.reverse ++ Θ)) σ H := R
        obtain ⟨T0, t0, s0⟩ := R'.trAt (k := 0) rfl rfl e1
        obtain ⟨T1, r1, n1⟩ := Tr.rep _ _ _ t0
        -- the first entry's cells
        obtain ⟨fr, es, et, nd, nz, pu, ex, dj, al⟩ := R'
        dsimp only at es et al pu
        cases et with
        | @cons A1 B1 _ _ _ _ f1 f2 =>
          have pm : (S1 ++ (A1 ++ B1)).Perm (A1 ++ (S1 ++ B1)) := by
            rw [← List.append_assoc, ← List.append_assoc]
            exact List.Perm.append_right B1 List.perm_append_comm
          have X1 : RelX C Z S1 B1 ⟨sl, tm, j⟩ (us.reverse ++ Θ) σ H := ⟨fr, es, f2, (List.nodup_append.mp (pm.nodup_iff.mp nd)).2.1, fun a m => nz a (pm.mem_iff.mpr (List.mem_append_right _ m)), fun p b q => ⟨(pu p b q).1, (pu p b q).2.1, fun m => (pu p b q).2.2 (pm.mem_iff.mpr (List.mem_append_right _ m))⟩, ex, dj, fun k j π u e ev => al (k + 1) j π u (by simpa using e) (by simpa using ev)⟩
          obtain ⟨T2, A2, S2', r2, n2, X2, rfl⟩ := RelX.popsX (n := n) (ds := x.1) (r := x.2) (vs := us) X1 (by simpa using el) e2
          refine ⟨T2 ++ (T1 ++ []), A1 ++ A2, S2', r2.append (.cons r1 .nil), fun a m => ?_, X2, by simp⟩
          rcases List.mem_append.mp m with m | m
          · rcases n2 a m with z | z
            · exact .inl z
            · refine .inr ?_
              rcases List.mem_append.mp z with z | z
              · exact List.mem_append_left _ z
              · exact List.mem_append_right _ (List.mem_append_right _ z)
          · rcases n1 a (by simpa using m) with z | z
            · exact .inr (s0 a z)
            · exact .inl z
/-- the tree that is given -/
def giv : Sl → Option D
  | .ow true d => some d
  | .fz d => if nolist d = true then some d else none
  | _ => none
def kCallV (W : Tw) (n : Nat) (ka : KE) : KE := fun γ q => ka γ fun γ1 => match γ1.tm with
  | s :: tm => (giv s).elim False fun d0 => (datN γ1.sl n tm).elim False fun x => W (x.1 ++ [d0]) fun d => q ⟨γ1.sl, own d :: x.2, γ1.n⟩
  | _ => False
theorem so_callV {W : Tw} {ts : TA} (h : SoA xc (n + 1) ts ka) : SoE xc (tCall (spV W) [] E0 ts) (kCallV W n ka) := fun γ Θ σ H Q q R hk w => h γ Θ σ H _ _ R hk fun γ1 vs H1 el hk1 R1 => by
  obtain ⟨sl, tm, j⟩ := γ1
  have hne : vs ≠ [] := fun z => by rw [z] at el; cases el
  obtain ⟨us, v, rfl⟩ : ∃ us v, vs = us ++ [v] := ⟨_, _, (List.dropLast_concat_getLast hne).symm⟩
  dsimp only at hk1
  split at hk1
  · rename_i s tm
    obtain ⟨d0, e0, hk2⟩ := elimF hk1
    obtain ⟨⟨ds, r⟩, e, hw⟩ := elimF hk2
    rw [List.reverse_append] at R1
    obtain ⟨Z, S1, S2, X⟩ := R1
    obtain ⟨A, B, en, X1, f⟩ := RelX.popF (ss := [s]) (us := [v]) X rfl
    obtain ⟨A', e1, rfl⟩ : ∃ A', Ent C Z H1 A' (some v) s ∧ A = A' := by
      cases en with
      | cons e1 e2 =>
        cases e2
        exact ⟨_, e1, by simp⟩
    have t0 : Tr H1 noReg A v d0 := by
      cases e1 with
      | jk v => cases e0
      | al v i π => cases e0
      | pu q => cases e0
      | io t q => cases e0
      | dc _ _ => cases e0
      | dt _ _ => cases e0
      | sh _ _ => cases e0
      | xv _ _ => cases e0
      | ho _ _ _ => cases e0
      | sp q t => cases e0
      | fz t =>
        simp only [giv] at e0
        split at e0
        · rename_i hn
          cases e0
          exact (Tr.nolist _ _ _ t hn).2
        · cases e0
      | ow t => cases e0; exact t
    obtain ⟨T, A2, S2', rp, sub, X2, rfl⟩ := RelX.popsX (Θ := Θ) X1 (by simpa using el) e
    have ndA := List.nodup_append.mp f.nd
    rw [List.append_nil]
    refine ⟨us, v, A, T, ds, d0, _, rfl, Tr.repO _ _ _ t0, ndA.1, rp, fun a m m' => ?_, hw, fun d v' H' hq fr nw => ?_⟩
    · rcases sub a m with z | z
      · exact (f.ok a m').1 (.inl z)
      · exact ndA.2.2 a m' a z rfl
    · obtain ⟨Sr, rr, ndr, new⟩ := nw
      have kt : ∀ t xs, H1 t = some (.tup xs) → H' t = some (.tup xs) := fun t xs et => fr t _ et fun m => by
        obtain ⟨ys, q⟩ := Tr.dom _ _ _ t0 t m
        rw [et] at q
        cases q
      have kz0 : ∀ a, C.tz Z a → ∀ o, H1 a = some o → H' a = some o := fun a z o eo => fr a o eo fun m => (f.ok a m).1 z
      have kz : ∀ a, Z a → ∀ o, H1 a = some o → H' a = some o := fun a z => kz0 a (.inl z)
      have inS : ∀ a ∈ S1 ++ S2', a ∈ S1 ++ (A2 ++ S2') := fun a m => by
        rcases List.mem_append.mp m with m | m
        · exact List.mem_append_left _ m
        · exact List.mem_append_right _ (List.mem_append_right _ m)
      have ks : ∀ a ∈ S1 ++ S2', ∀ o, H1 a = some o → H' a = some o := fun a m o eo => fr a o eo fun m' => ndA.2.2 a m' a (inS a m) rfl
      have X3 : RelX C Z S1 S2' ⟨sl, r, j⟩ Θ σ H' := by
        refine ⟨fun a o e m => ⟨(X2.fr a o e m).1, kz0 a (X2.fr a o e m).1 o (X2.fr a o e m).2⟩, X2.es.mono kt (fun _ z => z) kz fun a m => ks a (List.mem_append_left _ m), X2.et.mono kt (fun _ z => z) kz fun a m => ks a (List.mem_append_right _ m), X2.nd, X2.nz, fun p b q => ⟨(X2.pu p b q).1.mono fun o eo => fr p o eo fun m => (f.ok p m).2.1 p b q rfl, (X2.pu p b q).2⟩, fun a z => ?_, X2.dj, fun k i π u e ev => ?_⟩
        · obtain ⟨o, eo⟩ := X2.ex a z
          exact ⟨o, kz0 a z o eo⟩
        · obtain ⟨s, d', e', w', g1, g2, g3, g4, wk⟩ := X2.al k i π u e ev
          obtain ⟨w2, T', ew, t, sub⟩ := X2.slot g1 g2
          rw [g4] at ew
          cases ew
          exact ⟨s, d', e', w', g1, g2, g3, g4, (Tr.part t g3 wk).2 H' kt fun a z => z.elim (kz a) fun m => ks a (List.mem_append_left _ (sub a m))⟩
      have tv : Tr H' noReg Sr v' d := Rep.tr _ _ _ rr
      have old : ∀ a ∈ Sr, a ∉ S1 ++ S2' ∧ ¬ C.tz Z a ∧ ∀ p b, C.pu = some (p, b) → a ≠ p := fun a m => by
        rcases new a m with z | z
        · exact ⟨fun q => ndA.2.2 a z a (inS a q) rfl, (f.ok a z).1, (f.ok a z).2.1⟩
        · refine ⟨fun q => ?_, fun q => ?_, fun p b q y => ?_⟩
          · rcases List.mem_append.mp q with q | q
            · obtain ⟨xs, e⟩ := X2.es.dom a q
              rw [z] at e; cases e
            · obtain ⟨xs, e⟩ := X2.et.dom a q
              rw [z] at e; cases e
          · obtain ⟨o, e⟩ := X2.ex a q
            rw [z] at e; cases e
          · obtain ⟨x1, x2, x3, e, _⟩ := (X2.pu p b q).1
            rw [← y, z] at e; cases e
      refine w _ v' H' hq ?_
      unfold own
      by_cases hnl : nolist d = true
      · rw [if_pos hnl]
        exact Rel.push ⟨_, _, _, X3⟩ fun Z => (Tr.nolist d Sr v' tv hnl).2
      · rw [if_neg hnl]
        exact ⟨_, _, _, X3.pushE (Z' := Z) (.ow tv) ndr old (fun i π z => nomatch z)⟩
  · exact hk1.elim
section
variable {P : Program} {w : World} {mg : Str → Option Value} {base : Heap} {kl : Nat} {f : Addr} {fd : FuncData} {ps : List Str}
theorem okV {x qual : Str} {st : Stmt} {N : List Str} {W : Tw} {kb : KS} (F : Fun K x qual st f fd) (S : FnScope N ps (defScope st)) (hN : ps.length ≤ N.length) (har : ∀ ds G, W ds G → ds.length = ps.length)
    (hb : ∀ (cdv : Value) (A : Around) (outer : List Env) (s : Shared) (H : Hp) (E : XK), Bare (A.deeper (envOfC qual (defScope st) s.heap.objs.size f cdv)) → Room kl (A.deeper (envOfC qual (defScope st) s.heap.objs.size f cdv)) → ∃ t, PSs (cxOf CX0 P w K mg base N qual (defScope st) f cdv A outer s H E).nox (defBody st) t ∧ ∀ (C : Cn) (xc : XC C), SoS xc t kb)
    (val : ∀ ds d0 G, W (ds ++ [d0]) G → kb ⟨ds.map Sl.fz ++ own d0 :: List.replicate (N.length - ps.length) .jk, [], 0⟩ (edT G)) : FnG P w K mg base CX0 (kl + 1) f fd ps (spV W) := by
  refine okG F S (fun vs H Q E h => ?_) (fun cdv A outer s H vs Q E hg hr h => ?_)
  · obtain ⟨vs', v0, S, T, ds, d0, G, rfl, _, _, r, _, hw, _⟩ := h
    have := har _ _ hw
    rw [List.length_append] at this ⊢
    rw [r.length]
    exact this
  · obtain ⟨t, hp, so⟩ := hb cdv A outer s H E hg hr
    obtain ⟨vs', v0, S0, T, ds, d0, Gq, rfl, r0, nd0, r, dis, hw, hk⟩ := h
    have el := r.length
    have ea := har _ _ hw
    rw [List.length_append, List.length_singleton] at ea
    have jks : ∀ (k : Nat) {C : Cn} {Z : Reg}, Ents C Z H [] (List.replicate k none) (List.replicate k .jk) := fun k => by
      induction k with
      | zero => exact .nil
      | succ k ih => exact .cons (S := []) (.jk _) ih
    let C : Cn := ⟨H, fun a => a ∈ S0, none, fun _ _ z => (nomatch z), none, noReg⟩
    let Z : Reg := fun a => (∃ o, H a = some o) ∧ a ∉ S0
    have ent0 : ∃ S', Ent C Z H S' (some v0) (own d0) ∧ (S' = [] ∨ S' = S0) := by
      unfold own
      by_cases hn : nolist d0 = true
      · rw [if_pos hn]
        exact ⟨[], .fz (Tr.nolist _ _ _ (Rep.tr (Z := Z) _ _ _ r0) hn).2, .inl rfl⟩
      · rw [if_neg hn]
        exact ⟨S0, .ow (Rep.tr _ _ _ r0), .inr rfl⟩
    obtain ⟨S', en0, hS'⟩ := ent0
    have subS' : ∀ a ∈ S', a ∈ S0 := fun a m => by
      rcases hS' with rfl | rfl
      · cases m
      · exact m
    have ndS' : S'.Nodup := by
      rcases hS' with rfl | rfl
      · exact List.nodup_nil
      · exact nd0
    have start : RelX C Z (S' ++ []) [] ⟨ds.map Sl.fz ++ own d0 :: List.replicate (N.length - ps.length) .jk, [], 0⟩ [] (L2.start N (vs' ++ [v0])) H := by
      refine ⟨fun a o e m => ⟨.inl ⟨⟨o, e⟩, m⟩, e⟩, ?_, .nil, by simpa using ndS', fun a m => fun z => z.elim (fun z => z.2 (subS' a (by simpa using m))) id, fun p b q => (nomatch q), fun a z => z.elim (fun z => z.1) False.elim, fun _ _ z => z, fun k i π v e => by simp at e⟩
      have fz := Trs.fzs (C := C) (Z := Z) (Trs.freeze (Z' := Z) (fun _ z => z.elim) _ _ _ (Reps.tr (Z := noReg) _ _ _ r) fun a m => ⟨by
        obtain ⟨xs, e⟩ := Reps.dom _ _ _ r a m
        exact ⟨_, e⟩, dis a m⟩) rfl
      show Ents C Z H _ (L2.start N (vs' ++ [v0])) _
      unfold L2.start
      have e1 : N.length - (vs' ++ [v0]).length = N.length - ps.length := by rw [List.length_append, List.length_singleton]; omega
      rw [e1, List.map_append, List.append_assoc]
      have q := Ents.append fz (.cons en0 (jks (N.length - ps.length)))
      rw [List.nil_append] at q
      exact q
    have org : ∀ {Z2 : Reg} {Sa Sb : List Addr} {γ : VSt} {Θ : List V} {σ : L2.St} {H' : Hp}, RelX C Z2 Sa Sb γ Θ σ H' → ∀ a, ¬ C.tz Z2 a → a ∈ S0 ∨ H a = none := fun X a nz => by
      cases q : H a with
      | none => exact .inr rfl
      | some o =>
        left
        exact Classical.byContradiction fun hm => nz (X.fr a o q hm).1
    have out : ∀ {sl tm : List Sl} {s : Sl} {n : Int} {v : V} {Θ : List V} {σ : L2.St} {H' : Hp}, Rel C ⟨sl, s :: tm, n⟩ (v :: Θ) σ H' → rtN Gq s → Q v H' := fun {sl tm s n v Θ σ H'} R hr => by
      obtain ⟨Z2, Sa, Sb0, X0⟩ := R
      obtain ⟨A, Sb, en, X, f⟩ := RelX.popF (ss := [s]) (us := [v]) X0 rfl
      obtain ⟨A', e1, rfl⟩ : ∃ A', Ent C Z2 H' A' (some v) s ∧ A = A' := by
        cases en with
        | cons e1 e2 =>
          cases e2
          exact ⟨_, e1, by simp⟩
      have res : ∃ d, Gq d ∧ Rep H' A v d := by
        cases e1 with
        | jk v => cases hr
        | al v i π => cases hr
        | pu q => cases hr
        | io t q => cases hr
        | dc _ _ => cases hr
        | dt _ _ => cases hr
        | sh _ _ => cases hr
        | xv _ _ => cases hr
        | ho _ _ _ => cases hr
        | sp q t => cases hr
        | fz t => exact ⟨_, hr.2, Tr.repO _ _ _ (Tr.nolist (Z' := noReg) _ _ _ t hr.1).2⟩
        | ow t => exact ⟨_, hr, Tr.repO _ _ _ t⟩
      obtain ⟨d, hG, rd⟩ := res
      exact hk d v H' hG (fun a o eo hm => (X.fr a o eo hm).2) ⟨A, rd, (List.nodup_append.mp f.nd).1, fun a m => org X a (f.ok a m).1⟩
    refine ⟨t, hp, so C (noXC C) _ [] _ H _ (edT Gq) ⟨Z, _, [], start⟩ (val ds d0 Gq hw) ⟨fun γ' σ' H' hn R => ?_, fun s γ' v Θ' σ' H' hr R => ?_, fun _ _ _ z _ => z.elim, fun _ _ _ z _ => z.elim⟩⟩
    · obtain ⟨sl, tm, n⟩ := γ'
      exact out (R.push (v := .non) (d := .none) fun Z => .non) ⟨rfl, hn⟩
    · exact out R hr
end
end
end G
/-! GQ: further constructs. -/
namespace G
open PySem PySem.Spec PyProof.Rows L2
variable {C : Cn} {xc : XC C}
section
variable {t t1 t2 ta tb tc : TE} {k k1 k2 ka kb kc ko : KE} {n m : Nat} {K : PySem.W.Frag}
/-- how many bits -/
def vBits : D → (D → Prop) → Prop := fun d q => match d with | .int i => q (.int (Builtin.Int.intBits i : Nat)) | _ => False
theorem so_bits (ha : SoE xc ta ka) : SoE xc (tBits ta) (kUn vBits ka) := so_un (r := fun x H Q => ∃ i, x = .int i ∧ Q (.int (Builtin.Int.intBits i : Nat)) H) (fun H v1 T1 d1 Q q r1 hf w => by
  unfold vBits at hf
  split at hf
  · cases r1
    exact ⟨_, rfl, w _ _ (sca_int _) hf⟩
  · exact hf.elim) ha
/-- range(a, b, -1) -/
def rgD (a b : Int) : List Int := (List.range (a - b).toNat).map fun i => a - (i : Nat)
theorem rgD_len (a b : Int) : (rgD a b).length = (a - b).toNat := by unfold rgD; rw [List.length_map, List.length_range]
def kRngD (ka kb kc : KE) : KI := fun γ q => ka γ fun γ1 => kb γ1 fun γ2 => kc γ2 fun γ3 => popI γ3 fun c γ4 => popI γ4 fun j γ5 => popI γ5 fun i γ6 => (c = -1 ∧ -1000000000000 ≤ i ∧ i ≤ 1000000000000 ∧ -1000000000000 ≤ j ∧ j ≤ 1000000000000) ∧ q ((rgD i j).map PyData.int) γ6 ∧ γ6.tm = γ.tm
theorem itD_rangeD {C : Cn} {tm : List Sl} {Ψ : List V} (a b : Int) : ItD C (Itc a (-1) (a - b).toNat) ((rgD a b).map PyData.int) tm Ψ := fun E Φ i sl n σ H ee R => by
  refine ⟨fun d e => ?_, fun hi => ?_⟩
  · rw [List.getElem?_map] at e
    have hi : i < (a - b).toNat := by
      rcases Nat.lt_or_ge i (a - b).toNat with z | z
      · exact z
      · rw [List.getElem?_eq_none (by rw [rgD_len]; omega)] at e
        cases e
    have er : (rgD a b)[i]? = some (a - i) := by
      unfold rgD
      rw [List.getElem?_map, List.getElem?_range hi]
      rfl
    rw [er] at e
    cases e
    refine ⟨hi, fun x H3 hy => ?_⟩
    obtain ⟨rfl, rfl⟩ := hy
    have : a + (i : Nat) * (-1) = a - i := by omega
    rw [this]
    exact R.push fun Z => .int _
  · rw [List.length_map, rgD_len] at hi
    exact hi
theorem so_rngD (h : SoE xc ta ka) (h' : SoE xc tb kb) (h'' : SoE xc tc kc) : SoI xc (iRng3 (tCons ta (tCons tb (tCons tc tNil)))) (kRngD ka kb kc) := fun γ Θ σ H Rr q R hk w => h γ Θ σ H _ _ R hk fun γ1 v H1 hk1 R1 => h' γ1 _ σ H1 _ _ R1 hk1 fun γ2 u H2 hk2 R2 => h'' γ2 _ σ H2 _ _ R2 hk2 fun γ3 x H3 hk3 R3 => by
  obtain ⟨c, γ4, rfl, hf, R4⟩ := popI_ok R3 hk3
  obtain ⟨j, γ5, rfl, hf2, R5⟩ := popI_ok R4 hf
  obtain ⟨i, γ6, rfl, ⟨⟨rfl, b1, b2, b3, b4⟩, hq, et⟩, R6⟩ := popI_ok R5 hf2
  have e : (2 : Int) ^ 62 = 4611686018427387904 := by decide
  exact ⟨i, j, -1, (i - j).toNat, rfl, RgC.neg (by omega) (by omega) (by omega) (by omega), w _ _ γ6 Θ H3 hq (popD_refl et) (itD_rangeD i j) R6⟩
/-- the last item, all but the last one -/
theorem cutD_last (ds : List D) : cutD ds (some (-1)) none = ds.drop (ds.length - 1) := by
  unfold cutD
  have e1 : HT.sIx ds.length 0 (some (-1)) = ds.length - 1 := by
    show (if (-1 : Int) < 0 then ((-1 : Int) + (ds.length : Int)).toNat else min (-1 : Int).toNat ds.length) = _
    rw [if_pos (by decide)]
    omega
  rw [e1, HT.sIx_none]
  exact List.take_of_length_le (by rw [List.length_drop]; exact Nat.le_refl _)
theorem cutD_init (ds : List D) : cutD ds none (some (-1)) = ds.dropLast := by
  unfold cutD
  have e1 : HT.sIx ds.length ds.length (some (-1)) = ds.length - 1 := by
    show (if (-1 : Int) < 0 then ((-1 : Int) + (ds.length : Int)).toNat else min (-1 : Int).toNat ds.length) = _
    rw [if_pos (by decide)]
    omega
  rw [e1, HT.sIx_none, List.drop_zero, List.dropLast_eq_take]
  congr 1
theorem cutD_lastI (ns : List Int) : cutD (ns.map PyData.int) (some (-1)) none = (ns.drop (ns.length - 1)).map PyData.int := by
  rw [cutD_last, List.length_map, List.map_drop]
theorem cutD_initI (ns : List Int) : cutD (ns.map PyData.int) none (some (-1)) = ns.dropLast.map PyData.int := by
  rw [cutD_init, List.map_dropLast]
theorem cutD_toN {ns : List Int} {j : Nat} : cutD (ns.map PyData.int) none (some (j : Int)) = (ns.take j).map PyData.int := by
  rw [cutD_to, List.map_take]
/-- in a list of ints -/
theorem inV_intsD (t : Int) (ns : List Int) : inV (.int t) ((ns.map PyData.int).map vOf) = decide (t ∈ ns) := by
  have : (ns.map PyData.int).map vOf = ns.map V.int := by
    rw [List.map_map]
    rfl
  rw [this, inV_ints]
theorem allflat_ints (ns : List Int) : (ns.map PyData.int).all flatD = true := by
  rw [List.all_map, List.all_eq_true]
  intro x _
  rfl
theorem eqv_il (xs ys : List Int) : PyData.eqv (.list (xs.map PyData.int)) (.list (ys.map PyData.int)) = decide (xs = ys) := eqv_ints xs ys
theorem eqv_il1 (xs : List Int) (y : Int) : PyData.eqv (.list (xs.map PyData.int)) (.list [.int y]) = decide (xs = [y]) := eqv_ints xs [y]
theorem eqv_il0 (xs : List Int) : PyData.eqv (.list (xs.map PyData.int)) (.list []) = decide (xs = []) := eqv_ints xs []
theorem putS_0 {s : Sl} {sl : List Sl} {b : Bool} {d : D} : putS (s :: sl) 0 b d = reS s b d :: sl := rfl
theorem reS_io {e d : D} {b : Bool} : reS (.io e) b d = .io d := rfl
theorem reS_ow {e d : D} {c b : Bool} : reS (.ow c e) b d = .ow b d := rfl
theorem putS_set {sl : List Sl} {i : Nat} {b : Bool} {d : D} : putS sl i b d = sl.set i (reS ((sl[i]?).getD .jk) b d) := rfl
theorem datS_io {d : D} : datS (.io d) = some d := rfl
theorem ownF_ow {d : D} : ownF (some (.ow true d)) = some (.ow true d, d) := rfl
theorem ownF_io {d : D} : ownF (some (.io d)) = some (.io d, d) := rfl
theorem edI_rt {G : D → D → Prop} {s : Sl} {γ : VSt} : (edI G).rt s γ = ioD γ fun e => rtN (fun d => G d e) s := rfl
theorem edI_nx {G : D → D → Prop} {γ : VSt} : (edI G).nx γ = ioD γ fun e => G .none e := rfl
theorem ioD_c {e : D} {sl tm : List Sl} {n : Int} {f : D → Prop} : ioD ⟨.io e :: sl, tm, n⟩ f = f e := rfl
theorem giv_ow {d : D} : giv (.ow true d) = some d := rfl
theorem giv_fz {d : D} : giv (.fz d) = if nolist d = true then some d else none := rfl
theorem giv_own {d : D} : giv (own d) = some d := by
  unfold own
  cases h : nolist d with
  | true => rw [if_pos rfl]; show (if nolist d = true then some d else none) = _; rw [h]; rfl
  | false => rw [if_neg (by simp)]; rfl
theorem nolists_app : ∀ (a b : List D), nolists (a ++ b) = (nolists a && nolists b)
  | [], b => by simp [nolists]
  | d :: a, b => by simp [nolists, nolists_app a b, Bool.and_assoc]
/-! ### written data -/
def kLit (d : D) : KE := fun γ q => q ⟨γ.sl, own d :: γ.tm, γ.n⟩
def kLits (ds : List D) : KE := fun γ q => q ⟨γ.sl, (ds.map own).reverse ++ γ.tm, γ.n⟩
theorem so_lit_c {v : V} {d : D} (h : Sca v d) (hn : nolist d = true) : SoE xc (tC v) (kLit d) := fun γ Θ σ H Q q R hk w => by
  unfold kLit at hk
  have e : own d = .fz d := if_pos hn
  rw [e] at hk
  exact w _ v H hk (R.push fun Z => h H Z)
theorem so_lits_nil : SoA xc 0 tNil (kLits []) := fun γ Θ σ H Q q R hk w => w γ [] H rfl hk R
theorem so_lits_cons {ts : TA} {d : D} {ds : List D} (h : SoE xc t (kLit d)) (hs : SoA xc n ts (kLits ds)) : SoA xc (n + 1) (tCons t ts) (kLits (d :: ds)) := fun γ Θ σ H Q q R hk w => by
  refine so_cons h hs γ Θ σ H Q q R ?_ w
  show q ⟨γ.sl, (ds.map own).reverse ++ own d :: γ.tm, γ.n⟩
  have e : (((d :: ds).map own).reverse ++ γ.tm : List Sl) = (ds.map own).reverse ++ own d :: γ.tm := by simp
  rw [← e]
  exact hk
theorem popC_own (ds : List D) (tm : List Sl) : popC ds.length ((ds.map own).reverse ++ tm) = some ((true, ds), tm) := by
  have main : ∀ (es : List D), popC es.length ((es.map own) ++ tm) = some ((true, es.reverse), tm) := by
    intro es
    induction es with
    | nil => rfl
    | cons e es ih =>
      show popC (es.length + 1) (own e :: (es.map own ++ tm)) = _
      simp only [popC, con_own, Option.bind_some, ih]
      simp
  have := main ds.reverse
  rw [List.length_reverse, List.map_reverse, List.reverse_reverse] at this
  exact this
theorem so_lit_lst {ts : TA} {ds : List D} (h : SoA xc ds.length ts (kLits ds)) (hn : ds.length ≤ 10000000 := by decide) : SoE xc (tLst ts) (kLit (.list ds)) := fun γ Θ σ H Q q R hk w => by
  refine so_lst h hn γ Θ σ H Q q R ?_ w
  show (popC ds.length ((ds.map own).reverse ++ γ.tm)).elim False _
  rw [popC_own]
  exact hk
theorem so_lit_tup {ts : TA} {ds : List D} (h : SoA xc ds.length ts (kLits ds)) (hn : ds.length ≤ 10000000 := by decide) : SoE xc (tTup ts) (kLit (.tuple ds)) := fun γ Θ σ H Q q R hk w => by
  refine so_tup h hn γ Θ σ H Q q R ?_ w
  show (popC ds.length ((ds.map own).reverse ++ γ.tm)).elim False _
  rw [popC_own]
  exact hk
end
end G
/-! GR: dicts in names, their values frozen. -/
namespace G
open PySem PySem.Spec PyProof.Rows L2
variable {C : Cn} {xc : XC C}
section
variable {κ : Type} [DecidableEq κ]
def valM {α : Type} (m : List (κ × α)) (k : κ) : Option α := (m.find? fun kv => decide (kv.1 = k)).map (·.2)
def putM {α : Type} (m : List (κ × α)) (k : κ) (d : α) : List (κ × α) := if (m.any fun kv => decide (kv.1 = k)) = true then m.map (fun kv => if kv.1 = k then (kv.1, d) else kv) else m ++ [(k, d)]
variable {α : Type} {m : List (κ × α)} {k j : κ} {d : α}
theorem valM_nil : valM ([] : List (κ × α)) k = none := rfl
theorem valM_cons {p : κ × α} : valM (p :: m) k = if p.1 = k then some p.2 else valM m k := by
  unfold valM
  rw [List.find?_cons]
  by_cases h : p.1 = k
  · simp [h]
  · simp [h]
theorem any_valM : (m.any fun kv => decide (kv.1 = k)) = (valM m k).isSome := by
  induction m with
  | nil => rfl
  | cons p m ih =>
    rw [List.any_cons, ih, valM_cons]
    by_cases h : p.1 = k
    · simp [h]
    · simp [h]
theorem valM_app (h : valM m k = none) : valM (m ++ [(k, d)]) j = if k = j then some d else valM m j := by
  induction m with
  | nil => rw [List.nil_append, valM_cons]
  | cons p m ih =>
    rw [valM_cons] at h
    rw [List.cons_append, valM_cons, valM_cons]
    split at h
    · cases h
    · rename_i hp
      rw [ih h]
      by_cases hj : k = j
      · subst hj
        simp [hp]
      · simp [hj]
theorem valM_map : valM (m.map fun kv => if kv.1 = k then (kv.1, d) else kv) j = if k = j then (valM m j).map (fun _ => d) else valM m j := by
  induction m with
  | nil =>
    show none = _
    split <;> rfl
  | cons p m ih =>
    rw [List.map_cons, valM_cons, valM_cons, ih]
    by_cases hp : p.1 = k
    · by_cases hj : k = j
      · simp [hp, hj]
      · simp [hp, hj]
    · by_cases hj : k = j
      · subst hj
        simp [hp]
      · simp [hp, hj]
theorem valM_put : valM (putM m k d) j = if k = j then some d else valM m j := by
  unfold putM
  rw [any_valM]
  cases h : valM m k with
  | none => exact valM_app h
  | some x =>
    refine valM_map.trans ?_
    by_cases hj : k = j
    · subst hj
      simp [h]
    · simp [hj]
theorem putM_new (h : valM m k = none) : putM m k d = m ++ [(k, d)] := by
  unfold putM
  rw [any_valM, h]
  rfl
theorem putM_len : (putM m k d).length ≤ m.length + 1 := by
  unfold putM
  split
  · rw [List.length_map]; omega
  · rw [List.length_append]; exact Nat.le_refl _
theorem valM_none_mem : valM m k = none ↔ ∀ p ∈ m, p.1 ≠ k := by
  induction m with
  | nil => simp [valM_nil]
  | cons p m ih =>
    rw [valM_cons]
    by_cases hp : p.1 = k
    · simp [hp]
    · simp [hp, ih]
end
section
variable {κ : Type} [DecidableEq κ] {H : Hp} {Z : Reg} {kvs : List (κ × V)} {m : List (κ × D)} {k : κ} {v : V} {d : D}
theorem DVs.length (h : DVs H Z kvs m) : kvs.length = m.length := by
  induction h with
  | nil => rfl
  | cons _ _ ih => rw [List.length_cons, List.length_cons, ih]
theorem DVs.val (h : DVs H Z kvs m) (k : κ) : (valV kvs k = none ∧ valM m k = none) ∨ ∃ v d, valV kvs k = some v ∧ valM m k = some d ∧ Tr H Z [] v d := by
  induction h with
  | nil => exact .inl ⟨rfl, rfl⟩
  | @cons k' v d kvs m t _ ih =>
    by_cases hk : k' = k
    · exact .inr ⟨v, d, valV_pos hk, by rw [valM_cons, if_pos hk], t⟩
    · rw [valV_neg hk, valM_cons, if_neg hk]
      exact ih
theorem DVs.app (h : DVs H Z kvs m) (t : Tr H Z [] v d) : DVs H Z (kvs ++ [(k, v)]) (m ++ [(k, d)]) := by
  induction h with
  | nil => exact .cons t .nil
  | cons t' _ ih => exact .cons t' ih
theorem DVs.map (h : DVs H Z kvs m) (t : Tr H Z [] v d) : DVs H Z (kvs.map fun kv => if kv.1 = k then (kv.1, v) else kv) (m.map fun kv => if kv.1 = k then (kv.1, d) else kv) := by
  induction h with
  | nil => exact .nil
  | @cons k' v' d' kvs m t' _ ih =>
    rw [List.map_cons, List.map_cons]
    by_cases hk : k' = k
    · simp only [hk, if_true]
      exact .cons t ih
    · simp only [hk, if_false]
      exact .cons t' ih
theorem DVs.put (h : DVs H Z kvs m) (t : Tr H Z [] v d) : DVs H Z (putK kvs k v) (putM m k d) := by
  unfold putK putM
  rw [valV_any, any_valM]
  rcases h.val k with ⟨e1, e2⟩ | ⟨v', d', e1, e2, _⟩
  · rw [e1, e2]
    exact h.app t
  · rw [e1, e2]
    exact h.map t
end
/-! ### keys -/
def keyD : D → Option Key
  | .int i => some (.inl i)
  | .str x => some (.inr x)
  | _ => none
def keysD : List D → Option (List Key)
  | [] => some []
  | d :: ds => (keyD d).bind fun k => (keysD ds).map (k :: ·)
section
variable {H : Hp} {Z : Reg} {S : List Addr}
theorem key_of {v : V} {y : D} {k : Key} (t : Tr H Z S v y) (e : keyD y = some k) : v = kV k := by
  cases t with
  | int i => cases e; rfl
  | str x => cases e; rfl
  | non => cases e
  | bl b => cases e
  | lst h t => cases e
  | lstZ z h t => cases e
  | tup h t => cases e
theorem keys_of : ∀ {ys : List D} {vs : List V} {S : List Addr} {ks : List Key}, Trs H Z S vs ys → keysD ys = some ks → vs = ks.map kV
  | [], _, _, ks, h, e => by
    cases h
    cases e
    rfl
  | y :: ys, _, _, ks, h, e => by
    cases h with
    | cons t ts =>
      unfold keysD at e
      cases h1 : keyD y with
      | none => rw [h1] at e; cases e
      | some k =>
        rw [h1] at e
        cases h2 : keysD ys with
        | none => rw [h2] at e; cases e
        | some ks' =>
          rw [h2] at e
          cases e
          rw [List.map_cons, key_of t h1, keys_of ts h2]
end
/-- what a dict says of a key -/
def dgS (s : Sl) (y : D) : Option (Option D) := match s with
  | .dc m => (keyD y).map fun k => valM m k
  | .dt m => match y with
    | .tuple ys => (keysD ys).map fun ks => valM m ks
    | _ => none
  | _ => none
/-- the dict behind d[y] = d -/
def dpS (s : Sl) (y d : D) : Option Sl := match s with
  | .dc m => (keyD y).map fun k => .dc (putM m k d)
  | .dt m => match y with
    | .tuple ys => (keysD ys).map fun ks => .dt (putM m ks d)
    | _ => none
  | _ => none
def dlS : Sl → Nat
  | .dc m => m.length
  | .dt m => m.length
  | _ => 0
def isDc : Option Sl → Prop
  | some (.dc _) => True
  | some (.dt _) => True
  | _ => False
section
variable {C : Cn} {Z : Reg} {S1 S2 : List Addr} {γ : VSt} {Θ : List V} {σ : L2.St} {H H' : Hp} {sl tm : List Sl} {n n' : Int} {v : V} {s : Sl} {y d : D} {i : Nat}
theorem Rel.isDc (R : Rel C γ Θ σ H) (h : isDc γ.sl[i]?) : ∃ a, σ[i]? = some (some (.ref a)) := by
  obtain ⟨Z, S1, S2, X⟩ := R
  cases e : γ.sl[i]? with
  | none => rw [e] at h; exact h.elim
  | some s =>
    rw [e] at h
    obtain ⟨v, T, R, ev, en, _⟩ := X.es.at e
    cases en with
    | dc e t => exact ⟨_, ev⟩
    | dt e t => exact ⟨_, ev⟩
    | _ => exact h.elim
theorem Rel.dget {r : Option D} (R : Rel C ⟨sl, .fz y :: tm, n⟩ (v :: Θ) σ H) (e : sl[i]? = some s) (h : dgS s y = some r) : ∃ a o, σ[i]? = some (some (.ref a)) ∧ DGet H a v o ∧ o.isSome = r.isSome ∧ Rel C ⟨sl, tm, n⟩ Θ σ H ∧ ∀ d, r = some d → ∃ u, o = some u ∧ Rel C ⟨sl, .fz d :: tm, n⟩ (u :: Θ) σ H := by
  have R0 := R.pop
  obtain ⟨Z, S1, S2, X⟩ := R
  have et := X.et
  dsimp only at et
  obtain ⟨T, t⟩ : ∃ T, Tr H Z T v y := by
    cases et with
    | cons e1 e2 =>
      cases e1 with
      | fz t => exact ⟨_, t⟩
  obtain ⟨Z2, A1, A2, X2⟩ := R0
  obtain ⟨w, T2, Rr, ev, en, _⟩ := X2.es.at e
  have fin : ∀ {o : Option V}, ((o = none ∧ r = none) ∨ ∃ u d, o = some u ∧ r = some d ∧ Tr H Z2 [] u d) → o.isSome = r.isSome ∧ Rel C ⟨sl, tm, n⟩ Θ σ H ∧ ∀ d, r = some d → ∃ u, o = some u ∧ Rel C ⟨sl, .fz d :: tm, n⟩ (u :: Θ) σ H := fun {o} q => by
    refine ⟨?_, ⟨_, _, _, X2⟩, fun d ed => ?_⟩
    · rcases q with ⟨rfl, rfl⟩ | ⟨u, d, rfl, rfl, _⟩ <;> rfl
    · rcases q with ⟨rfl, rfl⟩ | ⟨u, d', rfl, rfl, t⟩
      · cases ed
      · cases ed
        exact ⟨u, rfl, Z2, _, _, X2.pushE (Z' := Z2) (.fz t) List.nodup_nil (fun a m => nomatch m) (fun i π z => nomatch z)⟩
  cases en with
  | @dc a kvs m ha dv =>
    cases hk : keyD y with
    | none => simp only [dgS, hk] at h; cases h
    | some k =>
      simp only [dgS, hk, Option.map_some, Option.some.injEq] at h
      subst h
      have ek := key_of t hk
      subst ek
      exact ⟨a, valV kvs k, ev, .inl ⟨kvs, k, .inl ha, rfl, rfl⟩, fin (dv.val k)⟩
  | @dt a kvs m ha dv =>
    cases t with
    | @tup b vs _ ys hb ts =>
      cases hk : keysD ys with
      | none => simp only [dgS, hk] at h; cases h
      | some ks =>
        simp only [dgS, hk, Option.map_some, Option.some.injEq] at h
        subst h
        have ek := keys_of ts hk
        subst ek
        exact ⟨a, valV kvs ks, ev, .inr ⟨kvs, ks, b, .inl ha, rfl, hb, rfl⟩, fin (dv.val ks)⟩
    | _ => cases h
  | _ => cases h
/-- a dict is written -/
theorem RelX.dcSet {a : Addr} {o o' : HO} (X : RelX C Z S1 S2 ⟨sl, tm, n⟩ Θ σ H) (e : sl[i]? = some s) (ev : σ[i]? = some (some (.ref a))) (en : ∀ T, Ent C Z H T (some (.ref a)) s → T = [a]) (ha : H a = some o) (no : ∀ vs, o ≠ .tup vs ∧ o ≠ .lst vs) (nd : datS s = none) (s' : Sl)
    (en' : Ent C Z (upd H a o') [a] (some (.ref a)) s') : Rel C ⟨sl.set i s', tm, n⟩ Θ σ (upd H a o') := by
  obtain ⟨v, T, Rr, ev2, en1, pm, k⟩ := X.es.at e
  have ev3 : v = some (.ref a) := by rw [ev] at ev2; cases ev2; rfl
  subst ev3
  have eT := en _ en1
  subst eT
  have ndS := (List.nodup_append.mp X.nd).1
  have aS : a ∈ S1 := pm.mem_iff.mpr (by simp)
  have kne : ∀ x, x ≠ a → ∀ o, H x = some o → upd H a o' x = some o := fun x hx o e => by rw [upd_ne hx]; exact e
  have kt : ∀ t vs, H t = some (.tup vs) → upd H a o' t = some (.tup vs) := fun t vs et => kne t (fun z => by subst z; rw [ha] at et; cases et; exact (no _).1 rfl) _ et
  have zne : ∀ x, C.tz Z x → x ≠ a := fun x z q => X.nz a (List.mem_append_left _ aS) (q ▸ z)
  have kz0 : ∀ x, C.tz Z x → ∀ o, H x = some o → upd H a o' x = some o := fun x z => kne x (zne x z)
  have kz : ∀ x, Z x → ∀ o, H x = some o → upd H a o' x = some o := fun x z => kz0 x (.inl z)
  have rne : ∀ x ∈ Rr, x ≠ a := fun x m q => by
    have := pm.nodup_iff.mp ndS
    subst q
    exact (List.nodup_append.mp this).2.2 x (by simp) x m rfl
  have s2ne : ∀ x ∈ S2, x ≠ a := fun x m q => (List.nodup_append.mp X.nd).2.2 a aS x m q.symm
  obtain ⟨S', es', pm'⟩ := k (upd H a o') Z [a] (some (.ref a)) s' kt (fun _ z => z) kz (fun x m => kne x (rne x m)) en'
  have eσ : σ.set i (some (.ref a)) = σ := by
    refine List.ext_getElem? fun j => ?_
    by_cases hj : i = j
    · subst hj
      rw [List.getElem?_set_self (List.getElem?_eq_some_iff.mp ev).1, ev]
    · rw [List.getElem?_set_ne hj]
  rw [eσ] at es'
  have pmS : (S' ++ S2).Perm (S1 ++ S2) := List.Perm.append_right S2 (pm'.trans pm.symm)
  refine ⟨Z, S', S2, fun x ox ex mx => ⟨(X.fr x ox ex mx).1, kz0 x (X.fr x ox ex mx).1 _ (X.fr x ox ex mx).2⟩, es', X.et.mono kt (fun _ z => z) kz (fun x m => kne x (s2ne x m)), pmS.nodup_iff.mpr X.nd, fun x m => X.nz x (pmS.mem_iff.mp m), fun p b q => ⟨?_, (X.pu p b q).2.1, fun m => (X.pu p b q).2.2 (pmS.mem_iff.mp m)⟩, fun x z => ?_, X.dj, fun j i' π v e' ev' => ?_⟩
  · exact (X.pu p b q).1.mono (kne p fun z => (X.pu p b q).2.2 (by rw [z]; exact List.mem_append_left _ aS))
  · obtain ⟨ox, ex⟩ := X.ex x z
    exact ⟨ox, kz0 x z _ ex⟩
  · obtain ⟨s0, d', e1, w', g1, g2, g3, g4, wk⟩ := X.al j i' π v e' ev'
    have hj : i ≠ i' := fun z => by
      subst z
      rw [show (⟨sl, tm, n⟩ : VSt).sl = sl from rfl, e] at g1
      cases g1
      rw [nd] at g2
      cases g2
    refine ⟨s0, d', e1, w', (List.getElem?_set_ne hj).trans g1, g2, g3, g4, ?_⟩
    obtain ⟨v0, T0, R0, ev0, en0, pm0, k0⟩ := X.es.at g1
    obtain ⟨w2, Tw, rfl, t0, sbw⟩ := en0.tr g2
    rw [show (⟨sl, tm, n⟩ : VSt).sl = sl from rfl] at g1
    have : w2 = w' := by rw [g4] at ev0; cases ev0; rfl
    subst this
    refine (Tr.part t0 g3 wk).2 _ kt fun x q => kne x ?_
    rcases q with q | q
    · exact zne x (.inl q)
    · intro hx
      subst hx
      obtain ⟨ys, q2⟩ := Tr.dom _ _ _ t0 x q
      rw [ha] at q2
      cases q2
      exact (no _).2 rfl
theorem Rel.dput {u : V} {Θ : List V} {s' : Sl} (R : Rel C ⟨sl, .fz y :: .fz d :: tm, n⟩ (v :: u :: Θ) σ H) (e : sl[i]? = some s) (h : dpS s y d = some s') (hl : dlS s < 10000000) : ∃ a H', σ[i]? = some (some (.ref a)) ∧ DPut H a v u H' ∧ Rel C ⟨sl.set i s', tm, n⟩ Θ σ H' := by
  obtain ⟨Z0, A1, A2, X0⟩ := R
  have et0 := X0.et
  dsimp only at et0
  obtain ⟨T0, t⟩ : ∃ T, Tr H Z0 T v y := by
    cases et0 with
    | cons e1 e2 =>
      cases e1 with
      | fz t => exact ⟨_, t⟩
  have R1 := (Rel.pop ⟨Z0, A1, A2, X0⟩ : Rel C ⟨sl, .fz d :: tm, n⟩ (u :: Θ) σ H)
  obtain ⟨Z, B1, B2, X1⟩ := R1
  obtain ⟨fr, es, et, nd, nz, pu, ex, dj, al⟩ := X1
  dsimp only at es et al pu
  cases et with
  | @cons S T _ _ _ _ e1 e2 =>
    cases e1 with
    | fz tu =>
      have X2 : RelX C Z B1 T ⟨sl, tm, n⟩ Θ σ H := ⟨fr, es, e2, by simpa using nd, fun a m => nz a (by simpa using m), fun p b q => ⟨(pu p b q).1, (pu p b q).2.1, fun m => (pu p b q).2.2 (by simpa using m)⟩, ex, dj, fun k j π u e ev => al (k + 1) j π u (by simpa using e) (by simpa using ev)⟩
      obtain ⟨w, T2, Rr, ev, en, pm, _⟩ := es.at e
      cases en with
      | @dc a kvs m ha dv =>
        cases hk : keyD y with
        | none => simp only [dpS, hk] at h; cases h
        | some k =>
          simp only [dpS, hk, Option.map_some, Option.some.injEq] at h
          subst h
          have ek := key_of t hk
          subst ek
          have hlen : kvs.length < sizeLine := by rw [dv.length]; exact szlt (Nat.le_of_lt hl)
          have aS : a ∈ B1 := pm.mem_iff.mpr (by simp)
          have kt : ∀ t vs, H t = some (.tup vs) → upd H a (.dK (putK kvs k u)) t = some (.tup vs) := fun t vs et => by
            rw [upd_ne (show t ≠ a from fun z => by subst z; rw [ha] at et; cases et)]
            exact et
          have kz : ∀ x, Z x → ∀ o, H x = some o → upd H a (.dK (putK kvs k u)) x = some o := fun x z o e => by
            rw [upd_ne (show x ≠ a from fun q => X2.nz a (List.mem_append_left _ aS) (.inl (q ▸ z)))]
            exact e
          exact ⟨a, _, ev, .inl ⟨kvs, k, ha, rfl, hlen, rfl⟩, X2.dcSet e ev (fun T q => by cases q; rfl) ha (fun vs => ⟨(fun z => nomatch z), (fun z => nomatch z)⟩) rfl _ (.dc upd_same ((dv.put tu).mono kt (fun _ z => z) kz))⟩
      | @dt a kvs m ha dv =>
        cases t with
        | @tup b vs _ ys hb ts =>
          cases hk : keysD ys with
          | none => simp only [dpS, hk] at h; cases h
          | some ks =>
            simp only [dpS, hk, Option.map_some, Option.some.injEq] at h
            subst h
            have ek := keys_of ts hk
            subst ek
            have hlen : kvs.length < sizeLine := by rw [dv.length]; exact szlt (Nat.le_of_lt hl)
            have aS : a ∈ B1 := pm.mem_iff.mpr (by simp)
            have kt : ∀ t vs, H t = some (.tup vs) → upd H a (.dT (putK kvs ks u)) t = some (.tup vs) := fun t vs et => by
              rw [upd_ne (show t ≠ a from fun z => by subst z; rw [ha] at et; cases et)]
              exact et
            have kz : ∀ x, Z x → ∀ o, H x = some o → upd H a (.dT (putK kvs ks u)) x = some o := fun x z o e => by
              rw [upd_ne (show x ≠ a from fun q => X2.nz a (List.mem_append_left _ aS) (.inl (q ▸ z)))]
              exact e
            exact ⟨a, _, ev, .inr ⟨kvs, ks, b, ha, rfl, hb, hlen, rfl⟩, X2.dcSet e ev (fun T q => by cases q; rfl) ha (fun vs => ⟨(fun z => nomatch z), (fun z => nomatch z)⟩) rfl _ (.dt upd_same ((dv.put tu).mono kt (fun _ z => z) kz))⟩
        | _ => cases h
      | _ => cases h
theorem Rel.dnew {p : Addr} {o : HO} (R : Rel C ⟨sl, tm, n⟩ Θ σ H) (hp : H p = none) (en : ∀ Z, Ent C Z (upd H p o) [p] (some (.ref p)) s) (na : ∀ i π, s ≠ .al i π) : Rel C ⟨sl, s :: tm, n⟩ (.ref p :: Θ) σ (upd H p o) := by
  have np : ∀ a, (∃ o, H a = some o) → a ≠ p := fun a ⟨o, e⟩ z => by rw [z, hp] at e; cases e
  obtain ⟨Z, S1, S2, X⟩ := R
  have sm := same_upd (o := o) hp
  have h1 : RelX C Z S1 S2 ⟨sl, tm, n⟩ Θ σ (upd H p o) := by
    refine ⟨fun a o e m => ⟨(X.fr a o e m).1, sm a o (X.fr a o e m).2⟩, X.es.mono (fun t vs e => sm t _ e) (fun _ z => z) (fun a _ o e => sm a o e) (fun a _ o e => sm a o e), X.et.mono (fun t vs e => sm t _ e) (fun _ z => z) (fun a _ o e => sm a o e) (fun a _ o e => sm a o e), X.nd, X.nz, fun q b e => ⟨(X.pu q b e).1.mono (sm q), (X.pu q b e).2⟩, fun a z => ?_, X.dj, fun k j π u e ev => ?_⟩
    · obtain ⟨o, e⟩ := X.ex a z
      exact ⟨o, sm a o e⟩
    · obtain ⟨s, d', e', w, g1, g2, g3, g4, wk⟩ := X.al k j π u e ev
      obtain ⟨w', T', ew, t, sub⟩ := X.slot g1 g2
      rw [g4] at ew
      cases ew
      exact ⟨s, d', e', w, g1, g2, g3, g4, (Tr.part t g3 wk).2 _ (fun t vs e => sm t _ e) fun a _ o e => sm a o e⟩
  refine ⟨Z, S1, _, h1.pushE (Z' := Z) (en Z) (by simp) (fun a m => ?_) na⟩
  cases List.mem_singleton.mp m
  refine ⟨fun q => ?_, fun z => np _ (X.ex _ z) rfl, fun q b e z => ?_⟩
  · rcases List.mem_append.mp q with q | q
    · exact np _ (X.es.dom _ q) rfl
    · exact np _ (X.et.dom _ q) rfl
  · obtain ⟨x, y, w, e2, _⟩ := (X.pu q b e).1
    exact np _ ⟨_, e2⟩ z.symm
end
section
variable {t ta tb : TE} {k ka kb : KE}
def kDNew : KE := fun γ q => q ⟨γ.sl, .dc [] :: γ.tm, γ.n⟩
def kDNewT : KE := fun γ q => q ⟨γ.sl, .dt [] :: γ.tm, γ.n⟩
theorem so_dnew : SoE xc tDNewK kDNew := fun γ Θ σ H Q q R hk w => fun p hp => w _ _ _ hk (R.dnew hp (fun Z => .dc upd_same .nil) fun i π z => nomatch z)
theorem so_dnewT : SoE xc tDNewT kDNewT := fun γ Θ σ H Q q R hk w => fun p hp => w _ _ _ hk (R.dnew hp (fun Z => .dt upd_same .nil) fun i π z => nomatch z)
theorem okS_dc {m : List (Key × D)} : okS (.dc m) = true := rfl
theorem okS_dt {m : List (List Key × D)} : okS (.dt m) = true := rfl
theorem noAl_dc {i : Nat} {m : List (Key × D)} {tm : List Sl} : noAl i (.dc m :: tm) = noAl i tm := by simp [noAl]
theorem noAl_dt {i : Nat} {m : List (List Key × D)} {tm : List Sl} : noAl i (.dt m :: tm) = noAl i tm := by simp [noAl]
def topK (γ : VSt) (q : D → VSt → Prop) : Prop := match γ.tm with
  | .fz y :: tm => q y ⟨γ.sl, tm, γ.n⟩
  | _ => False
/-- d[y] -/
def kDGet (i : Nat) (ky : KE) : KE := fun γ q => isDc γ.sl[i]? ∧ ky γ fun γ1 => topK γ1 fun y γ2 => (γ2.sl[i]?).elim False fun s => (dgS s y).elim False fun r => ∃ d, r = some d ∧ q ⟨γ2.sl, .fz d :: γ2.tm, γ2.n⟩
theorem so_dget {i : Nat} (h : SoE xc t k) : SoE xc (tDGet (tVar i) t) (kDGet i k) := fun γ Θ σ H Q q R hk w => by
  obtain ⟨hd, hk⟩ := hk
  obtain ⟨a, ea⟩ := R.isDc hd
  refine ⟨_, ea, h γ Θ σ H _ _ R hk fun γ1 v H1 hk1 R1 => ?_⟩
  obtain ⟨sl, tm, n⟩ := γ1
  unfold topK at hk1
  dsimp only at hk1
  split at hk1
  · rename_i y tm
    obtain ⟨s, es, hk2⟩ := elimF hk1
    obtain ⟨r, ed, d, er, hq⟩ := elimF hk2
    obtain ⟨a', o, e1, g, _, _, up⟩ := R1.dget es ed
    obtain ⟨u, rfl, R2⟩ := up d er
    rw [ea] at e1
    cases e1
    exact ⟨a, u, rfl, g, w _ _ _ hq R2⟩
  · exact hk1.elim
/-- y in d -/
def kDIn (neg : Bool) (ky : KE) (i : Nat) : KE := fun γ q => ky γ fun γ1 => topK γ1 fun y γ2 => (γ2.sl[i]?).elim False fun s => (dgS s y).elim False fun r => q ⟨γ2.sl, .fz (.bool (neg != r.isSome)) :: γ2.tm, γ2.n⟩
theorem din_core {C : Cn} {γ1 : VSt} {v : V} {Θ : List V} {σ : L2.St} {H1 : Hp} {i : Nat} {neg : Bool} {q : VSt → Prop} (R1 : Rel C γ1 (v :: Θ) σ H1) (hk1 : topK γ1 fun y γ2 => (γ2.sl[i]?).elim False fun s => (dgS s y).elim False fun r => q ⟨γ2.sl, .fz (.bool (neg != r.isSome)) :: γ2.tm, γ2.n⟩) :
    ∃ a o γ2, σ[i]? = some (some (.ref a)) ∧ DGet H1 a v o ∧ q γ2 ∧ Rel C γ2 (.bl (neg != o.isSome) :: Θ) σ H1 := by
  obtain ⟨sl, tm, n⟩ := γ1
  unfold topK at hk1
  dsimp only at hk1
  split at hk1
  · rename_i y tm
    obtain ⟨s, es, hk2⟩ := elimF hk1
    obtain ⟨r, er, hq⟩ := elimF hk2
    obtain ⟨a, o, e1, g, eo, R2, _⟩ := R1.dget es er
    rw [← eo] at hq
    exact ⟨a, o, _, e1, g, hq, R2.push fun Z => .bl _⟩
  · exact hk1.elim
theorem so_din {i : Nat} (h : SoE xc t k) : SoE xc (tDIn t (tVar i)) (kDIn false k i) := fun γ Θ σ H Q q R hk w => h γ Θ σ H _ _ R hk fun γ1 v H1 hk1 R1 => by
  obtain ⟨a, o, γ2, e1, g, hq, R2⟩ := din_core R1 hk1
  refine ⟨_, e1, a, o, rfl, g, w _ _ _ hq ?_⟩
  simpa using R2
theorem so_dnotin {i : Nat} (h : SoE xc t k) : SoE xc (tDNotIn t (tVar i)) (kDIn true k i) := fun γ Θ σ H Q q R hk w => h γ Θ σ H _ _ R hk fun γ1 v H1 hk1 R1 => by
  obtain ⟨a, o, γ2, e1, g, hq, R2⟩ := din_core R1 hk1
  refine ⟨_, e1, a, o, rfl, g, w _ _ _ hq ?_⟩
  have : (true != o.isSome) = !o.isSome := by cases o <;> rfl
  rw [← this]
  exact R2
/-- d[y] = v -/
def kDPut (i : Nat) (kv ky : KE) : KS := fun γ e => kv γ fun γ1 => match γ1.tm with
  | .fz d :: _ => isDc γ1.sl[i]? ∧ ky γ1 fun γ2 => match γ2.tm with
    | .fz y :: .fz d :: tm => (γ2.sl[i]?).elim False fun s => (dpS s y d).elim False fun s' => dlS s < 10000000 ∧ e.nx ⟨γ2.sl.set i s', tm, γ2.n⟩
    | _ => False
  | _ => False
theorem so_dput {i : Nat} (hv : SoE xc ta ka) (hy : SoE xc tb kb) : SoS xc (sDPut (tVar i) tb ta) (kDPut i ka kb) := fun γ Θ σ H De e R hk w => hv γ Θ σ H _ _ R hk fun γ1 u H1 hk1 R1 => by
  obtain ⟨sl, tm, n⟩ := γ1
  dsimp only at hk1
  split at hk1
  · obtain ⟨hd, hk1⟩ := hk1
    obtain ⟨a, ea⟩ := R1.isDc hd
    refine ⟨_, ea, hy _ _ σ H1 _ _ R1 hk1 fun γ2 v H2 hk2 R2 => ?_⟩
    obtain ⟨sl, tm, n⟩ := γ2
    dsimp only at hk2
    split at hk2
    · rename_i y d tm
      obtain ⟨s, es, hk3⟩ := elimF hk2
      obtain ⟨s', es', hl, hq⟩ := elimF hk3
      obtain ⟨a', H3, e1, dp, R3⟩ := R2.dput es es' hl
      rw [ea] at e1
      cases e1
      exact ⟨a, H3, rfl, dp, w.nx _ _ _ hq R3⟩
    · exact hk2.elim
  · exact hk1.elim
/-- a, b, c = x, y, z -/
def kPar3 (i j l : Nat) (ka : KE) : KS := fun γ e => ka γ fun γ1 => match γ1.tm with
  | s3 :: s2 :: s1 :: tm => (okS s3 = true ∧ okS s2 = true ∧ okS s1 = true ∧ noAl i tm = true ∧ noAl j tm = true ∧ noAl l tm = true) ∧ e.nx ⟨((γ1.sl.set i s1).set j s2).set l s3, tm, γ1.n⟩
  | _ => False
theorem noAl_ok {s : Sl} {tm : List Sl} {i : Nat} (h : okS s = true) (na : noAl i tm = true) : noAl i (s :: tm) = true := by
  unfold noAl at na ⊢
  rw [List.all_cons, na, Bool.and_true]
  cases s <;> first | rfl | cases h
theorem so_par3 {i j l : Nat} {ts : TA} (hij : i ≠ j) (hil : i ≠ l) (hjl : j ≠ l) (a : SoA xc 3 ts ka) : SoS xc (tPar3 i j l ts) (kPar3 i j l ka) := fun γ Θ σ H De e R hk w => a γ Θ σ H _ _ R hk fun γ1 vs H1 el hk1 R1 => by
  obtain ⟨sl, tm, n⟩ := γ1
  dsimp only at hk1
  match vs, el with
  | [v, u, x], _ =>
    split at hk1
    · rename_i s3 s2 s1 tm
      obtain ⟨⟨q1, q2, q3, q4, q5, q6⟩, hq⟩ := hk1
      have R2 : Rel C ⟨sl, s3 :: s2 :: s1 :: tm, n⟩ (x :: u :: v :: Θ) σ H1 := R1
      have R3 := ((R2.set (i := l) (okS_ne q1) (noAl_ok q2 (noAl_ok q3 q6))).set (i := j) (okS_ne q2) (noAl_ok q3 q5)).set (i := i) (okS_ne q3) q4
      have e1 : ∀ {α : Type} (L : List α) (a b c : α), ((L.set l a).set j b).set i c = ((L.set i c).set j b).set l a := fun L a b c => by
        rw [List.set_comm _ _ (Ne.symm hjl), List.set_comm _ _ (Ne.symm hil), List.set_comm _ _ (Ne.symm hij)]
      rw [e1, e1] at R3
      exact ⟨v, u, x, rfl, w.nx _ _ _ hq R3⟩
    · exact hk1.elim
end
end G
/-! GS: a name that is given away in a display and read once more behind it. -/
namespace G
open PySem PySem.Spec PyProof.Rows L2
variable {C : Cn} {xc : XC C}
section
variable {C : Cn} {Z : Reg} {S1 S2 : List Addr} {Θ : List V} {σ : L2.St} {H : Hp} {sl tm : List Sl} {n : Int} {v : V} {d : D} {i j : Nat} {b : Bool}
theorem Rel.sink (R : Rel C ⟨sl, tm, n⟩ Θ σ H) (e : sl[i]? = some (.ow b d)) (ej : tm[j]? = some (.al i [])) (na : noAl i (tm.set j .jk) = true) : Rel C ⟨sl.set i .jk, tm.set j (.ow b d), n⟩ Θ σ H := by
  obtain ⟨Z, S1, S2, h⟩ := R
  have et := h.et
  have es := h.es
  dsimp only at et es
  obtain ⟨v, T, Rs, ev, en, pm, k⟩ := es.at e
  obtain ⟨u, T0, Rt, eu, en0, pm0, k0⟩ := et.at ej
  have eT0 : T0 = [] := by cases en0; rfl
  subst eT0
  rw [List.getElem?_map] at eu
  obtain ⟨u', eu', rfl⟩ := Option.map_eq_some_iff.mp eu
  obtain ⟨s, d', e', w, g1, g2, g3, g4, wk⟩ := h.al j i [] u' ej eu'
  have : w = u' := by cases wk; rfl
  subst this
  have ev2 : v = some w := by rw [g4] at ev; cases ev; rfl
  subst ev2
  obtain ⟨S1', es', pm'⟩ := k H Z [] (some w) .jk (fun _ _ h => h) (fun _ z => z) (fun _ _ _ h => h) (fun _ _ _ h => h) (.jk _)
  obtain ⟨S2', et', pm2⟩ := k0 H Z T (some w) (.ow b d) (fun _ _ h => h) (fun _ z => z) (fun _ _ _ h => h) (fun _ _ _ h => h) en
  have eσ : σ.set i (some w) = σ := by
    refine List.ext_getElem? fun l => ?_
    by_cases hl : i = l
    · subst hl
      rw [List.getElem?_set_self (List.getElem?_eq_some_iff.mp ev).1, ev]
    · rw [List.getElem?_set_ne hl]
  have eΘ : (Θ.map some).set j (some w) = Θ.map some := by
    refine List.ext_getElem? fun l => ?_
    by_cases hl : j = l
    · subst hl
      rw [List.getElem?_set_self (by rw [List.length_map]; exact (List.getElem?_eq_some_iff.mp eu').1), List.getElem?_map, eu']
      rfl
    · rw [List.getElem?_set_ne hl]
  rw [eσ] at es'
  rw [eΘ] at et'
  have q1 : S1'.Perm Rs := by simpa using pm'
  have q0 : S2.Perm Rt := by simpa using pm0
  have pmA : (S1' ++ S2').Perm (S1 ++ S2) := by
    have a1 : (S1' ++ S2').Perm (Rs ++ (T ++ Rt)) := q1.append pm2
    have a2 : (S1 ++ S2).Perm ((T ++ Rs) ++ Rt) := pm.append q0
    refine a1.trans (List.Perm.trans ?_ a2.symm)
    rw [← List.append_assoc]
    exact List.Perm.append_right Rt List.perm_append_comm
  refine ⟨Z, S1', S2', h.fr, es', et', pmA.nodup_iff.mpr h.nd, fun a m => h.nz a (pmA.mem_iff.mp m), fun p b q => ⟨(h.pu p b q).1, (h.pu p b q).2.1, fun m => (h.pu p b q).2.2 (pmA.mem_iff.mp m)⟩, h.ex, h.dj, fun l i' π x e1 e2 => ?_⟩
  dsimp only at e1
  by_cases hl : j = l
  · subst hl
    rw [List.getElem?_set_self (List.getElem?_eq_some_iff.mp ej).1] at e1
    cases e1
  · rw [List.getElem?_set_ne hl] at e1
    obtain ⟨s1, d1, f1, w1, k1, k2, k3, k4, wk1⟩ := h.al l i' π x e1 e2
    have hne : i ≠ i' := al_set na (k := l) (π := π) (by rw [List.getElem?_set_ne hl]; exact e1)
    exact ⟨s1, d1, f1, w1, (List.getElem?_set_ne hne).trans k1, k2, k3, k4, wk1⟩
end
section
variable {ts : TA} {ka : KE} {n : Nat}
/-- the name i, read at depth j of the stack, is given away there -/
def kSink (j i : Nat) (ka : KE) : KE := fun γ q => ka γ fun γ1 => match γ1.sl[i]? with
  | some (.ow b d) => γ1.tm[j]? = some (.al i []) ∧ noAl i (γ1.tm.set j .jk) = true ∧ q ⟨γ1.sl.set i .jk, γ1.tm.set j (.ow b d), γ1.n⟩
  | some (.fz d) => γ1.tm[j]? = some (.fz d) ∧ q γ1
  | _ => False
theorem so_sink {j i : Nat} (h : SoA xc n ts ka) : SoA xc n ts (kSink j i ka) := fun γ Θ σ H Q q R hk w => h γ Θ σ H _ _ R hk fun γ1 vs H1 el hk1 R1 => by
  obtain ⟨sl, tm, m⟩ := γ1
  dsimp only at hk1
  split at hk1
  · rename_i b d e
    exact w _ _ _ el hk1.2.2 (R1.sink e hk1.1 hk1.2.1)
  · exact w _ _ _ el hk1.2 R1
  · exact hk1.elim
end
end G
/-! GT: how many keys a dict has. -/
namespace G
open PySem PySem.Spec PyProof.Rows L2
variable {C : Cn} {xc : XC C}
/-- a dict's entries, whatever its keys are -/
def DSz (h : Heap) (a : Addr) (n : Nat) : Prop := ∃ o es ep, h.get? a = some o ∧ o.ExactDict ∧ o.data = .dict es ep ∧ es.size = n
section
variable {prog : Program} {w : World} {A : Around} {E : Value → Shared → Prop} {s : Shared} {a : Addr} {n : Nat}
theorem meets_lenD (a : Addr) (hd : (a == sysModules) = false) : MeetsIn prog w (Builtin.«dict.__len__» ⟨[.ref a], []⟩) fun _ R s => ∃ n, DSz s.heap a n ∧ R (.ok (.ret (.int n s.toks))) { s with toks := s.toks + 1 } :=
  .of_wp fun A R s ⟨n, ⟨o, es, ep, e1, _, e2, e3⟩, h⟩ => by
    show wpAny _ _ (dictSize a >>= fun _ => _) _ _ s
    unfold dictSize
    refine wpAny_bind (wpAny_bind ?_)
    refine wpAny_dictEntries e1 e2 ?_
    refine wpAny_pure ?_
    refine wpAny_bind ?_
    refine wpAny_pendingCount_other hd ?_
    refine wpAny_ret_mkInt ?_
    rw [Nat.add_zero, e3]
    exact h
theorem DSz.ty (m : DSz s.heap a n) : s.TypeIs (.ref a) "dict" :=
  let ⟨o, _, _, e1, e2, _⟩ := m
  ⟨o, e1, e2.1⟩
theorem body_lenD {Q : Value → Shared → Prop} (hd : (a == sysModules) = false) (m : DSz s.heap a n) (hn : (n : Int) < 2 ^ 63) (h : Q (.int n (s.toks + 1)) { s with toks := s.toks + 1 + 1 }) :
    wpAny (model prog w) A (Builtin.«len» ⟨[.ref a], []⟩) (fun f s' => ∃ r, f = .done (.ret r) ∧ Q r s') E s := by
  unfold Builtin.«len»
  refine wpAny_bind (m := oneArg "len" _) ?_
  refine wpAny_pure ?_
  refine wpAny_bind (m := callSpecial? (.ref a) (Str.ofString "__len__")) ?_
  refine wpAny_callSpecial?_slot (name := Str.ofString "__len__") m.ty PySem.F.slot_dict_len ?_
  refine call_meetsIn PySem.F.slot_dict_len m.ty PySem.F.entry_dict_len ?_ (meets_lenD a hd) ⟨n, m, ?_⟩
  · exact PySem.F.args_dict_len_1 _
  show wpAny _ _ _ _ _ { s with toks := s.toks + 1 }
  refine wpAny_bind ?_
  refine wpAny_holding (wpAny_pure ?_)
  refine wpAny_bind ?_
  refine wpAny_letGo ?_
  show wpAny _ _ (if (n : Int) < 0 then _ else _) _ _ _
  rw [if_neg (by omega)]
  show wpAny _ _ (if (n : Int) ≥ 2 ^ 63 then _ else _) _ _ _
  rw [if_neg (by omega)]
  refine wpAny_bind ?_
  refine wpAny_mkInt ?_
  exact wpAny_pure ⟨_, rfl, h⟩
end
theorem dsz_dk {X : Cx} {pins : List (Addr × Obj)} {σ : L2.St} {H : Hp} {s : Shared} {a : Addr} {kvs : List (Key × V)} (I : Inv X pins σ H s) (e : H a = some (.dK kvs)) : DSz s.heap a kvs.length ∧ kvs.length ≤ sizeLine ∧ (a == sysModules) = false := by
  obtain ⟨z, hd, vs, rel, o, es, ep, e1, e2, e3, _, hp, _⟩ := dk_of I.hok e
  refine ⟨⟨o, es, ep, e1, e2, e3, ?_⟩, z, hd⟩
  rw [rel.length, ← hp.length]
  simp
theorem dsz_dt {X : Cx} {pins : List (Addr × Obj)} {σ : L2.St} {H : Hp} {s : Shared} {a : Addr} {kvs : List (List Key × V)} (I : Inv X pins σ H s) (e : H a = some (.dT kvs)) : DSz s.heap a kvs.length ∧ kvs.length ≤ sizeLine ∧ (a == sysModules) = false := by
  obtain ⟨z, hd, xs, rel, o, es, ep, e1, e2, e3, he, _⟩ := dt_of I.hok e
  refine ⟨⟨o, es, ep, e1, e2, e3, ?_⟩, z, hd⟩
  rw [size_of_entries he]
  exact (Paired.length rel).symm
def rLenD : List V → Hp → VK → Prop := fun xs H Q => ∃ a n, xs = [.ref a] ∧ ((∃ kvs : List (Key × V), H a = some (.dK kvs) ∧ kvs.length = n) ∨ ∃ kvs : List (List Key × V), H a = some (.dT kvs) ∧ kvs.length = n) ∧ Q (.int n) H
theorem call_lenDT {X : Cx} : CallR X (.builtin "len") rLenD := by
  intro pins s σ H xs us Q I r h
  obtain ⟨a, n, rfl, hq, q⟩ := h
  obtain ⟨u, rfl, rx⟩ := vals1 r
  cases rx
  have hn := line63
  obtain ⟨dz, z, hd⟩ : DSz s.heap a n ∧ n ≤ sizeLine ∧ (a == sysModules) = false := by
    rcases hq with ⟨kvs, e, rfl⟩ | ⟨kvs, e, rfl⟩
    · exact dsz_dk I e
    · exact dsz_dt I e
  refine Calls.call_function_entry kind_len plain_len entry_len (args_len1 _) ?_
  refine body_lenD hd dz (by omega) ?_
  exact ⟨.int n, H, I.tok _, ⟨s.toks + 1, rfl⟩, q⟩
section
variable {C : Cn} {Z : Reg} {S1 S2 : List Addr} {γ : VSt} {Θ : List V} {σ : L2.St} {H : Hp} {i : Nat}
def kLenD (i : Nat) : KE := fun γ q => match γ.sl[i]? with
  | some (.dc m) => q ⟨γ.sl, .fz (.int m.length) :: γ.tm, γ.n⟩
  | some (.dt m) => q ⟨γ.sl, .fz (.int m.length) :: γ.tm, γ.n⟩
  | _ => False
theorem so_lenD {i : Nat} : SoE xc (tCB rLenD (tCons (tVar i) tNil)) (kLenD i) := fun γ Θ σ H Q q R hk w => by
  have R0 := R
  obtain ⟨Z, S1, S2, X⟩ := R
  unfold kLenD at hk
  cases e : γ.sl[i]? with
  | none => rw [e] at hk; exact hk.elim
  | some s =>
    rw [e] at hk
    obtain ⟨v, T, R, ev, en, _⟩ := X.es.at e
    cases en with
    | dc ha dv => exact ⟨_, ev, _, _, rfl, .inl ⟨_, ha, dv.length⟩, w _ _ _ hk (R0.push fun Z => .int _)⟩
    | dt ha dv => exact ⟨_, ev, _, _, rfl, .inr ⟨_, ha, dv.length⟩, w _ _ _ hk (R0.push fun Z => .int _)⟩
    | _ => exact hk.elim
end
end G
/-! GU: tuple(list). -/
namespace G
open PySem PySem.Spec PyProof.Rows L2
variable {C : Cn} {xc : XC C}
section
variable {C : Cn} {sl tm : List Sl} {n : Int} {v : V} {Θ : List V} {σ : L2.St} {H : Hp} {ds : List D}
/-- a whole list that is given away becomes a tuple -/
theorem Rel.tupO (R : Rel C ⟨sl, .ow true (.list ds) :: tm, n⟩ (v :: Θ) σ H) : ∃ a vs, v = .ref a ∧ H a = some (.lst vs) ∧ ∀ p, H p = none → Rel C ⟨sl, own (.tuple ds) :: tm, n⟩ (.ref p :: Θ) σ (upd H p (.tup vs)) := by
  have ⟨Z, S1, S2, X⟩ := R
  obtain ⟨A, B, es, r, f⟩ := RelX.popF (ss := [.ow true (.list ds)]) (us := [v]) X rfl
  cases es with
  | cons e1 e2 =>
    cases e2
    cases e1 with
    | ow t =>
      cases t with
      | @lst a vs S' _ ha ts =>
        refine ⟨a, vs, rfl, ha, fun p hp => ?_⟩
        have sm := same_upd (o := .tup vs) hp
        obtain ⟨Z', S1', S2', X'⟩ := R.same sm
        obtain ⟨A', B', es', r', f'⟩ := RelX.popF (ss := [.ow true (.list ds)]) (us := [.ref a]) X' rfl
        cases es' with
        | cons e1 e2 =>
          cases e2
          cases e1 with
          | ow t' =>
            cases t' with
            | @lst _ vs' S'' _ ha' ts' =>
              have := sm _ _ ha
              rw [ha'] at this
              cases this
              have en : Ent C Z' (upd H p (.tup vs)) S'' (some (.ref p)) (.ow true (.tuple ds)) := .ow (.tup upd_same ts')
              have R2 := r'.pushF f' (A' := S'') (Dr := [a]) (by simpa using (List.perm_append_comm (l₁ := [a]) (l₂ := S''))) en (fun i π z => nomatch z)
              unfold own
              cases hn : nolist (.tuple ds) with
              | false => exact ⟨_, _, _, R2⟩
              | true =>
                rw [nolist] at hn
                have q := Trs.nolist (Z' := Z') _ _ _ ts' hn
                exact ⟨_, _, _, r'.pushF f' (A' := []) (Dr := [a] ++ S'') (by simp) (.fz (.tup upd_same q.2)) (fun i π z => nomatch z)⟩
            | lstZ h0 _ _ => exact h0.elim
      | lstZ h0 _ _ => exact h0.elim
theorem Rel.tupS {Z : Reg} {S1 S2 : List Addr} {us : List V} {p : Addr} (h : RelX C Z S1 S2 ⟨sl, tm, n⟩ Θ σ H) (t : Trs H Z [] us ds) (hp : H p = none) : Rel C ⟨sl, .fz (.tuple ds) :: tm, n⟩ (.ref p :: Θ) σ (upd H p (.tup us)) := by
  have sm := same_upd (o := .tup us) hp
  have R1 : Rel C ⟨sl, .fz (.list []) :: tm, n⟩ (.ref p :: Θ) σ H → False → False := fun _ z => z
  have h1 : RelX C Z S1 S2 ⟨sl, tm, n⟩ Θ σ (upd H p (.tup us)) := by
    refine ⟨fun a o e m => ⟨(h.fr a o e m).1, sm a o (h.fr a o e m).2⟩, h.es.mono (fun t vs e => sm t _ e) (fun _ z => z) (fun a _ o e => sm a o e) (fun a _ o e => sm a o e), h.et.mono (fun t vs e => sm t _ e) (fun _ z => z) (fun a _ o e => sm a o e) (fun a _ o e => sm a o e), h.nd, h.nz, fun q b e => ⟨(h.pu q b e).1.mono (sm q), (h.pu q b e).2⟩, fun a z => ?_, h.dj, fun k j π u e ev => ?_⟩
    · obtain ⟨o, e⟩ := h.ex a z
      exact ⟨o, sm a o e⟩
    · obtain ⟨s, d', e', w, g1, g2, g3, g4, wk⟩ := h.al k j π u e ev
      obtain ⟨w', T', ew, t, sub⟩ := h.slot g1 g2
      rw [g4] at ew
      cases ew
      exact ⟨s, d', e', w, g1, g2, g3, g4, (Tr.part t g3 wk).2 _ (fun t vs e => sm t _ e) fun a _ o e => sm a o e⟩
  have t' : Trs (upd H p (.tup us)) Z [] us ds := Trs.mono (fun t vs e => sm t _ e) (fun _ z => z) (fun a _ o e => sm a o e) _ _ _ t fun a m => nomatch m
  exact ⟨_, _, _, h1.pushE (Z' := Z) (.fz (.tup upd_same t')) List.nodup_nil (fun a m => nomatch m) (fun i π z => nomatch z)⟩
end
section
variable {K : PySem.W.Frag} {ka : KE}
def kTupOf (ka : KE) : KE := fun γ q => ka γ fun γ1 => match γ1.tm with
  | .ow true (.list ds) :: tm => q ⟨γ1.sl, own (.tuple ds) :: tm, γ1.n⟩
  | s :: tm => (shr γ1.sl s true).elim False fun ds => q ⟨γ1.sl, .fz (.tuple ds) :: tm, γ1.n⟩
  | _ => False
theorem so_tupOf {ts : TA} (h : SoA xc 1 ts ka) : SoE xc (tCB (fun xs H Q => ∃ p ys, xs = [.ref p] ∧ ((SqL K H p ys ∧ ∀ l, H l = none → Q (.ref l) (upd H l (.tup ys))) ∨ (SqT K H p ys ∧ Q (.ref p) H))) ts) (kTupOf ka) := fun γ Θ σ H Q q R hk w => h γ Θ σ H _ _ R hk fun γ1 vs H1 el hk1 R1 => by
  match vs, el, R1 with
  | [v], _, R1 =>
    obtain ⟨sl, tm, j⟩ := γ1
    dsimp only at hk1
    split at hk1
    · rename_i ds tm
      obtain ⟨a, us, rfl, ha, k⟩ := Rel.tupO R1
      exact ⟨a, us, rfl, .inl ⟨SqL.of ha, fun p hp => w _ _ _ hk1 (k p hp)⟩⟩
    · rename_i s tm _
      obtain ⟨ds, e, hq⟩ := elimF hk1
      obtain ⟨a, us, Z, S1, S2, rfl, ha, X, ts⟩ := Rel.shr R1 (l := true) e
      exact ⟨a, us, rfl, .inl ⟨SqL.of ha, fun p hp => w _ _ _ hq (Rel.tupS X ts hp)⟩⟩
    · exact hk1.elim
theorem keysD_ints : ∀ ns : List Int, keysD (ns.map PyData.int) = some (ns.map Sum.inl)
  | [] => rfl
  | n :: ns => by
    rw [List.map_cons, keysD, keysD_ints ns]
    rfl
end
end G
/-! GW: in, not in and index over trees. -/
namespace G
open PySem PySem.Spec PyProof.Rows L2
variable {C : Cn} {xc : XC C}
abbrev tame (d : D) : Prop := SeqAt.shaped d = true ∧ d.depth ≤ 60
def rInD (K : PySem.W.Frag) (neg : Bool) : R2 := fun x y H Q => ∃ d es, Dp K H x d ∧ (Dp K H y (.list es) ∨ Dp K H y (.tuple es)) ∧ tame d ∧ PyData.canLayAll0 es = true ∧ Q (.bl (neg ^^ es.any fun e => PyData.eqv e d)) H
section
variable {X : Cx}
theorem room_tame {A : Around} {d : D} {n : Nat} (h : tame d) (hu : A.units + 64 < cLine) : A.units + 1 + min n d.depth < cLine := by
  have := Nat.min_le_right n d.depth
  have := h.2
  omega
theorem op_inD (hu : X.A.units + 64 < cLine) : OpR X (compareOp .In) (rInD X.K false) := by
  intro pins s σ H x y v u Q I rx ry h
  obtain ⟨d, es, hd, he, t, hl, q⟩ := h
  obtain ⟨as, r1⟩ := Dp.reads I d x v hd rx
  have fin : EP X pins σ Q (.bool (es.any fun e => PyData.eqv e d)) s := ⟨.bl _, H, I, rfl, by simpa using q⟩
  rcases he with he | he
  · obtain ⟨bs, r2⟩ := Dp.reads I _ y u he ry
    exact SeqAt.in_list_reads r2 r1 hl (SeqAt.canLay_of_shaped t.1) (room_tame t hu) fin
  · obtain ⟨bs, r2⟩ := Dp.reads I _ y u he ry
    exact SeqAt.in_tuple_reads r2 r1 hl (SeqAt.canLay_of_shaped t.1) (room_tame t hu) fin
theorem op_notInD (hu : X.A.units + 64 < cLine) : OpR X (compareOp .NotIn) (rInD X.K true) := by
  intro pins s σ H x y v u Q I rx ry h
  obtain ⟨d, es, hd, he, t, hl, q⟩ := h
  obtain ⟨as, r1⟩ := Dp.reads I d x v hd rx
  have fin : EP X pins σ Q (.bool (!es.any fun e => PyData.eqv e d)) s := ⟨.bl _, H, I, rfl, by simpa using q⟩
  rcases he with he | he
  · obtain ⟨bs, r2⟩ := Dp.reads I _ y u he ry
    exact SeqAt.notIn_list_reads r2 r1 hl (SeqAt.canLay_of_shaped t.1) (room_tame t hu) fin
  · obtain ⟨bs, r2⟩ := Dp.reads I _ y u he ry
    exact SeqAt.notIn_tuple_reads r2 r1 hl (SeqAt.canLay_of_shaped t.1) (room_tame t hu) fin
def rIndexD (K : PySem.W.Frag) : V → List V → Hp → VK → Prop := fun x xs H Q => ∃ (es : List D) (y : V) (d : D) (j : Nat), xs = [y] ∧ Dp K H x (.list es) ∧ Dp K H y d ∧ tame d ∧ PyData.canLayAll0 es = true ∧
  (∃ e, es[j]? = some e ∧ PyData.eqv e d = true) ∧ (∀ (m : Nat) (e : D), m < j → es[m]? = some e → PyData.eqv e d = false) ∧ j < 10000000 ∧ Q (.int (j : Nat)) H
theorem mt_indexD (hu : X.A.units + 64 < cLine) : MtR X "list.index" (rIndexD X.K) := by
  intro pins s σ H x xs v us Q I rx rxs h
  obtain ⟨es, y, d, j, rfl, hx, hy, t, hl, ⟨e, hj, he⟩, hno, hj2, q⟩ := h
  cases rxs with
  | cons ry rt =>
    rename_i uy ut
    cases rt
    obtain ⟨as, r1⟩ := Dp.reads I d y uy hy ry
    obtain ⟨bs, r2⟩ := Dp.reads I _ x v hx rx
    cases r2 with
    | @list a o its n _ bs' h1 h2 h3 h4 =>
      obtain ⟨cls, dd, data, sl⟩ := o
      simp only at h2 h3
      subst h2 h3
      have hm := SeqAt.readsAll_map es _ _ hl h4
      have at_ : ∀ m : Nat, ∀ hm2 : m < its.size, es[m]? = some (SeqAt.readOf s.heap its[m]) := fun m hm2 => by
        rw [← hm, List.getElem?_map, Array.getElem?_toList, Array.getElem?_eq_getElem hm2]
        rfl
      have hlen : es.length = its.size := by rw [← hm, List.length_map, Array.length_toList]
      have hjl : j < its.size := by
        have := (List.getElem?_eq_some_iff.mp hj).1
        omega
      refine call_meets PySem.F.slot_list_index ⟨_, h1, rfl⟩ PySem.F.entry_list_index ?_
        (SeqAt.list_indexAt a its n dd sl uy (fun z => PyData.eqv (SeqAt.readOf s.heap z) d) j hjl (by omega) ?_ fun m hm2 hmj => ?_) ⟨h1, fun z hz => SeqAt.items_eqAt h4 r1 hl (SeqAt.canLay_of_shaped t.1) (room_tame t hu) z hz, ?_⟩
      · exact PySem.F.args_list_index_2 _ _
      · have := at_ j hjl
        rw [hj] at this
        cases this
        exact he
      · exact hno m _ hmj (at_ m hm2)
      · exact ⟨.int (j : Nat), H, I.tok _, ⟨_, rfl⟩, q⟩
end
/-! ### values -/
def vInD (neg : Bool) : D → D → (D → Prop) → Prop := fun d1 d2 q => match d2 with
  | .list es => tame d1 ∧ PyData.canLayAll0 es = true ∧ q (.bool (neg ^^ es.any fun e => PyData.eqv e d1))
  | .tuple es => tame d1 ∧ PyData.canLayAll0 es = true ∧ q (.bool (neg ^^ es.any fun e => PyData.eqv e d1))
  | _ => False
theorem sr_inD {K : PySem.W.Frag} {neg : Bool} : SoR (rInD K neg) (vInD neg) := fun H v1 v2 T1 T2 d1 d2 Q q r1 r2 hf w => by
  unfold vInD at hf
  split at hf
  · exact ⟨d1, _, Rep.dp K _ _ _ r1, .inl (Rep.dp K _ _ _ r2), hf.1, hf.2.1, w _ _ (sca_bl _) hf.2.2⟩
  · exact ⟨d1, _, Rep.dp K _ _ _ r1, .inr (Rep.dp K _ _ _ r2), hf.1, hf.2.1, w _ _ (sca_bl _) hf.2.2⟩
  · exact hf.elim
def vIdxD : List D → (D → Prop) → Prop := fun ds q => match ds with
  | [.list es, d] => ∃ j : Nat, tame d ∧ PyData.canLayAll0 es = true ∧ (∃ e, es[j]? = some e ∧ PyData.eqv e d = true) ∧ (∀ (m : Nat) (e : D), m < j → es[m]? = some e → PyData.eqv e d = false) ∧ j < 10000000 ∧ q (.int (j : Nat))
  | _ => False
theorem sm_indexD {K : PySem.W.Frag} : SoM 1 (rIndexD K) vIdxD := fun H vs T ds Q q r el hf w => by
  unfold vIdxD at hf
  split at hf
  · obtain ⟨j, t, hl, h1, h2, h3, hg⟩ := hf
    obtain ⟨v, u, T1, T2, rfl, r1, r2⟩ := r.c2
    exact ⟨_, u, _, j, rfl, Rep.dp K _ _ _ r1, Rep.dp K _ _ _ r2, t, hl, h1, h2, h3, w _ _ (sca_int _) hg⟩
  · exact hf.elim
end G
/-! GX: how many unlike numbers a list has, by a set. -/
namespace G
open PySem PySem.Spec PyProof.Rows L2
variable {C : Cn} {xc : XC C}
theorem met_mem (val : Nat → Int) (i : Nat) (k : Int) : k ∈ firstMet val i ↔ k ∈ (List.range i).map val := by
  have := firstMet_any val i k
  constructor
  · intro h
    have e : ((List.range i).map val).any (· == k) = true := by
      rw [← this]
      exact List.any_eq_true.mpr ⟨k, h, by simp⟩
    obtain ⟨x, hx, hk⟩ := List.any_eq_true.mp e
    rw [← (by simpa using hk : x = k)]
    exact hx
  · intro h
    have e : (firstMet val i).any (· == k) = true := by
      rw [this]
      exact List.any_eq_true.mpr ⟨k, h, by simp⟩
    obtain ⟨x, hx, hk⟩ := List.any_eq_true.mp e
    rw [← (by simpa using hk : x = k)]
    exact hx
theorem met_nodup (val : Nat → Int) : ∀ i : Nat, (firstMet val i).Nodup
  | 0 => by rw [firstMet_zero]; exact List.nodup_nil
  | i + 1 => by
    have ih := met_nodup val i
    rw [firstMet_succ]
    unfold step_dedup
    split
    · exact ih
    · rename_i h
      refine List.nodup_append.mpr ⟨ih, by simp, fun a ha b hb e => h ?_⟩
      simp at hb
      exact List.any_eq_true.mpr ⟨a, ha, by rw [e, hb]; simp⟩
theorem map_getD (ns : List Int) : (List.range ns.length).map (fun i => ns.getD i 0) = ns := by
  refine List.ext_getElem? fun i => ?_
  rw [List.getElem?_map]
  by_cases h : i < ns.length
  · rw [List.getElem?_range h, List.getElem?_eq_getElem h]
    simp [List.getD_eq_getElem?_getD, List.getElem?_eq_getElem h]
  · rw [List.getElem?_eq_none (by simpa using h), List.getElem?_eq_none (by omega)]
    rfl
theorem vals_ints : ∀ {ns : List Int} {us : List Value}, Vals (ns.map V.int) us → IntsAre us ns
  | [], _, h => by cases h; exact .nil
  | n :: ns, _, h => by
    cases h with
    | cons r t =>
      obtain ⟨k, rfl⟩ := r
      exact .cons n k (vals_ints t)
def tLenSetN (K : PySem.W.Frag) (ta : TE) : TE := fun σ H Q => ta σ H fun x H1 => ∃ (l : Addr) (ns : List Int), x = V.ref l ∧ SqL K H1 l (ns.map V.int) ∧ ns.length ≤ 4000 ∧ ∀ out : List Int, out.Nodup → (∀ k, k ∈ out ↔ k ∈ ns) → Q (.int (out.length : Nat)) H1
section
variable {X : Cx} {a : Expr} {ta : TE} {p p2 q pos : Pos}
theorem pe_lenSetN (hg : Gl X "len") (hm : X.mg "len" = none) (hg2 : Gl X "set") (hm2 : X.mg "set" = none) (ha : PE X a ta) (hc : X.calm = true := by rfl)
    (na : starEach [a] X.env = (false, eval a X.env) :: starEach [] X.env := by rfl) : PE X (.Call (.Name "len" p) [.Call (.Name "set" p2) [a] [] q] [] pos) (tLenSetN X.K ta) := .mk fun pins s σ H Q I h => by
  refine Call_ (ld_blt I hg hm PySem.boot_len ?_)
  refine callWith_builtin1 (args_cons ?_ rfl) rfl rfl
  refine Call_ (ld_blt I hg2 hm2 PyProof.Rows.boot_set ?_)
  refine callWith_type1 (args_cons ?_ na) na rfl
  refine thn (ha.run pins s σ H _ I h) fun v s1 hv => ?_
  refine args_nil ?_
  obtain ⟨x, H1, J, r1, q1⟩ := hv
  obtain ⟨l, ns, rfl, hq, hl, q1⟩ := q1
  cases r1
  obtain ⟨its, r, pl, hz⟩ := J.list hq
  have hs : its.toArray.size = ns.length := by rw [List.size_toArray, ← r.length, List.length_map]
  have hi : IntsAre its.toArray.toList ns := vals_ints r
  refine call_set_list (J.ok.hd hc) pl.isList hi (by rw [hs]; unfold scanBound; omega) fun h' tk hS hk => ?_
  refine args_nil ?_
  rw [hs] at hS
  obtain ⟨o, es, ep, t, ho, hex, hd, _, _, _, hf, hn⟩ := hS
  have J2 : Inv X pins σ H1 { s1 with heap := h', toks := tk } := J.kept fun b o e => hk b o (Heap.lt_size e) e
  have le := firstMet_length_le (fun i => ns.getD i 0) ns.length
  refine call_len_set ho hex hd hf ?_ ⟨.int (firstMet (fun i => ns.getD i 0) ns.length).length, H1, J2.tok _, ⟨_, by rw [hn]⟩, q1 _ (met_nodup _ _) fun k => ?_⟩
  · rw [hn]
    omega
  · rw [met_mem, map_getD]
end
section
variable {K : PySem.W.Frag} {t : TE} {k : KE}
/-- len(set(..)) of numbers -/
def kLenSet (ke : KE) : KE := fun γ q => ke γ fun γ1 => (datN γ1.sl 1 γ1.tm).elim False fun x => match x.1 with
  | [.list es] => (intsOf es).elim False fun ns => ns.length ≤ 4000 ∧ ∀ out : List Int, out.Nodup → (∀ k, k ∈ out ↔ k ∈ ns) → q ⟨γ1.sl, .fz (.int (out.length : Nat)) :: x.2, γ1.n⟩
  | _ => False
theorem so_lenSet (h : SoE xc t k) : SoE xc (tLenSetN K t) (kLenSet k) := fun γ Θ σ H Q q R hk w => h γ Θ σ H _ _ R hk fun γ1 v H1 hk1 R1 => by
  obtain ⟨⟨ds, rr⟩, e, hf⟩ := elimF hk1
  have R1' : Rel C ⟨γ1.sl, γ1.tm, γ1.n⟩ ([v].reverse ++ Θ) σ H1 := R1
  obtain ⟨R3, T, rp, _⟩ := Rel.pops (Θ := Θ) R1' rfl e
  dsimp only at hf
  split at hf
  · obtain ⟨ns, en, hl, hq⟩ := elimF hf
    obtain rfl := intsOf_eq en
    obtain ⟨u, T', eu, r1⟩ := rp.c1
    cases eu
    cases r1 with
    | lst e rs =>
      rw [rs.intsInv.2] at e
      exact ⟨_, ns, rfl, SqL.of e, hl, fun out h1 h2 => w _ _ H1 (hq out h1 h2) (R3.push fun Z => .int _)⟩
  · exact hf.elim
end
section
variable {ta tb : TE} {ka kb : KE}
/-- a list of numbers, so many times -/
def kRepN (ka kb : KE) : KE := fun γ q => ka γ fun γ1 => kb γ1 fun γ2 => match γ2.tm with
  | .fz (.int j) :: s :: tm => (shr γ2.sl s true).elim False fun ds => (intsOf ds).elim False fun ns => (-1000000 ≤ j ∧ j ≤ 1000000 ∧ ns.length ≤ 1) ∧ q ⟨γ2.sl, .ow true (dI (List.replicate j.toNat ns).flatten) :: tm, γ2.n⟩
  | _ => False
theorem flat_map (ns : List Int) : ∀ m : Nat, (List.replicate m (ns.map V.int)).flatten = (List.replicate m ns).flatten.map V.int
  | 0 => rfl
  | m + 1 => by
    rw [List.replicate_succ, List.replicate_succ, List.flatten_cons, List.flatten_cons, List.map_append, flat_map ns m]
theorem so_repN (a : SoE xc ta ka) (b : SoE xc tb kb) : SoE xc (tOp rRep ta tb) (kRepN ka kb) := fun γ Θ σ H Q q R hk w => a γ Θ σ H _ _ R hk fun γ1 v1 H1 hk1 R1 => b γ1 _ σ H1 _ _ R1 hk1 fun γ2 v2 H2 hk2 R2 => by
  obtain ⟨sl, tm, n⟩ := γ2
  dsimp only at hk2
  split at hk2
  · rename_i j s tm
    obtain ⟨ds, e1, hk3⟩ := elimF hk2
    obtain ⟨ns, e2, ⟨h1, h2, h3⟩, hq⟩ := elimF hk3
    obtain rfl := intsOf_eq e2
    obtain ⟨T, r, _⟩ := R2.read (d := .int j) rfl
    cases r
    obtain ⟨a', us, Z, S1, S2, rfl, ha, X, ts⟩ := Rel.shr R2.pop e1
    have eu : us = ns.map V.int := by
      obtain ⟨T', rp, _⟩ := Trs.rep _ _ _ ts
      exact rp.intsInv.2
    subst eu
    refine ⟨a', j, ns.map V.int, rfl, rfl, ha, by omega, by omega, ?_, fun p hp => ?_⟩
    · rw [List.length_map]
      have := Nat.mul_le_mul h3 (show j.toNat ≤ 1000000 by omega)
      have := sizeLine_eq
      omega
    · rw [flat_map]
      exact w _ _ _ hq (Rel.ints ⟨Z, S1, S2, X⟩ hp _)
  · exact hk2.elim
end
end G
/-! GY: calls of own defs with positional and keyword arguments together. -/
namespace G
open PySem PySem.Spec PyProof.Rows L2
variable {C : Cn} {xc : XC C}
section
variable {X : Cx} {CX : CXT} {k : Nat} {f : Addr} {fd : FuncData} {ps ks : List Str} {sp : Sp} {E : XK} {x : Str} {p pos : Pos} {e : Expr} {es : List Expr} {kws : List Keyword} {t tk : TA} {g : List Value → List Value → List Value} {gV : List V → List V → List V}
theorem pe_callKG (F : FnG X.prog X.w X.K X.mg X.base CX k f fd ps sp) (hb : Bare X.A) (hr : Room k X.A) (hg : Gl X x) (hm : X.mg x = some (.ref f)) (hk : PySem.W.keepIn X.K (.ref f) = true) (kb : KBinds X.K fd ps ks g gV) (hx : Passes CX X E)
    (ha : PA X (e :: es) t) (hkw : PK X kws tk) (hall : (backToKw pos (keywordEach kws X.env)).all (·.1.isSome) = true := by rfl) (hks : (backToKw pos (keywordEach kws X.env)).filterMap (·.1) = ks := by rfl)
    (hdb : (x == ("__debug__" : Str)) = false := by decide) (he : starEach (e :: es) X.env = (false, eval e X.env) :: starEach es X.env := by rfl)
    (hpl : ((backTo pos (starEach (e :: es) X.env)).any (·.1) || (backToKw pos (keywordEach kws X.env)).any (·.1.isNone)) = false := by rfl) :
    PE X (.Call (.Name x p) (e :: es) kws pos) (tCallK sp gV E t tk) := by
  refine ⟨fun pins s σ H Q I h => wpAny_Call_Name_kw (ld_glob I hg hm (PySem.W.callWith_KW (h₀ := X.base) I.ok.mod.kin hk hall (thn (ha.run pos pins s σ H _ I h) fun us s1 ⟨vs, H1, I1, r, q⟩ => thn (hkw.run pos pins s1 σ H1 _ I1 q) fun ws s2 ⟨zs, H2, I2, rz, q2⟩ => ⟨I2.kIn, ?_⟩) hpl he) hdb)⟩
  rw [hks]
  exact run_fnkG F hb hr kb hx I2 r rz q2
end
/-- m by place, the others by name: i tells which of all these values is the parameter's -/
def gKwM (m : Nat) (ix : List Nat) (us ws : List Value) : List Value := if us.length = m then ix.filterMap fun i => (us ++ ws)[i]? else []
def gKwMV (m : Nat) (ix : List Nat) (vs zs : List V) : List V := if vs.length = m then ix.filterMap fun i => (vs ++ zs)[i]? else []
theorem vals_app {vs zs : List V} {us ws : List Value} (r : Vals vs us) (rz : Vals zs ws) : Vals (vs ++ zs) (us ++ ws) := by
  induction r with
  | nil => exact rz
  | cons h _ ih => exact .cons h ih
theorem kb_ofM {K : PySem.W.Frag} {fd : FuncData} {ps ks : List Str} {m : Nat} {ix : List Nat} (h0 : 0 < ps.length) (h : ∀ us ws : List Value, us.length = m → (ix.filterMap fun i => (us ++ ws)[i]?).length = ps.length → bindArgs fd ⟨us, ks.zip ws⟩ = pure (ps.zip (ix.filterMap fun i => (us ++ ws)[i]?))) : KBinds K fd ps ks (gKwM m ix) (gKwMV m ix) := by
  refine ⟨fun s us ws _ hl => ?_, fun {vs us zs ws} r rz => ?_⟩
  · unfold gKwM at hl ⊢
    split at hl
    · rename_i e
      rw [if_pos e]
      exact .of_eq (h us ws e hl)
    · change ([] : List Value).length = ps.length at hl
      simp at hl
      omega
  · unfold gKwM gKwMV
    have el := r.length
    by_cases e : vs.length = m
    · rw [if_pos e, if_pos (by omega)]
      exact vals_pick (vals_app r rz) ix
    · rw [if_neg e, if_neg (by omega)]
      exact .nil
def kCallTM (W : Tw) (ix : List Nat) (n : Nat) (ka kb : KE) : KE := fun γ q => ka γ fun γ1 => kb γ1 fun γ2 => (datN γ2.sl n γ2.tm).elim False fun x => W (ix.filterMap fun i => x.1[i]?) fun d => q ⟨γ2.sl, own d :: x.2, γ2.n⟩
theorem so_callTM {W : Tw} {ix : List Nat} {m n : Nat} {ka kb : KE} {ts tk : TA} (h : SoA xc m ts ka) (hk : SoA xc n tk kb) : SoE xc (tCallK (spT W) (gKwMV m ix) E0 ts tk) (kCallTM W ix (m + n) ka kb) := fun γ Θ σ H Q q R hk0 w => h γ Θ σ H _ _ R hk0 fun γ1 vs H1 el hk1 R1 => hk γ1 _ σ H1 _ _ R1 hk1 fun γ2 zs H2 el2 hk2 R2 => by
  obtain ⟨⟨ds, rr⟩, e, hf⟩ := elimF hk2
  rw [← List.append_assoc, ← List.reverse_append] at R2
  obtain ⟨R3, T, rp, _⟩ := Rel.pops (Θ := Θ) R2 (by rw [List.length_append, el, el2]) e
  obtain ⟨T', rp', _⟩ := rp.pickI ix
  unfold gKwMV
  rw [if_pos el]
  exact ⟨T', _, _, rp', hf, fun d v H' hq sm nw => w _ v H' hq (R3.newR sm nw)⟩
end G
/-! GZ: divmod. -/
namespace G
open PySem PySem.Spec PyProof.Rows L2
variable {C : Cn} {xc : XC C}
section
variable {ka : KE}
def kDivmod (ka : KE) : KE := fun γ q => ka γ fun γ1 => (datN γ1.sl 2 γ1.tm).elim False fun x => match x.1 with
  | [.int i, .int j] => CDiv i j ∧ q ⟨γ1.sl, .fz (.tuple [.int (i / j), .int (i % j)]) :: x.2, γ1.n⟩
  | _ => False
theorem so_divmod {ts : TA} (h : SoA xc 2 ts ka) : SoE xc (tCB (fun xs H Q => ∃ i j, xs = [.int i, .int j] ∧ CDiv i j ∧ ∀ p, H p = none → Q (.ref p) (upd H p (.tup [.int (i / j), .int (i % j)]))) ts) (kDivmod ka) := fun γ Θ σ H Q q R hk w => h γ Θ σ H _ _ R hk fun γ1 vs H1 el hk1 R1 => by
  obtain ⟨⟨ds, rr⟩, e, hf⟩ := elimF hk1
  obtain ⟨R3, T, rp, _⟩ := Rel.pops (Θ := Θ) R1 el e
  dsimp only at hf
  split at hf
  · rename_i i j
    obtain ⟨hc, hq⟩ := hf
    obtain ⟨v, u, T1, T2, rfl, r1, r2⟩ := rp.c2
    cases r1
    cases r2
    refine ⟨i, j, rfl, hc, fun p hp => ?_⟩
    have nw : New H1 (upd H1 p (.tup [.int (i / j), .int (i % j)])) (.ref p) (.tuple [.int (i / j), .int (i % j)]) := ⟨[], .tup upd_same (.cons (S := []) (.int _) (.cons (S := []) (.int _) .nil)), List.nodup_nil, fun _ z => nomatch z⟩
    have R4 := R3.newR (same_upd (o := .tup [.int (i / j), .int (i % j)]) hp) nw
    exact w _ _ _ hq R4
  · exact hf.elim
end
end G
/-! GAB: max(xs, default=i). -/
namespace G
open PySem PySem.Spec PyProof.Rows L2 PySem.W
variable {C : Cn} {xc : XC C}
def rMaxDef (K : PySem.W.Frag) : List V → List V → Hp → VK → Prop := fun vs zs H Q => ∃ (a : Addr) (ns : List Int) (i : Int), vs = [V.ref a] ∧ zs = [.int i] ∧ SqL K H a (ns.map V.int) ∧ (ns = [] → Q (.int i) H) ∧ ∀ m, m ∈ ns → (∀ y, y ∈ ns → y ≤ m) → Q (.int m) H
theorem maxOf_int (x : Int) (xs : List Int) : maxOf x xs ∈ x :: xs ∧ ∀ y ∈ x :: xs, y ≤ maxOf x xs := by
  unfold maxOf
  induction xs generalizing x with
  | nil => simp
  | cons y ys ih =>
    rw [List.foldl_cons]
    have e : DatumOrd.lt x y = decide (x < y) := rfl
    rw [e]
    by_cases h : x < y
    · rw [decide_eq_true h, if_pos rfl]
      obtain ⟨h1, h2⟩ := ih y
      refine ⟨List.mem_cons_of_mem _ h1, fun z hz => ?_⟩
      rcases List.mem_cons.mp hz with rfl | hz
      · have := h2 y List.mem_cons_self
        omega
      · exact h2 z hz
    · rw [decide_eq_false h, if_neg (by decide)]
      obtain ⟨h1, h2⟩ := ih x
      refine ⟨?_, fun z hz => ?_⟩
      · rcases List.mem_cons.mp h1 with h1 | h1
        · rw [h1]; exact List.mem_cons_self
        · exact List.mem_cons_of_mem _ (List.mem_cons_of_mem _ h1)
      · rcases List.mem_cons.mp hz with rfl | hz
        · exact h2 z List.mem_cons_self
        · rcases List.mem_cons.mp hz with rfl | hz
          · have := h2 x List.mem_cons_self
            omega
          · exact h2 z (List.mem_cons_of_mem _ hz)
theorem cr_maxDef {X : Cx} (hc : X.calm = true) (hu : X.A.units + 64 < cLine) : CallRK X (.builtin "max") [Str.ofString "default"] (rMaxDef X.K) := by
  intro pins s σ H vs zs us ws Q I r rz h
  obtain ⟨a, ns, i, rfl, rfl, hs, q0, q⟩ := h
  obtain rfl := Vals.ref1 r
  obtain ⟨w1, rfl, ⟨t, rfl⟩⟩ := vals1 rz
  obtain ⟨its, rv, hl, _⟩ := I.list hs
  refine max_list_datum_default (α := Int) (I.ok.hd hc) hl.isList (HoldAll.of_ints rv.ints) (by show X.A.units + 1 + Datum.depth Int < cLine; have := (by decide : Datum.depth Int ≤ 2); omega) (fun e h' tk hk => ?_) (fun y ys j v h' tk e hv hold hk => ?_)
  · exact ⟨.int i, H, I.kept hk, ⟨_, rfl⟩, q0 e⟩
  · obtain ⟨as, hr⟩ := hold
    obtain ⟨m1, m2⟩ := maxOf_int y ys
    have : ∃ t', v = .int (maxOf y ys) t' := by
      generalize maxOf y ys = z at hr
      cases hr
      exact ⟨_, rfl⟩
    obtain ⟨t', rfl⟩ := this
    exact ⟨.int _, H, I.kept hk, ⟨_, rfl⟩, q _ (by rw [e]; exact m1) (by rw [e]; exact m2)⟩
section
variable {K : PySem.W.Frag} {ts tk : TA} {ka kb : KE}
def kMaxDef (ka kb : KE) : KE := fun γ q => ka γ fun γ1 => kb γ1 fun γ2 => (datN γ2.sl 2 γ2.tm).elim False fun x => match x.1 with
  | [.list es, .int i] => (intsOf es).elim False fun ns => (ns = [] → q ⟨γ2.sl, .fz (.int i) :: x.2, γ2.n⟩) ∧ ∀ m, m ∈ ns → (∀ y, y ∈ ns → y ≤ m) → q ⟨γ2.sl, .fz (.int m) :: x.2, γ2.n⟩
  | _ => False
theorem so_maxDef (h : SoA xc 1 ts ka) (hk : SoA xc 1 tk kb) : SoE xc (tCKw (rMaxDef K) ts tk) (kMaxDef ka kb) := fun γ Θ σ H Q q R hk0 w => h γ Θ σ H _ _ R hk0 fun γ1 vs H1 el hk1 R1 => hk γ1 _ σ H1 _ _ R1 hk1 fun γ2 zs H2 el2 hk2 R2 => by
  obtain ⟨⟨ds, rr⟩, e, hf⟩ := elimF hk2
  rw [← List.append_assoc, ← List.reverse_append] at R2
  obtain ⟨R3, T, rp, _⟩ := Rel.pops (Θ := Θ) R2 (by rw [List.length_append, el, el2]) e
  dsimp only at hf
  split at hf
  · rename_i es i
    obtain ⟨ns, en, q0, q1⟩ := elimF hf
    obtain rfl := intsOf_eq en
    obtain ⟨v, u, T1, T2, ev, r1, r2⟩ := rp.c2
    match vs, el, zs, el2, ev with
    | [v1], _, [z1], _, ev =>
      simp only [List.singleton_append, List.cons.injEq, and_true] at ev
      obtain ⟨rfl, rfl⟩ := ev
      cases r2
      cases r1 with
      | lst e rs =>
        rw [rs.intsInv.2] at e
        exact ⟨_, ns, i, rfl, rfl, SqL.of e, fun z => w _ _ H2 (q0 z) (R3.push fun Z => .int _), fun m h1 h2 => w _ _ H2 (q1 m h1 h2) (R3.push fun Z => .int _)⟩
  · exact hf.elim
/-- repr([..]) of things that go on to be held -/
def kReprL (n : Nat) (ka : KE) : KE := fun γ q => ka γ fun γ1 => (datN γ1.sl n γ1.tm).elim False fun x => vRepr [.list x.1] fun d => q ⟨γ1.sl, .fz d :: x.2, γ1.n⟩
theorem so_reprL (h : SoA xc n ts ka) (hn : n ≤ 10000000 := by decide) : SoE xc (tCB (rRepr K) (tCons (tLst ts) tNil)) (kReprL n ka) := fun γ Θ σ H Q q R hk w => h γ Θ σ H _ _ R hk fun γ1 vs H1 el hk1 R1 => ⟨szle (by omega), fun p hp => by
  obtain ⟨⟨ds, rr⟩, e, hf⟩ := elimF hk1
  obtain ⟨R3, T, rp, _⟩ := Rel.pops (Θ := Θ) R1 el e
  have sm := same_upd (o := .lst vs) hp
  have rp2 : Rep (upd H1 p (.lst vs)) (p :: T) (.ref p) (.list ds) := .lst upd_same (Reps.mono (fun t vs e => sm t _ e) _ _ _ rp fun a _ o e => sm a o e)
  exact sc_repr (K := K) (upd H1 p (.lst vs)) [.ref p] _ [.list ds] _ _ (.cons rp2 .nil) rfl hf fun v d sc hq => w _ v _ hq ((R3.same sm).push fun Z => sc _ Z)⟩
end
end G
/-! GAC: comprehensions with two names as target. -/
namespace G
open PySem PySem.Spec PyProof.Rows L2
variable {C : Cn} {xc : XC C}
def lcL2 (i j : Nat) (kt : KT) (ke : KE) : List D → VSt → (VSt → Prop) → Prop
  | [], γ, q => q γ
  | .tuple [d1, d2] :: ds, γ, q => (noAl i γ.tm = true ∧ noAl j γ.tm = true) ∧ kt ⟨(γ.sl.set i (.fz d1)).set j (.fz d2), γ.tm, γ.n⟩ fun b γ1 => γ1.tm = γ.tm ∧ if b = true then ke γ1 fun γ2 => match γ2.tm with
      | s :: .ow b0 (.list es) :: tm => (con s).elim False fun c => ((noAl i tm = true ∧ noAl j tm = true) ∧ tm = γ.tm.tail ∧ es.length < 10000000) ∧ lcL2 i j kt ke ds ⟨(γ2.sl.set j .jk).set i .jk, .ow (b0 && c.1) (.list (es ++ [c.2])) :: tm, γ2.n⟩ q
      | _ => False
    else lcL2 i j kt ke ds ⟨(γ1.sl.set j .jk).set i .jk, γ1.tm, γ1.n⟩ q
  | _ :: _, _, _ => False
def kLc2 (ki : KI) (i j : Nat) (kt : KT) (ke : KE) : KE := fun γ q => ki γ fun ds γ1 => (noAl i γ1.tm = true ∧ noAl j γ1.tm = true) ∧ lcL2 i j kt ke ds ⟨(γ1.sl.set j .jk).set i .jk, .ow true (.list []) :: γ1.tm, γ1.n⟩ fun γ2 => match γ2.tm with
  | s :: tm => (okS s = true ∧ tm = γ1.tm) ∧ q ⟨γ2.sl, s :: γ.tm, γ2.n⟩
  | _ => False
theorem set4 {α : Type} (σ : List α) {i j : Nat} (h : i ≠ j) (n x y : α) : (((((σ.set j n).set i n).set i x).set j y).set j n).set i n = (σ.set j n).set i n := by
  have k : ∀ l : List α, (((l.set i x).set j y).set j n).set i n = (l.set j n).set i n := fun l => by rw [List.set_set, List.set_comm x n h, List.set_set]
  rw [k, List.set_comm (l := σ.set j n) n n h, List.set_set, List.set_set]
theorem set_jk2 (sl : List Sl) {i j : Nat} (h : i ≠ j) : (((sl.set j .jk).set i .jk)[i]? = some .jk ∨ ((sl.set j .jk).set i .jk)[i]? = none) ∧ (((sl.set j .jk).set i .jk)[j]? = some .jk ∨ ((sl.set j .jk).set i .jk)[j]? = none) := by
  refine ⟨set_jk _ _, ?_⟩
  rw [List.getElem?_set_ne h]
  exact set_jk _ _
theorem so_lc2 {K : PySem.W.Frag} {wi : TI} {ki : KI} {i j : Nat} {tt : TT} {kt : KT} {te : TE} {ke : KE} (hij : i ≠ j) (hi : SoI xc wi ki) (ht : SoT xc tt kt) (he : SoE xc te ke) : SoE xc (tLc wi (gTup K 2 (gCons (gName i) (gCons (gName j) gNil))) tt te [i, j]) (kLc2 ki i j kt ke) := fun γ Θ σ H Q q R hk w => hi γ Θ σ H _ _ R hk fun J ds γ1 Ψ H1 hq hp hJ R1 => by
  obtain ⟨⟨na, nb⟩, hq⟩ := hq
  obtain ⟨sl1, tm1, n1⟩ := γ1
  dsimp only at hq na nb hJ
  intro D hD
  have R2 := ((R1.jk (i := j) nb none).jk (i := i) na none).ints hD []
  refine ⟨fun k m H' => m = ds.length - k ∧ k ≤ ds.length ∧ ∃ sl b es n, lcL2 i j kt ke (ds.drop k) ⟨sl, .ow b (.list es) :: tm1, n⟩ (fun γ2 => match γ2.tm with | s :: tm => (okS s = true ∧ tm = tm1) ∧ q ⟨γ2.sl, s :: γ.tm, γ2.n⟩ | _ => False) ∧ ((sl[i]? = some .jk ∨ sl[i]? = none) ∧ (sl[j]? = some .jk ∨ sl[j]? = none)) ∧ Rel C ⟨sl, .ow b (.list es) :: tm1, n⟩ (.ref D :: Ψ) ((σ.set j none).set i none) H', ⟨ds.length, rfl, Nat.zero_le _, _, true, [], n1, by simpa using hq, set_jk2 _ hij, R2⟩, ?_⟩
  rintro k m H' ⟨rfl, hi, sl, b, es, n, hf, hjk, R'⟩
  obtain ⟨j1, j2⟩ := hJ [.ow b (.list es)] [.ref D] k sl n _ H' rfl R'
  by_cases hlt : k < ds.length
  · right
    have e2 : ds.drop k = ds[k] :: ds.drop (k + 1) := List.drop_eq_getElem_cons hlt
    obtain ⟨g, y⟩ := j1 ds[k] (List.getElem?_eq_getElem hlt)
    rw [e2] at hf
    generalize ds[k] = dk at hf y
    match dk, hf, y with
    | .tuple [d1, d2], hf, y =>
      obtain ⟨⟨na1, nb1⟩, hf⟩ := hf
      have na2 : noAl i (.ow b (.list es) :: tm1) = true := na1
      have nb2 : noAl j (.ow b (.list es) :: tm1) = true := nb1
      refine ⟨g, fun H2 => ∃ sl b es n, lcL2 i j kt ke (ds.drop (k + 1)) ⟨sl, .ow b (.list es) :: tm1, n⟩ (fun γ2 => match γ2.tm with | s :: tm => (okS s = true ∧ tm = tm1) ∧ q ⟨γ2.sl, s :: γ.tm, γ2.n⟩ | _ => False) ∧ ((sl[i]? = some .jk ∨ sl[i]? = none) ∧ (sl[j]? = some .jk ∨ sl[j]? = none)) ∧ Rel C ⟨sl, .ow b (.list es) :: tm1, n⟩ (.ref D :: Ψ) ((σ.set j none).set i none) H2, fun H2 h2 => ⟨ds.length - (k + 1), by omega, rfl, hlt, h2⟩, fun x H3 hy => ?_⟩
      obtain ⟨a, vs, rfl, ha, el, R3⟩ := (y x H3 hy).unpack (ss := [.fz d1, .fz d2]) rfl
      match vs, el with
      | [v1, v2], _ =>
        refine ⟨a, [v1, v2], rfl, SqT.of ha, rfl, v1, [v2], rfl, v2, [], rfl, rfl, set4 σ hij none (some v1) (some v2), ?_⟩
        have R4 : Rel C ⟨(sl.set i (.fz d1)).set j (.fz d2), .ow b (.list es) :: tm1, n⟩ (.ref D :: Ψ) ((((σ.set j none).set i none).set i (some v1)).set j (some v2)) H3 :=
          (R3.set (i := i) (s := .fz d1) (tm := .fz d2 :: .ow b (.list es) :: tm1) (fun i π z => nomatch z) (noAl_cons na2 rfl)).set (fun i π z => nomatch z) nb2
        refine ht _ _ _ H3 _ _ R4 hf fun c γ2 H4 hk4 R4 => ?_
        obtain ⟨et, hk4⟩ := hk4
        obtain ⟨sl2, tm2, n2⟩ := γ2
        dsimp only at et
        subst et
        have back : ∀ {sl : List Sl} {tm : List Sl} {n : Int} {Θ : List V} {H : Hp}, noAl i tm = true → noAl j tm = true → Rel C ⟨sl, tm, n⟩ Θ ((((σ.set j none).set i none).set i (some v1)).set j (some v2)) H → Rel C ⟨(sl.set j .jk).set i .jk, tm, n⟩ Θ ((σ.set j none).set i none) H := fun ha hb R => by
          have := (R.jk (i := j) hb none).jk (i := i) ha none
          rw [set4 σ hij] at this
          exact this
        cases c with
        | false =>
          rw [if_neg (by simp)] at hk4 ⊢
          exact ⟨_, _, _, _, hk4, set_jk2 _ hij, back na2 nb2 R4⟩
        | true =>
          rw [if_pos rfl] at hk4 ⊢
          refine he _ _ _ H4 _ _ R4 hk4 fun γ5 y5 H5 hk5 R5 => ?_
          obtain ⟨sl5, tm5, n5⟩ := γ5
          dsimp only at hk5
          split at hk5
          · rename_i s b0 es0 tm
            obtain ⟨⟨cb, cd⟩, ec, ⟨⟨na5, nb5⟩, et5, hl⟩, hk6⟩ := elimF hk5
            simp only [List.tail_cons] at et5
            subst et5
            obtain ⟨a, vs, ea, ha, el, R6⟩ := R5.grow ec
            cases ea
            exact ⟨vs, ha, szlt (by omega), _, _, _, _, hk6, set_jk2 _ hij, back (noAl_cons na5 rfl) (noAl_cons nb5 rfl) R6⟩
          · exact hk5.elim
  · left
    have e0 : k = ds.length := by omega
    refine ⟨j2 (by omega), ?_⟩
    rw [e0, List.drop_length] at hf
    obtain ⟨⟨h1, _⟩, hq⟩ := hf
    have R3 := (R'.jkσ hjk.1 (noAl_cons na rfl) rfl).jkσ hjk.2 (noAl_cons nb rfl) rfl
    have R4 := hp [.ow b (.list es)] [.ref D] _ _ _ _ rfl (fun s m i π => by
      simp only [List.mem_singleton] at m
      subst m
      exact fun z => nomatch z) R3
    exact w _ _ _ hq R4
theorem set_back {α : Type} (sl : List α) {i j : Nat} (h : i ≠ j) (n x y : α) : ((((sl.set i x).set j y).set j n).set i n) = (sl.set j n).set i n := by
  rw [List.set_set, List.set_comm x n h, List.set_set]
/-- a comprehension with two names by an invariant -/
theorem lc2_inv {i j : Nat} {kt : KT} {ke : KE} {β : Type} {q : VSt → Prop} {sl T : List Sl} (hij : i ≠ j) (b : Bool) (l : List β) (f g : β → D) (P : List β → List D → Int → Prop) (hj : (sl.set j .jk).set i .jk = sl) (na : noAl i T = true) (nb : noAl j T = true)
    (len : ∀ pre acc n, P pre acc n → acc.length < 10000000)
    (step : ∀ pre x post acc n (Y X : VSt → Prop), l = pre ++ x :: post → P pre acc n → (∀ s c cd n', con s = some (c, cd) → (b && c) = b → P (pre ++ [x]) (acc ++ [cd]) n' → Y ⟨(sl.set i (.fz (f x))).set j (.fz (g x)), s :: .ow b (.list acc) :: T, n'⟩) → (∀ n', P (pre ++ [x]) acc n' → X ⟨(sl.set i (.fz (f x))).set j (.fz (g x)), .ow b (.list acc) :: T, n'⟩) →
      kt ⟨(sl.set i (.fz (f x))).set j (.fz (g x)), .ow b (.list acc) :: T, n⟩ fun c γ1 => γ1.tm = .ow b (.list acc) :: T ∧ if c = true then ke γ1 Y else X γ1)
    (fin : ∀ acc n, P l acc n → q ⟨sl, .ow b (.list acc) :: T, n⟩) : ∀ acc n, P [] acc n → lcL2 i j kt ke (l.map fun x => .tuple [f x, g x]) ⟨sl, .ow b (.list acc) :: T, n⟩ q := by
  have main : ∀ (post pre : List β) (acc : List D) (n : Int), l = pre ++ post → P pre acc n → lcL2 i j kt ke (post.map fun x => .tuple [f x, g x]) ⟨sl, .ow b (.list acc) :: T, n⟩ q := by
    intro post
    induction post with
    | nil =>
      intro pre acc n hl hp
      rw [List.append_nil] at hl
      subst hl
      exact fin acc n hp
    | cons x post ih =>
      intro pre acc n hl hp
      have hjj : (((sl.set i (.fz (f x))).set j (.fz (g x))).set j .jk).set i .jk = sl := by rw [set_back sl hij]; exact hj
      refine ⟨⟨noAl_cons na rfl, noAl_cons nb rfl⟩, step pre x post acc n _ _ hl hp (fun s c cd n' hc hb hP => ?_) (fun n' hP => ?_)⟩
      · show (con s).elim False _
        rw [hc]
        refine ⟨⟨⟨na, nb⟩, rfl, len _ _ _ hp⟩, ?_⟩
        dsimp only
        rw [hjj, hb]
        exact ih (pre ++ [x]) _ n' (by rw [hl]; simp) hP
      · dsimp only
        rw [hjj]
        exact ih (pre ++ [x]) _ n' (by rw [hl]; simp) hP
  exact fun acc n h => main l [] acc n rfl h
end G
/-! GAD: parts that are changed by a call, lists that are unpacked, one thing in three places. -/
namespace G
open PySem PySem.Spec PyProof.Rows L2
variable {C : Cn} {xc : XC C}

/-! ### a part of what a name owns is given to a def that changes it -/
def chgS : Sl → List Nat → Option (D × (D → Sl))
  | .ow true (.tuple ds), [k] => (ds[k]?).map fun d => (d, fun e => .ow true (.tuple (ds.set k e)))
  | .ow true (.list ds), [k] => (ds[k]?).map fun d => (d, fun e => .ow true (.list (ds.set k e)))
  | .sh d, [k] => if k < 3 then some (d, fun e => .sh e) else none
  | _, _ => none
section
variable {C : Cn} {Z : Reg} {H : Hp} {T0 : List Addr} {w0 v : V} {s : Sl} {d : D} {g : D → Sl} {π : List Nat}
theorem Ent.chg (h : Ent C Z H T0 (some w0) s) (e : chgS s π = some (d, g)) (wk : Wk H w0 π v) (nd : T0.Nodup) : ∃ T1 R, Tr H noReg T1 v d ∧ T0.Perm (T1 ++ R) ∧
    ∀ (H' : Hp) S1 e', (∀ t vs, H t = some (.tup vs) → H' t = some (.tup vs)) → (∀ a ∈ R, ∀ o, H a = some o → H' a = some o) → Tr H' noReg S1 v e' → ∃ S', Ent C Z H' S' (some w0) (g e') ∧ S'.Perm (S1 ++ R) := by
  have eset : ∀ {vs : List V} {k : Nat}, vs[k]? = some v → vs.set k v = vs := fun {vs k} hk => by
    refine List.ext_getElem? fun j => ?_
    by_cases hj : k = j
    · subst hj
      rw [List.getElem?_set_self (List.getElem?_eq_some_iff.mp hk).1, hk]
    · rw [List.getElem?_set_ne hj]
  unfold chgS at e
  split at e
  · rename_i ds k
    obtain ⟨x, ex, eg⟩ := Option.map_eq_some_iff.mp e
    cases eg
    cases h with
    | ow t =>
      cases t with
      | @tup a vs S _ ha ts =>
        cases wk with
        | lst h1 _ _ => rw [ha] at h1; cases h1
        | tup h1 h2 h3 =>
          rw [ha] at h1
          cases h1
          cases h3
          obtain ⟨v', T1, R, ev, t1, pm, _, kk⟩ := ts.at ex
          rw [h2] at ev
          cases ev
          refine ⟨T1, R, t1, pm, fun H' S1 e' kt kr t' => ?_⟩
          obtain ⟨S', ts', pm'⟩ := kk H' S1 v e' kt (fun _ z => z.elim) kr t'
          rw [eset h2] at ts'
          exact ⟨S', .ow (.tup (kt _ _ ha) ts'), pm'⟩
  · rename_i ds k
    obtain ⟨x, ex, eg⟩ := Option.map_eq_some_iff.mp e
    cases eg
    cases h with
    | ow t =>
      cases t with
      | lstZ z _ _ => exact z.elim
      | @lst a vs S _ ha ts =>
        cases wk with
        | tup h1 _ _ => rw [ha] at h1; cases h1
        | lst h1 h2 h3 =>
          rw [ha] at h1
          cases h1
          cases h3
          obtain ⟨v', T1, R, ev, t1, pm, _, kk⟩ := ts.at ex
          rw [h2] at ev
          cases ev
          refine ⟨T1, a :: R, t1, (List.Perm.cons a pm).trans List.perm_middle.symm, fun H' S1 e' kt kr t' => ?_⟩
          obtain ⟨S', ts', pm'⟩ := kk H' S1 v e' kt (fun _ z => z.elim) (fun b m => kr b (List.mem_cons_of_mem _ m)) t'
          rw [eset h2] at ts'
          exact ⟨a :: S', .ow (.lst (kr a List.mem_cons_self _ ha) ts'), (List.Perm.cons a pm').trans List.perm_middle.symm⟩
  · rename_i d0 k
    split at e
    · rename_i hk
      cases e
      cases h with
      | @sh a u S _ ha t =>
        cases wk with
        | lst h1 _ _ => rw [ha] at h1; cases h1
        | tup h1 h2 h3 =>
          rw [ha] at h1
          cases h1
          cases h3
          have : u = v := by
            match k, hk, h2 with
            | 0, _, h2 => simpa using h2
            | 1, _, h2 => simpa using h2
            | 2, _, h2 => simpa using h2
          subst this
          exact ⟨T0, [], t, by simp, fun H' S1 e' kt _ t' => ⟨S1, .sh (kt _ _ ha) t', by simp⟩⟩
    · cases e
  · cases e
theorem Ent.uniq {A B : List Addr} (h : Ent C Z H A (some w0) s) (k : Ent C Z H B (some w0) s) (e : chgS s π = some (d, g)) : A = B := by
  cases h with
  | ow t => cases k with
    | ow t' => exact repU _ _ _ _ (Tr.repO _ _ _ t) (Tr.repO _ _ _ t')
  | @sh a u S d0 ha t => cases k with
    | @sh _ u' S' _ ha' t' =>
      rw [ha] at ha'
      cases ha'
      exact repU _ _ _ _ (Tr.repO _ _ _ t) (Tr.repO _ _ _ t')
  | jk _ => cases e
  | fz _ => cases e
  | sp _ _ => cases e
  | al _ _ _ => cases e
  | pu _ => cases e
  | io _ _ => cases e
  | dc _ _ => cases e
  | dt _ _ => cases e
  | xv _ _ => cases e
  | ho _ _ _ => cases e
def kCallIA (W : TwI) (n : Nat) (ka : KE) : KE := fun γ q => ka γ fun γ1 => (datN γ1.sl n γ1.tm).elim False fun x => match x.2 with
  | .al i π :: r => (nolists x.1 = true ∧ noAl i r = true) ∧ ((γ1.sl[i]?).bind fun s => chgS s π).elim False fun s => W (s.1 :: x.1) fun d e => q ⟨γ1.sl.set i (s.2 e), own d :: r, γ1.n⟩
  | _ => False
theorem so_callIA {W : TwI} {n : Nat} {ka : KE} {ts : TA} (h : SoA xc (n + 1) ts ka) : SoE xc (tCall (spI W) [] E0 ts) (kCallIA W n ka) := fun γ Θ σ H Q q R hk w => h γ Θ σ H _ _ R hk fun γ1 vs H1 el hk1 R1 => by
  obtain ⟨⟨ds, rr⟩, e, hf⟩ := elimF hk1
  obtain ⟨sl, tm, j⟩ := γ1
  match vs, el with
  | v :: vs, el =>
    rw [List.reverse_cons, List.append_assoc] at R1
    obtain ⟨R3, T, rp, np⟩ := Rel.pops (Θ := [v] ++ Θ) R1 (by simpa using el) e
    dsimp only at hf
    split at hf
    · rename_i i π r
      obtain ⟨⟨hn, na⟩, hs⟩ := hf
      obtain ⟨⟨d0, gS⟩, es, hw⟩ := elimF hs
      dsimp only at hw
      obtain ⟨s0, e1, hs0⟩ := Option.bind_eq_some_iff.mp es
      have hT : T = [] := Reps.nolist _ _ _ rp hn
      subst hT
      obtain ⟨Z, Sa, Sb0, X0⟩ := R3
      obtain ⟨s1, d1, e1', w1, g1, g2, g3, g4, wk⟩ := X0.al 0 i π v rfl rfl
      obtain ⟨A, Sb, en, X, f⟩ := RelX.popF (ss := [.al i π]) (us := [v]) X0 rfl
      obtain ⟨v1, T00, Rr0, ev, ent, pm0, kk0⟩ := X.es.at e1
      rw [g4] at ev
      cases ev
      have ndS0 := pm0.nodup_iff.mp (List.nodup_append.mp X.nd).1
      obtain ⟨T0, R0, tr, pmT, kch⟩ := ent.chg hs0 wk (List.nodup_append.mp ndS0).1
      -- the cells beside the part
      have pm : Sa.Perm (T0 ++ (R0 ++ Rr0)) := pm0.trans (by
        rw [← List.append_assoc]
        exact List.Perm.append_right Rr0 pmT)
      obtain ⟨Rr, eRr⟩ : ∃ Rr, R0 ++ Rr0 = Rr := ⟨_, rfl⟩
      rw [eRr] at pm
      have kk : ∀ (H' : Hp) S1 e', (∀ t vs, H1 t = some (.tup vs) → H' t = some (.tup vs)) → (∀ a, Z a → ∀ o, H1 a = some o → H' a = some o) → (∀ a ∈ Rr, ∀ o, H1 a = some o → H' a = some o) → Tr H' noReg S1 v e' → ∃ S', Ents C Z H' S' (σ.set i (some w1)) (sl.set i (gS e')) ∧ S'.Perm (S1 ++ Rr) := fun H' S1 e' kt kz kr t' => by
        obtain ⟨S2, en2, p2⟩ := kch H' S1 e' kt (fun a m => kr a (by rw [← eRr]; exact List.mem_append_left _ m)) t'
        obtain ⟨S', es', p'⟩ := kk0 H' Z S2 (some w1) _ kt (fun _ z => z) kz (fun a m => kr a (by rw [← eRr]; exact List.mem_append_right _ m)) en2
        refine ⟨S', es', p'.trans ?_⟩
        rw [← eRr, ← List.append_assoc]
        exact List.Perm.append_right Rr0 p2
      have ndS := pm.nodup_iff.mp (List.nodup_append.mp X.nd).1
      have ndT := (List.nodup_append.mp ndS).1
      have inS : ∀ a ∈ T0, a ∈ Sa := fun a m => pm.mem_iff.mpr (List.mem_append_left _ m)
      rw [List.append_nil]
      refine ⟨v, vs, T0, [], d0, ds, _, rfl, Tr.repO _ _ _ tr, ndT, rp, fun a m => (nomatch m), hw, fun d e2 v' H' hq fr nw => ?_⟩
      obtain ⟨S1, S2, r1, r2, nd12, new⟩ := nw
      have kt : ∀ t xs, H1 t = some (.tup xs) → H' t = some (.tup xs) := fun t xs et => fr t _ et fun m => by
        obtain ⟨ys, q⟩ := Tr.dom _ _ _ tr t m
        rw [et] at q
        cases q
      have kz0 : ∀ a, C.tz Z a → ∀ o, H1 a = some o → H' a = some o := fun a z o eo => fr a o eo fun m => X.nz a (List.mem_append_left _ (inS a m)) z
      have kz : ∀ a, Z a → ∀ o, H1 a = some o → H' a = some o := fun a z => kz0 a (.inl z)
      have disR : ∀ a ∈ Rr, a ∉ T0 := fun a m m' => (List.nodup_append.mp ndS).2.2 a m' a m rfl
      have disB : ∀ a ∈ Sb, a ∉ T0 := fun a m m' => (List.nodup_append.mp X.nd).2.2 a (inS a m') a m rfl
      obtain ⟨S', es', pm'⟩ := kk H' S1 e2 kt kz (fun a m o eo => fr a o eo (disR a m)) (Rep.tr _ _ _ r1)
      have eσ : σ.set i (some w1) = σ := by
        refine List.ext_getElem? fun j => ?_
        by_cases hj : i = j
        · subst hj
          rw [List.getElem?_set_self (List.getElem?_eq_some_iff.mp g4).1, g4]
        · rw [List.getElem?_set_ne hj]
      rw [eσ] at es'
      have apart : ∀ a ∈ S1 ++ S2, a ∉ Rr ∧ a ∉ Sb ∧ ¬ C.tz Z a ∧ ∀ p b, C.pu = some (p, b) → a ≠ p := fun a m => by
        rcases new a m with z | z
        · exact ⟨fun q => disR a q z, fun q => disB a q z, X.nz a (List.mem_append_left _ (inS a z)), fun p b q y => (X.pu p b q).2.2 (y ▸ List.mem_append_left _ (inS a z))⟩
        · refine ⟨fun q => ?_, fun q => ?_, fun q => ?_, fun p b q y => ?_⟩
          · obtain ⟨xs, e⟩ := X.es.dom a (pm.mem_iff.mpr (List.mem_append_right _ q))
            rw [z] at e; cases e
          · obtain ⟨xs, e⟩ := X.et.dom a q
            rw [z] at e; cases e
          · obtain ⟨o, e⟩ := X.ex a q
            rw [z] at e; cases e
          · obtain ⟨x1, x2, x3, e, _⟩ := (X.pu p b q).1
            rw [← y, z] at e; cases e
      have memS' : ∀ a ∈ S', a ∈ S1 ∨ a ∈ Rr := fun a m => List.mem_append.mp (pm'.mem_iff.mp m)
      have n12 := List.nodup_append.mp nd12
      have ndRB : ∀ a ∈ Rr, a ∉ Sb := fun a m m' => (List.nodup_append.mp X.nd).2.2 a (pm.mem_iff.mpr (List.mem_append_right _ m)) a m' rfl
      have ndS' : S'.Nodup := pm'.nodup_iff.mpr (List.nodup_append.mpr ⟨n12.1, (List.nodup_append.mp ndS).2.1, fun a m b m' e => (apart a (List.mem_append_left _ m)).1 (e ▸ m')⟩)
      have X2 : RelX C Z S' Sb ⟨sl.set i (gS e2), r, j⟩ Θ σ H' := by
        refine ⟨fun a o eo m => ⟨(X.fr a o eo m).1, kz0 a (X.fr a o eo m).1 o (X.fr a o eo m).2⟩, es', X.et.mono kt (fun _ z => z) kz fun a m o eo => fr a o eo (disB a m), List.nodup_append.mpr ⟨ndS', (List.nodup_append.mp X.nd).2.1, fun a m b m' eab => ?_⟩, fun a m => ?_, fun p b q => ⟨(X.pu p b q).1.mono fun o eo => fr p o eo fun m => (X.pu p b q).2.2 (List.mem_append_left _ (inS p m)), (X.pu p b q).2.1, fun m => ?_⟩, fun a z => ?_, X.dj, fun k i' π' u e' ev' => ?_⟩
        · subst eab
          rcases memS' a m with m | m
          · exact (apart a (List.mem_append_left _ m)).2.1 m'
          · exact ndRB a m m'
        · rcases List.mem_append.mp m with m | m
          · rcases memS' a m with m | m
            · exact (apart a (List.mem_append_left _ m)).2.2.1
            · exact X.nz a (List.mem_append_left _ (pm.mem_iff.mpr (List.mem_append_right _ m)))
          · exact X.nz a (List.mem_append_right _ m)
        · rcases List.mem_append.mp m with m | m
          · rcases memS' p m with m | m
            · exact (apart p (List.mem_append_left _ m)).2.2.2 p b q rfl
            · exact (X.pu p b q).2.2 (List.mem_append_left _ (pm.mem_iff.mpr (List.mem_append_right _ m)))
          · exact (X.pu p b q).2.2 (List.mem_append_right _ m)
        · obtain ⟨o, eo⟩ := X.ex a z
          exact ⟨o, kz0 a z o eo⟩
        · obtain ⟨s2, d2, e3, w2, f1, f2, f3, f4, wk2⟩ := X.al k i' π' u e' ev'
          have hj := al_set na e'
          refine ⟨s2, d2, e3, w2, (List.getElem?_set_ne hj).trans f1, f2, f3, f4, ?_⟩
          obtain ⟨vi, Ti, vj, Tj, a1, a2, a3, a4, a5, a6⟩ := Ents.apart X.es e1 f1 hj (List.nodup_append.mp X.nd).1
          rw [g4] at a1
          cases a1
          rw [f4] at a2
          cases a2
          obtain ⟨w3, Tw, ew3, t3, sbw⟩ := a4.tr f2
          cases ew3
          have hTi : Ti = T00 := a3.uniq ent hs0
          subst hTi
          exact (Tr.part t3 f3 wk2).2 H' kt fun a z => z.elim (kz a) fun m o eo => fr a o eo fun m' => (a5 a (pmT.mem_iff.mpr (List.mem_append_left _ m'))).2 (sbw a m)
      refine w _ v' H' hq ?_
      have tv : Tr H' noReg S2 v' d := Rep.tr _ _ _ r2
      have old : ∀ a ∈ S2, a ∉ S' ++ Sb ∧ ¬ C.tz Z a ∧ ∀ p b, C.pu = some (p, b) → a ≠ p := fun a m => by
        obtain ⟨q1, q2, q3, q4⟩ := apart a (List.mem_append_right _ m)
        refine ⟨fun z => ?_, q3, q4⟩
        rcases List.mem_append.mp z with z | z
        · rcases memS' a z with z | z
          · exact n12.2.2 a z a m rfl
          · exact q1 z
        · exact q2 z
      unfold own
      by_cases hnl : nolist d = true
      · rw [if_pos hnl]
        exact Rel.push ⟨_, _, _, X2⟩ fun Z => (Tr.nolist d S2 v' tv hnl).2
      · rw [if_neg hnl]
        exact ⟨_, _, _, X2.pushE (Z' := Z) (.ow tv) n12.2.1 old (fun i π z => nomatch z)⟩
    · exact hf.elim
end
/-! ### unpacking a list -/
def itL : Sl → Option (List Sl)
  | .fz (.list ds) => some (ds.map .fz)
  | .ow true (.list ds) => some (ds.map own)
  | _ => none
section
variable {C : Cn} {σ : L2.St} {H : Hp} {sl tm : List Sl} {n : Int} {v : V} {s : Sl} {Θ : List V}
theorem Rel.unpackL {ss : List Sl} (h : Rel C ⟨sl, s :: tm, n⟩ (v :: Θ) σ H) (e : itL s = some ss) : ∃ a vs, v = .ref a ∧ H a = some (.lst vs) ∧ vs.length = ss.length ∧ Rel C ⟨sl, ss ++ tm, n⟩ (vs ++ Θ) σ H := by
  obtain ⟨Z, S1, S2, h⟩ := h
  obtain ⟨A, B, es, r, f⟩ := RelX.popF (ss := [s]) (us := [v]) h rfl
  obtain ⟨A', en, rfl⟩ : ∃ A', Ent C Z H A' (some v) s ∧ A = A' := by
    cases es with
    | cons e1 e2 =>
      cases e2
      exact ⟨_, e1, by simp⟩
  unfold itL at e
  split at e
  · rename_i ds
    cases e
    cases en with
    | fz t =>
      cases t with
      | @lstZ a vs _ z q ts =>
        exact ⟨a, vs, rfl, q, by simp [ts.length], Z, S1, _, r.pushEs f (Trs.fzs ts rfl) fun s m i π z => by
          obtain ⟨x, _, rfl⟩ := List.mem_map.mp m
          cases z⟩
  · rename_i ds
    cases e
    cases en with
    | ow t =>
      cases t with
      | lstZ z _ _ => exact z.elim
      | @lst a vs S _ q ts =>
        refine ⟨a, vs, rfl, q, by simp [ts.length], Z, S1, _, r.pushEs (A := S) ⟨?_, ?_⟩ (Trs.own ts) fun s m i π z => ?_⟩
        · have := f.nd
          rw [List.cons_append] at this
          exact (List.nodup_cons.mp this).2
        · exact fun x m => f.ok x (List.mem_cons_of_mem _ m)
        · obtain ⟨x, _, rfl⟩ := List.mem_map.mp m
          unfold G.own at z
          split at z <;> cases z
  · cases e
end
def kgUnl (n : Nat) (a : KG) : KG := fun γ q => match γ.tm with
  | s :: tm => (itL s).elim False fun ss => ss.length = n ∧ a ⟨γ.sl, ss ++ tm, γ.n⟩ q
  | _ => False
theorem so_gunl {K : PySem.W.Frag} {n : Nat} {ts : TGs} {es : KG} (b : SoGs xc n ts es) : SoG xc (gUnl K n ts) (kgUnl n es) := fun γ v Θ σ H Q q R hk w => by
  obtain ⟨sl, tm, j⟩ := γ
  unfold kgUnl at hk
  dsimp only at hk
  split at hk
  · obtain ⟨ss, e, hn, hq⟩ := elimF hk
    obtain ⟨a, vs, rfl, ha, el, R2⟩ := R.unpackL e
    exact ⟨a, vs, rfl, SqL.of ha, by omega, b _ vs Θ σ H Q q (by omega) R2 hq w⟩
  · exact hk.elim
/-! ### one thing in three places -/
/-- two tuples go on as they are, or each is told by its middle one thrice -/
def HThr (H H' : Hp) (vt vg x y : V) : Prop := (x = vt ∧ y = vg) ∨ ∃ at0 ts u ag gs u' a1 a2, vt = .ref at0 ∧ H at0 = some (.tup ts) ∧ ts[1]? = some u ∧ vg = .ref ag ∧ H ag = some (.tup gs) ∧ gs[1]? = some u' ∧
  x = .ref a1 ∧ H' a1 = some (.tup [u, u, u]) ∧ y = .ref a2 ∧ H' a2 = some (.tup [u', u', u'])
def spH : Sp := fun vs H Q _ => ∃ p b vt vg ts gs T S, vs = [.ref p, vt, vg] ∧ PuAt H p b ∧ b + 1 ≤ 2 ^ 100 ∧ Rep H T vt (.tuple ts) ∧ Rep H S vg (.tuple gs) ∧ ts.length = 3 ∧ gs.length = 3 ∧ p ∉ T ∧ p ∉ S ∧
  ∀ L x y H', (∀ a o, H a = some o → a ≠ p → H' a = some o) → PuAt H' p (b + 1) → H' L = some (.lst [x, y]) → HThr H H' vt vg x y → Q (.ref L) H'
section
variable {C : Cn} {σ : L2.St} {H : Hp} {sl tm : List Sl} {n : Int} {v : V} {s : Sl} {Θ : List V}
theorem Rel.toSh {ds : List D} {d : D} {ag a2 : Addr} {gs : List V} {u : V} (h : Rel C ⟨sl, .ow true (.tuple ds) :: tm, n⟩ (.ref ag :: Θ) σ H) (e : ds[1]? = some d) (hg : H ag = some (.tup gs)) (hu : gs[1]? = some u) (ha : H a2 = some (.tup [u, u, u])) :
    Rel C ⟨sl, .sh d :: tm, n⟩ (.ref a2 :: Θ) σ H := by
  obtain ⟨Z, S1, S2, h⟩ := h
  obtain ⟨A, B, es, r, f⟩ := RelX.popF (ss := [.ow true (.tuple ds)]) (us := [.ref ag]) h rfl
  obtain ⟨A', en, rfl⟩ : ∃ A', Ent C Z H A' (some (.ref ag)) (.ow true (.tuple ds)) ∧ A = A' := by
    cases es with
    | cons e1 e2 =>
      cases e2
      exact ⟨_, e1, by simp⟩
  cases en with
  | ow t =>
    cases t with
    | tup q ts =>
      rw [hg] at q
      cases q
      obtain ⟨T, R, t1, pm⟩ := ts.get e hu
      have nd := List.nodup_append.mp f.nd
      exact ⟨Z, S1, _, r.pushE (Z' := Z) (.sh ha t1) (List.nodup_append.mp (pm.nodup_iff.mp nd.1)).1 (fun a m => by
        have mA : a ∈ A := pm.mem_iff.mpr (List.mem_append_left _ m)
        exact ⟨fun m' => nd.2.2 a mA a m' rfl, (f.ok a mA).1, (f.ok a mA).2.1⟩) (fun i π z => nomatch z)⟩
theorem Rel.toF3 {ds : List D} {d : D} {at0 a1 : Addr} {ts : List V} {u : V} (h : Rel C ⟨sl, .fz (.tuple ds) :: tm, n⟩ (.ref at0 :: Θ) σ H) (e : ds[1]? = some d) (hg : H at0 = some (.tup ts)) (hu : ts[1]? = some u) (ha : H a1 = some (.tup [u, u, u])) :
    Rel C ⟨sl, .fz (.tuple [d, d, d]) :: tm, n⟩ (.ref a1 :: Θ) σ H := by
  obtain ⟨Z, S1, S2, h⟩ := h
  obtain ⟨A, B, es, r, f⟩ := RelX.popF (ss := [.fz (.tuple ds)]) (us := [.ref at0]) h rfl
  cases es with
  | cons e1 e2 =>
    cases e1 with
    | fz t =>
      cases t with
      | tup q tt =>
        rw [hg] at q
        cases q
        obtain ⟨T, R, t1, pm⟩ := tt.get e hu
        have eT : T = [] := by
          cases T with
          | nil => rfl
          | cons y ys => exact nomatch pm.mem_iff.mpr (List.mem_append_left R (List.mem_cons_self (a := y) (l := ys)))
        subst eT
        exact ⟨Z, S1, _, r.pushE (Z' := Z) (.fz (.tup ha (.cons (S := []) t1 (.cons (S := []) t1 (.cons (S := []) t1 .nil))))) List.nodup_nil (fun a m => nomatch m) (fun i π z => nomatch z)⟩
end
/-- a, b = thrice(purse, frozen, owned) -/
def kThr (ka : KE) (i j : Nat) : KS := fun γ e => ka γ fun γ1 => match γ1.tm with
  | .ow true (.tuple gs) :: .fz (.tuple ts) :: .pu :: r => (1 ≤ γ1.n ∧ ts.length = 3 ∧ gs.length = 3 ∧ i ≠ j ∧ noAl i r = true ∧ noAl j r = true) ∧
      e.nx ⟨(γ1.sl.set i (.fz (.tuple ts))).set j (.ow true (.tuple gs)), r, γ1.n - 1⟩ ∧
      e.nx ⟨(γ1.sl.set i (.fz (.tuple [ts.getD 1 .none, ts.getD 1 .none, ts.getD 1 .none]))).set j (.sh (gs.getD 1 .none)), r, γ1.n - 1⟩
  | _ => False
theorem getD_get {α : Type} {l : List α} {i : Nat} (x : α) (h : i < l.length) : l[i]? = some (l.getD i x) := by
  rw [List.getElem?_eq_getElem h]
  simp [h]
theorem so_thr {K : PySem.W.Frag} {ts : TA} {ka : KE} {i j : Nat} (h : SoA xc 3 ts ka) : SoS xc (tAsg (tCall spH [] E0 ts) (gUnl K 2 (gCons (gName i) (gCons (gName j) gNil)))) (kThr ka i j) := fun γ Θ σ H De e R hk w => h γ Θ σ H _ _ R hk fun γ1 vs H1 el hk1 R1 => by
  obtain ⟨sl, tm, n⟩ := γ1
  match vs, el with
  | [vp, vt, vg], _ =>
    dsimp only at hk1
    split at hk1
    · rename_i gs ts r
      obtain ⟨⟨n1, lt, lg, ij, ni, nj⟩, hA, hB⟩ := hk1
      have R2 : Rel C ⟨sl, .ow true (.tuple gs) :: .fz (.tuple ts) :: .pu :: r, n⟩ (vg :: vt :: vp :: Θ) σ H1 := by simpa using R1
      obtain ⟨Tg, rg, ng⟩ := R2.readAt (k := 0) rfl rfl rfl
      obtain ⟨Tt, rt, nt⟩ := R2.readAt (k := 1) rfl rfl rfl
      have pv : ∃ p b, C.pu = some (p, b) ∧ vp = .ref p := by
        obtain ⟨Z, S1, S2, X⟩ := R2.pop.pop
        obtain ⟨A, B, es, r, f⟩ := RelX.popF (ss := [.pu]) (us := [vp]) X rfl
        cases es with
        | cons e1 e2 =>
          cases e1 with
          | pu q => exact ⟨_, _, q, rfl⟩
      obtain ⟨p, b, epu, rfl⟩ := pv
      have pu : PuAt H1 p (b - n) := by
        obtain ⟨Z, S1, S2, X⟩ := R2
        exact (X.pu p b epu).1
      have bok := C.ok p b epu
      refine ⟨p, b - n, vt, vg, ts, gs, Tt, Tg, by simp, pu, by omega, rt, rg, lt, lg, nt p b epu, ng p b epu, fun L x y H' fr kp hL hx => ?_⟩
      have R3 : Rel C ⟨sl, .ow true (.tuple gs) :: .fz (.tuple ts) :: .pu :: r, n - 1⟩ (vg :: vt :: .ref p :: Θ) σ H' := R2.heap (n' := n - 1) (fun a o e ne => fr a o e (ne p b epu)) (fun p' b' e' => by
        rw [epu] at e'
        cases e'
        have : b - n + 1 = b - (n - 1) := by omega
        rw [← this]
        exact kp)
      refine ⟨L, [x, y], rfl, SqL.of hL, rfl, x, [y], rfl, y, [], rfl, rfl, ?_⟩
      -- both are stored
      have store : ∀ {s2 : Sl} {d1 : D}, (∀ i π, s2 ≠ .al i π) → (Rel C ⟨sl, s2 :: .fz (.tuple ts) :: .pu :: r, n - 1⟩ (y :: vt :: .ref p :: Θ) σ H') → (∀ {sl' : List Sl} {σ' : L2.St}, Rel C ⟨sl', .fz (.tuple ts) :: .pu :: r, n - 1⟩ (vt :: .ref p :: Θ) σ' H' → Rel C ⟨sl', .fz d1 :: .pu :: r, n - 1⟩ (x :: .ref p :: Θ) σ' H') → Rel C ⟨(sl.set i (.fz d1)).set j s2, r, n - 1⟩ Θ ((σ.set i (some x)).set j (some y)) H' := fun {s2 d1} hne Ra kk => by
        have n3 : noAl j (.fz (.tuple ts) :: .pu :: r) = true := by rw [noAl_fz, noAl_pu]; exact nj
        have Rb := kk (Ra.set (i := j) hne n3)
        have n4 : noAl i (.pu :: r) = true := by rw [noAl_pu]; exact ni
        have Rc := (Rb.set (i := i) (fun _ _ z => nomatch z) n4).pop
        rw [List.set_comm _ _ ij, List.set_comm _ _ ij]
        exact Rc
      rcases hx with ⟨rfl, rfl⟩ | ⟨at0, tv, u, ag, gv, u', a1, a2, rfl, q1, q2, rfl, q3, q4, rfl, q5, rfl, q6⟩
      · exact w.nx _ _ _ hA (store (fun _ _ z => nomatch z) R3 fun R => R)
      · have et := getD_get (l := ts) (i := 1) .none (by omega)
        have eg := getD_get (l := gs) (i := 1) .none (by omega)
        have pz : ∀ {a : Addr} {vs : List V}, H1 a = some (.tup vs) → a ≠ p := fun {a vs} e z => by
          subst z
          obtain ⟨x, y, z, e2, _⟩ := pu
          rw [e] at e2
          cases e2
        exact w.nx _ _ _ hB (store (fun _ _ z => nomatch z) (R3.toSh eg (fr _ _ q3 (pz q3)) q4 q6) fun R => R.toF3 et (fr _ _ q1 (pz q1)) q2 q5)
    · exact hk1.elim
theorem spP_mk {c : Int} {W : Tw} {vs vs' : List V} {H : Hp} {Q : VK} {E : XK} {p : Addr} {b : Int} {S : List Addr} {ds : List D} (e : vs = .ref p :: vs') (hp : PuAt H p b) (hb : b + c ≤ 2 ^ 100) (r : Reps H S vs' ds) (np : p ∉ S)
    (w : W ds fun d => ∀ v H', (∀ a o, H a = some o → a ≠ p → H' a = some o) → PuAt H' p (b + c) → New H H' v d → Q v H') : spP c W vs H Q E := ⟨p, b, vs', S, ds, _, e, hp, hb, r, np, w, fun d v H' h => h v H'⟩
/-- what is made is frozen -/
def kFz (ke : KE) : KE := fun γ q => ke γ fun γ1 => match γ1.tm with
  | .fz d :: r => q ⟨γ1.sl, .fz d :: r, γ1.n⟩
  | .ow _ d :: r => q ⟨γ1.sl, .fz d :: r, γ1.n⟩
  | _ => False
theorem so_fz {t : TE} {k : KE} (h : SoE xc t k) : SoE xc t (kFz k) := fun γ Θ σ H Q q R hk w => h γ Θ σ H _ _ R hk fun γ1 v H1 hk1 R1 => by
  obtain ⟨sl, tm, n⟩ := γ1
  dsimp only at hk1
  split at hk1
  · exact w _ _ _ hk1 R1
  · exact w _ _ _ hk1 R1.frzT
  · exact hk1.elim
/-- the first of two things, if it is an effect in the bounds, else the second -/
def spW : Sp := fun vs H Q _ => ∃ v1 v2 n gs S1, vs = [v1, v2] ∧ Rep H S1 v1 (dE (n, gs)) ∧ (n ≤ 6 ∧ gs.length ≤ 8 → Q v1 H) ∧ (¬ (n ≤ 6 ∧ gs.length ≤ 8) → Q v2 H)
def kCallW (ka : KE) : KE := fun γ q => ka γ fun γ1 => match γ1.tm with
  | .fz d2 :: .fz (.tuple [.int n, .list es]) :: r => (intsOf es).elim False fun gs => (n ≤ 6 ∧ gs.length ≤ 8 → q ⟨γ1.sl, .fz (dE (n, gs)) :: r, γ1.n⟩) ∧ (¬ (n ≤ 6 ∧ gs.length ≤ 8) → q ⟨γ1.sl, .fz d2 :: r, γ1.n⟩)
  | _ => False
theorem Rel.under {C : Cn} {σ : L2.St} {H : Hp} {sl r : List Sl} {n : Int} {v1 v2 : V} {d1 d2 : D} {Θ : List V} (h : Rel C ⟨sl, .fz d2 :: .fz d1 :: r, n⟩ (v2 :: v1 :: Θ) σ H) : Rel C ⟨sl, .fz d2 :: r, n⟩ (v2 :: Θ) σ H := by
  have h0 := h.pop.pop
  obtain ⟨Z, S1, S2, X⟩ := h
  obtain ⟨A, B, es, Y, f⟩ := RelX.popF (ss := [.fz d2, .fz d1]) (us := [v2, v1]) X rfl
  cases es with
  | cons e2 e1 =>
    cases e2 with
    | fz t2 => exact ⟨Z, S1, _, Y.pushE (Z' := Z) (.fz t2) List.nodup_nil (fun a m => nomatch m) (fun i π z => nomatch z)⟩
theorem so_callW {ts : TA} {ka : KE} (h : SoA xc 2 ts ka) : SoE xc (tCall spW [] E0 ts) (kCallW ka) := fun γ Θ σ H Q q R hk w => h γ Θ σ H _ _ R hk fun γ1 vs H1 el hk1 R1 => by
  obtain ⟨sl, tm, n⟩ := γ1
  match vs, el with
  | [v1, v2], _ =>
    dsimp only at hk1
    split at hk1
    · rename_i d2 m es r
      obtain ⟨gs, eg, h1, h2⟩ := elimF hk1
      obtain rfl := intsOf_eq eg
      have R2 : Rel C ⟨sl, .fz d2 :: .fz (dE (m, gs)) :: r, n⟩ (v2 :: v1 :: Θ) σ H1 := by simpa using R1
      obtain ⟨T, rp, _⟩ := R2.readAt (k := 1) rfl rfl rfl
      exact ⟨v1, v2, m, gs, T, by simp, rp, fun c => w _ _ _ (h1 c) R2.pop, fun c => w _ _ _ (h2 c) R2.under⟩
    · exact hk1.elim
theorem datS_sh {d : D} : datS (.sh d) = some (.tuple [d, d, d]) := rfl
theorem chg_sh {d : D} {k : Nat} : chgS (.sh d) [k] = if k < 3 then some (d, fun e => .sh e) else none := rfl
theorem chg_tup {ds : List D} {k : Nat} : chgS (.ow true (.tuple ds)) [k] = (ds[k]?).map fun d => (d, fun e => .ow true (.tuple (ds.set k e))) := rfl
theorem chg_lst {ds : List D} {k : Nat} : chgS (.ow true (.list ds)) [k] = (ds[k]?).map fun d => (d, fun e => .ow true (.list (ds.set k e))) := rfl
end G
/-! GAE: pairs that are held, walked over where they stand; what is given to a def that spoils it. -/
namespace G
open PySem PySem.Spec PyProof.Rows L2
variable {C : Cn} {xc : XC C}
section
variable {C : Cn} {Z : Reg} {S1 S2 : List Addr} {σ : L2.St} {H : Hp} {sl tm : List Sl} {n : Int} {v : V} {Θ : List V} {d : D}
/-- an owned tree on the stack is given away: all else stays -/
theorem Rel.eat (h : Rel C ⟨sl, .ow true d :: tm, n⟩ (v :: Θ) σ H) : ∃ S, Rep H S v d ∧ S.Nodup ∧ ∀ H', (∀ a o, H a = some o → a ∉ S → H' a = some o) → Rel C ⟨sl, tm, n⟩ Θ σ H' := by
  obtain ⟨Z, S1, S2, h⟩ := h
  obtain ⟨A, B, es, X, f⟩ := RelX.popF (ss := [.ow true d]) (us := [v]) h rfl
  obtain ⟨A', en, rfl⟩ : ∃ A', Ent C Z H A' (some v) (.ow true d) ∧ A = A' := by
    cases es with
    | cons e1 e2 =>
      cases e2
      exact ⟨_, e1, by simp⟩
  cases en with
  | ow t =>
    have nd := List.nodup_append.mp f.nd
    refine ⟨A, Tr.repO _ _ _ t, nd.1, fun H' fr => ?_⟩
    have kt : ∀ t vs, H t = some (.tup vs) → H' t = some (.tup vs) := fun t' vs e => fr t' _ e fun m => by
      obtain ⟨xs, e2⟩ := Tr.dom _ _ _ t t' m
      rw [e] at e2
      cases e2
    have kz0 : ∀ a, C.tz Z a → ∀ o, H a = some o → H' a = some o := fun a z o e => fr a o e fun m => (f.ok a m).1 z
    have kz : ∀ a, Z a → ∀ o, H a = some o → H' a = some o := fun a z => kz0 a (.inl z)
    have ks : ∀ a ∈ S1 ++ B, ∀ o, H a = some o → H' a = some o := fun a m o e => fr a o e fun m' => nd.2.2 a m' a m rfl
    refine ⟨Z, S1, B, fun a o e m => ⟨(X.fr a o e m).1, kz0 a (X.fr a o e m).1 o (X.fr a o e m).2⟩, X.es.mono kt (fun _ z => z) kz fun a m => ks a (List.mem_append_left _ m), X.et.mono kt (fun _ z => z) kz fun a m => ks a (List.mem_append_right _ m), X.nd, X.nz, fun p b q => ⟨(X.pu p b q).1.mono fun o e => fr p o e fun m => (f.ok p m).2.1 p b q rfl, (X.pu p b q).2⟩, fun a z => ?_, X.dj, fun j i π v' e ev => ?_⟩
    · obtain ⟨o, e⟩ := X.ex a z
      exact ⟨o, kz0 a z o e⟩
    · obtain ⟨s, d', e', w, e1, e2, e3, e4, wk⟩ := X.al j i π v' e ev
      obtain ⟨w', T', ew, t', sub⟩ := X.slot e1 e2
      rw [e4] at ew
      cases ew
      exact ⟨s, d', e', w, e1, e2, e3, e4, (Tr.part t' e3 wk).2 H' kt fun a z => z.elim (kz a) fun m => ks a (List.mem_append_left _ (sub a m))⟩
end
theorem set_own (l : List (Option V)) (i : Nat) : l.set i ((l[i]?).getD none) = l := by
  refine List.ext_getElem? fun j => ?_
  by_cases hj : i = j
  · subst hj
    rcases Nat.lt_or_ge i l.length with z | z
    · rw [List.getElem?_set_self z, List.getElem?_eq_getElem z]
      rfl
    · rw [List.getElem?_eq_none (by rw [List.length_set]; exact z), List.getElem?_eq_none z]
  · rw [List.getElem?_set_ne hj]
/-- for i, j in h: if not f(i, j): return False — where each pair is right -/
def kPairs (W : Tw) (h i j : Nat) : KS := fun γ e => match γ.sl[h]? with
  | some (.ow true (.list ds)) => ((i < γ.sl.length ∧ j < γ.sl.length) ∧ noAl i γ.tm = true ∧ noAl j γ.tm = true) ∧ (∀ d ∈ ds, ∃ x y, d = .list [x, y] ∧ W [x, y] fun r => r = .bool true) ∧ e.nx ⟨(γ.sl.set i .jk).set j .jk, γ.tm, γ.n⟩
  | _ => False
theorem so_pairs {K : PySem.W.Frag} {W : Tw} {h i j : Nat} (hij : i ≠ j) : SoS xc (tFor (iList K (tVar h)) (gUnl K 2 (gCons (gName i) (gCons (gName j) gNil))) (tIfS (tNot (tTest (tCall (spT W) [] E0 (tCons (tVar i) (tCons (tVar j) tNil))))) (tRet (tC (.bl false))) tNext)) (kPairs W h i j) := fun γ Θ σ H De e R hk w => by
  obtain ⟨sl, tm, n⟩ := γ
  unfold kPairs at hk
  dsimp only at hk
  split at hk
  · rename_i ds eh
    obtain ⟨⟨⟨li, lj⟩, ni, nj⟩, hd, hq⟩ := hk
    obtain ⟨Z, S1, S2, X⟩ := id R
    have lσ : σ.length = sl.length := X.es.length
    obtain ⟨w0, T, ew, t, _⟩ := X.slot eh rfl
    have key : ∃ a vs S, w0 = .ref a ∧ H a = some (.lst vs) ∧ Trs H Z S vs ds := by
      cases t with
      | lst h1 h2 => exact ⟨_, _, _, rfl, h1, h2⟩
      | lstZ _ h1 h2 => exact ⟨_, _, _, rfl, h1, h2⟩
    obtain ⟨a, vs, S, rfl, ha, ts⟩ := key
    have len := ts.length
    refine ⟨.ref a, ew, a, rfl, ⟨vs, SqL.of ha⟩, ?_⟩
    refine for_list (xs := vs) (fun _ σ' H' => Same H H' ∧ ∃ oi oj, σ' = (σ.set i oi).set j oj) ⟨Same.refl _, (σ[i]?).getD none, (σ[j]?).getD none, by rw [set_own, set_own]⟩ (fun _ σ' H' _ p => SqL.of (p.1 _ _ ha)) (fun k x σ' H' hx p => ?_) (fun σ' H' p => ?_)
    · obtain ⟨sm, oi, oj, rfl⟩ := p
      have hkl : k < vs.length := (List.getElem?_eq_some_iff.mp hx).1
      obtain ⟨dk, hdk⟩ : ∃ y, ds[k]? = some y := ⟨_, List.getElem?_eq_getElem (show k < ds.length by omega)⟩
      obtain ⟨x1, y1, rfl, hw⟩ := hd dk (List.mem_of_getElem? hdk)
      obtain ⟨T1, R1, t1, _⟩ := ts.get hdk hx
      have key : ∃ b u1 u2 A1 A2, x = .ref b ∧ H b = some (.lst [u1, u2]) ∧ Tr H Z A1 u1 x1 ∧ Tr H Z A2 u2 y1 := by
        have go : ∀ {us : List V} {S : List Addr}, Trs H Z S us [x1, y1] → ∃ u1 u2 A1 A2, us = [u1, u2] ∧ Tr H Z A1 u1 x1 ∧ Tr H Z A2 u2 y1 := fun q => by
          cases q with
          | cons q1 q2 => cases q2 with
            | cons q2 q3 => cases q3; exact ⟨_, _, _, _, rfl, q1, q2⟩
        cases t1 with
        | lst h1 h2 =>
          obtain ⟨u1, u2, A1, A2, rfl, q1, q2⟩ := go h2
          exact ⟨_, u1, u2, A1, A2, rfl, h1, q1, q2⟩
        | lstZ _ h1 h2 =>
          obtain ⟨u1, u2, A1, A2, rfl, q1, q2⟩ := go h2
          exact ⟨_, u1, u2, A1, A2, rfl, h1, q1, q2⟩
      obtain ⟨b, u1, u2, A1, A2, rfl, hb, q1, q2⟩ := key
      obtain ⟨B1, r1, _⟩ := Tr.rep _ _ _ q1
      obtain ⟨B2, r2, _⟩ := Tr.rep _ _ _ q2
      refine ⟨b, [u1, u2], rfl, SqL.of (sm _ _ hb), rfl, u1, [u2], rfl, u2, [], rfl, rfl, ?_⟩
      have lj' : j < (((σ.set i oi).set j oj).set i (some u1)).length := by simp only [List.length_set]; omega
      have li' : i < ((σ.set i oi).set j oj).length := by simp only [List.length_set]; omega
      refine ⟨u1, by rw [List.getElem?_set_ne hij.symm, List.getElem?_set_self li'], u2, by rw [List.getElem?_set_self lj'], ?_⟩
      refine ⟨_, [x1, y1], _, .cons (r1.same sm) (.cons (r2.same sm) .nil), hw, fun d v H2 ed sm2 nw => ?_⟩
      subst ed
      obtain ⟨S3, r3, _⟩ := nw
      cases r3
      refine ⟨true, rfl, ?_⟩
      refine iteF ⟨fun c o ec => sm2 _ _ (sm _ _ ec), some u1, some u2, ?_⟩
      rw [List.set_comm _ _ hij.symm, List.set_set, List.set_set]
    · obtain ⟨sm, oi, oj, rfl⟩ := p
      exact w.nx _ _ _ hq (((R.same sm).jk ni oi).jk nj oj)
  · exact hk.elim
theorem firsts {H : Hp} : ∀ {ps : List (D × D)} {S : List Addr} {vs : List V}, Reps H S vs (ps.map fun p => PyData.list [p.1, p.2]) → ∃ us T R, us.length = ps.length ∧ Reps H T us (ps.map (·.1)) ∧ S.Perm (T ++ R) ∧ ∀ (k : Nat) (x : V), vs[k]? = some x → ∃ a u u', x = .ref a ∧ H a = some (.lst [u, u']) ∧ us[k]? = some u
  | [], _, _, h => by
    cases h
    exact ⟨[], [], [], rfl, .nil, .refl _, fun k x e => by simp at e⟩
  | p :: ps, _, _, h => by
    cases h with
    | @cons A B v vs _ _ h1 h2 =>
      obtain ⟨us, T, R, el, r, pm, k⟩ := firsts h2
      cases h1 with
      | @lst a ws S' _ ha rs =>
        cases rs with
        | @cons A1 B1 u _ _ _ q1 q2 => cases q2 with
          | @cons A2 B2 u' _ _ _ q2 q3 =>
            cases q3
            refine ⟨u :: us, A1 ++ T, a :: (A2 ++ R), by simp [el], .cons q1 r, ?_, fun k' x e => ?_⟩
            · refine List.perm_iff_count.mpr fun x => ?_
              have q := pm.count_eq x
              simp only [List.count_append, List.count_cons, List.count_nil] at q ⊢
              omega
            · cases k' with
              | zero =>
                simp at e
                subst e
                exact ⟨a, u, u', rfl, ha, rfl⟩
              | succ k' => simpa using k k' x (by simpa using e)
/-- f([r[0] for r in h]) of a def that is given its argument: True -/
def kAloneH (h r : Nat) : KE := fun γ q => match γ.sl[h]? with
  | some (.ow true (.list ds)) => (r < γ.sl.length ∧ noAl h γ.tm = true) ∧ ∃ ps : List (D × D), ds = ps.map (fun p => PyData.list [p.1, p.2]) ∧ ps.length ≤ 1000 ∧ Sh 7 1000000 (.list (ps.map (·.1))) ∧ nl (.list (ps.map (·.1))) ≤ 10000 ∧ q ⟨γ.sl.set h .jk, .fz (.bool true) :: γ.tm, γ.n⟩
  | _ => False
theorem so_aloneH {K : PySem.W.Frag} {h r : Nat} : SoE xc (tCall spEat [] E0 (tCons (tLc (iList K (tVar h)) (gName r) tYes (tOp (rIxL K) (tVar r) (tC (.int 0))) [r]) tNil)) (kAloneH h r) := fun γ Θ σ H Q q R hk w => by
  obtain ⟨sl, tm, n⟩ := γ
  unfold kAloneH at hk
  dsimp only at hk
  split at hk
  · rename_i ds eh
    obtain ⟨⟨lr, na⟩, ps, rfl, lps, sh, hn, hq⟩ := hk
    have lσ : σ.length = sl.length := by
      obtain ⟨Z, S1, S2, X⟩ := id R
      exact X.es.length
    obtain ⟨v, ev, R1⟩ := R.mov eh na
    obtain ⟨S, rp, nd, kk⟩ := R1.eat
    cases rp with
    | @lst a vs S' _ ha rs =>
      have len := rs.length
      rw [List.length_map] at len
      obtain ⟨us, T, Rr, el, rT, pm, it⟩ := firsts rs
      have subT : ∀ b ∈ T, b ∈ S' := fun b m => pm.mem_iff.mpr (List.mem_append_left _ m)
      have ndT : T.Nodup := (List.nodup_append.mp (pm.nodup_iff.mp (List.nodup_cons.mp nd).2)).1
      refine ⟨.ref a, ev, a, rfl, ⟨vs, SqL.of ha⟩, fun Dl hD => ?_⟩
      have up : ∀ {H' : Hp} {o' : HO}, Same H H' → Same H (upd H' Dl o') := fun sm b o e => by
        rw [upd_ne (show b ≠ Dl from fun z => by rw [z, hD] at e; cases e)]
        exact sm _ _ e
      refine lc_list (xs := vs) (fun k H' => Same H H' ∧ H' Dl = some (.lst (us.take k))) ⟨up (Same.refl _), by rw [List.take_zero]; exact upd_same⟩ (fun k H' _ p => SqL.of (p.1 _ _ ha)) (fun k x H' hx p => ?_) (fun H' p => ?_)
      · obtain ⟨sm, hD'⟩ := p
        obtain ⟨b, u, u', rfl, hb, hu⟩ := it k x hx
        refine ⟨by show ((σ.set r none).set r _).set r none = σ.set r none; rw [List.set_set, List.set_set], ?_⟩
        unfold tYes
        dsimp only
        rw [if_pos rfl]
        refine ⟨.ref b, by rw [List.getElem?_set_self (by show r < (σ.set r none).length; rw [List.length_set]; omega)], b, [u, u'], 0, u, rfl, rfl, SqL.of (sm _ _ hb), rfl, us.take k, hD', szlt ?_, up sm, ?_⟩
        · rw [List.length_take]
          omega
        · rw [List.take_add_one, hu]
          exact upd_same
      · obtain ⟨sm, hD'⟩ := p
        rw [len, ← el, List.take_length] at hD'
        refine ⟨.ref Dl, .list (ps.map (·.1)), Dl :: T, rfl, .lst hD' (Reps.mono (fun t xs e => sm _ _ e) _ _ _ rT fun b m o e => sm b o e), List.nodup_cons.mpr ⟨fun m => ?_, ndT⟩, sh, hn, fun rr H2 er fr => ?_⟩
        · obtain ⟨xs, e⟩ := Reps.dom _ _ _ rT Dl m
          rw [hD] at e
          cases e
        · subst er
          refine w _ _ _ hq ((kk H2 fun b o e m => fr b o (sm b o e) fun m' => ?_).push fun Z => .bl true)
          rcases List.mem_cons.mp m' with z | z
          · rw [z, hD] at e
            cases e
          · exact m (List.mem_cons_of_mem _ (subT b z))
  · exact hk.elim
/-- f(o, [0]) of the def that spoils what it is given -/
def kSpoil (m o : Nat) : KS := fun γ e => match γ.sl[o]? with
  | some (.ow true d) => (noAl o γ.tm = true ∧ d.depth < m ∧ wd d ≤ 10000000) ∧ e.nx ⟨γ.sl.set o .jk, γ.tm, γ.n⟩
  | some (.fz d) => (nolist d = true ∧ d.depth < m ∧ wd d ≤ 10000000) ∧ e.nx γ
  | _ => False
theorem so_spoil {m o : Nat} : SoS xc (tDrop (tCall (spSpoil m) [] E0 (tCons (tVar o) (tCons (tLst (tCons (tC (.int 0)) tNil)) tNil)))) (kSpoil m o) := fun γ Θ σ H De e R hk w => by
  obtain ⟨sl, tm, n⟩ := γ
  unfold kSpoil at hk
  dsimp only at hk
  split at hk
  · rename_i d eh
    obtain ⟨⟨na, dp, sz⟩, hq⟩ := hk
    obtain ⟨v, ev, R1⟩ := R.mov eh na
    obtain ⟨S, rp, nd, kk⟩ := R1.eat
    have dom := Rep.dom _ _ _ rp
    refine ⟨v, ev, szle (by simp), fun l hl => ?_⟩
    have up : Same H (upd H l (.lst [.int 0])) := same_upd hl
    refine ⟨v, l, d, 0, S, rfl, Rep.mono (fun t vs e => up _ _ e) _ _ _ rp (fun a m o e => up a o e), nd, fun m => ?_, upd_same, dp, sz, fun H2 fr _ _ => ?_⟩
    · obtain ⟨xs, e⟩ := dom l m
      rw [hl] at e
      cases e
    · exact w.nx _ _ _ hq (kk H2 fun a o e m => fr a o (up a o e) m (ne_of_none e hl))
  · rename_i d eh
    obtain ⟨⟨nl, dp, sz⟩, hq⟩ := hk
    obtain ⟨Z, S1, S2, X⟩ := id R
    obtain ⟨v, T, ev, t, _⟩ := X.slot eh rfl
    have t0 := (Tr.nolist (Z' := noReg) d T v t nl).2
    have rp := Tr.repO _ _ _ t0
    refine ⟨v, ev, szle (by simp), fun l hl => ?_⟩
    have up : Same H (upd H l (.lst [.int 0])) := same_upd hl
    refine ⟨v, l, d, 0, [], rfl, Rep.mono (fun t vs e => up _ _ e) _ _ _ rp (fun a m o e => up a o e), List.nodup_nil, (fun m => nomatch m), upd_same, dp, sz, fun H2 fr _ _ => ?_⟩
    exact w.nx _ _ _ hq (R.same fun a o e => fr a o (up a o e) (fun m => nomatch m) (ne_of_none e hl))
  · exact hk.elim
end G
/-! GAF: texts. -/
namespace G
open PySem PySem.Spec PyProof.Rows L2
variable {C : Cn} {xc : XC C}
def vLenS : List D → (D → Prop) → Prop := fun ds q => match ds with
  | [.str z] => z.length ≤ 10000000 ∧ q (.int z.length)
  | _ => False
theorem sc_lenS : SoC 1 (fun xs H Q => ∃ z, xs = [.str z] ∧ z.length ≤ sizeLine ∧ Q (.int z.length) H) vLenS := fun H vs T ds Q q r el hf w => by
  unfold vLenS at hf
  split at hf
  · obtain ⟨v, T', rfl, r1⟩ := r.c1
    cases r1
    exact ⟨_, rfl, szle hf.1, w _ _ (sca_int _) hf.2⟩
  · exact hf.elim
def vCatS : D → D → (D → Prop) → Prop := fun d1 d2 q => match d1, d2 with
  | .str a, .str b => a.length + b.length ≤ 10000000 ∧ q (.str (a ++ b))
  | _, _ => False
theorem sr_catS : SoR (fun x y H Q => ∃ i j, x = .str i ∧ y = .str j ∧ i.length + j.length ≤ sizeLine ∧ Q (.str (i ++ j)) H) vCatS := fun H v1 v2 T1 T2 d1 d2 Q q r1 r2 hf w => by
  unfold vCatS at hf
  split at hf
  · cases r1
    cases r2
    exact ⟨_, _, rfl, rfl, szle hf.1, w _ _ (sca_str _) hf.2⟩
  · exact hf.elim
/-- a sign of a text -/
def vIxS : D → D → (D → Prop) → Prop := fun d1 d2 q => match d1, d2 with
  | .str z, .int i => z.length ≤ 10000000 ∧ (atI z.cps.toList i).elim False fun c => q (.str ⟨#[c]⟩)
  | _, _ => False
theorem sr_ixS : SoR rIxS vIxS := fun H v1 v2 T1 T2 d1 d2 Q q r1 r2 hf w => by
  unfold vIxS at hf
  split at hf
  · cases r1
    cases r2
    obtain ⟨c, e, hq⟩ := elimF hf.2
    exact ⟨_, _, c, rfl, rfl, szle hf.1, e, w _ _ (sca_str _) hq⟩
  · exact hf.elim
theorem vIxS_any {z : Str} {i : Int} {q : D → Prop} (h0 : 0 ≤ i) (h1 : i < z.length) (hz : z.length ≤ 10000000) (h : ∀ c ∈ z.cps.toList, q (.str ⟨#[c]⟩)) : vIxS (.str z) (.int i) q := by
  have hl : z.length = z.cps.toList.length := by simp [Str.length]
  obtain ⟨k, rfl⟩ : ∃ k : Nat, i = k := ⟨i.toNat, by omega⟩
  have hk : k < z.cps.toList.length := by omega
  refine ⟨hz, ?_⟩
  rw [atI_nat (List.getElem?_eq_getElem hk)]
  exact h _ (List.getElem_mem hk)
/-- str of a whole number -/
def vStrI : List D → (D → Prop) → Prop := fun ds q => match ds with
  | [.int i] => i.natAbs.log2 < 1920 ∧ q (.str (toString i))
  | _ => False
theorem sc_strI : SoC 1 (fun xs H Q => ∃ i, xs = [.int i] ∧ i.natAbs.log2 < 1920 ∧ Q (.str (toString i)) H) vStrI := fun H vs T ds Q q r el hf w => by
  unfold vStrI at hf
  split at hf
  · obtain ⟨v, T', rfl, r1⟩ := r.c1
    cases r1
    exact ⟨_, rfl, hf.1, w _ _ (sca_str _) hf.2⟩
  · exact hf.elim
/-- texts out of data -/
def strsOf : List D → Option (List Str)
  | [] => some []
  | .str s :: ds => (strsOf ds).bind fun r => some (s :: r)
  | _ :: _ => none
theorem strsOf_map (ss : List Str) : strsOf (ss.map PyData.str) = some ss := by
  induction ss with
  | nil => rfl
  | cons n ns ih => simp [strsOf, ih]
theorem strsOf_eq : ∀ {ds : List D} {ns : List Str}, strsOf ds = some ns → ds = ns.map PyData.str
  | [], ns, h => by simp only [strsOf, Option.some.injEq] at h; subst h; rfl
  | d :: ds, ns, h => by
    cases d with
    | str i =>
      simp only [strsOf] at h
      cases e : strsOf ds with
      | none => rw [e] at h; cases h
      | some r =>
        rw [e] at h
        simp only [Option.bind_some, Option.some.injEq] at h
        subst h
        rw [strsOf_eq e]
        rfl
    | _ => cases h
theorem Reps.strsInv {H : Hp} : ∀ {ss : List Str} {vs : List V} {T : List Addr}, Reps H T vs (ss.map PyData.str) → vs = ss.map V.str
  | [], _, _, h => by cases h; rfl
  | s :: ss, _, _, h => by
    cases h with
    | cons h1 h2 =>
      cases h1
      rw [Reps.strsInv h2]
      rfl
abbrev rJoin (K : PySem.W.Frag) : V → List V → Hp → VK → Prop := fun x xs H Q => ∃ a p, ∃ ys : List Str, x = .str a ∧ xs = [.ref p] ∧ (SqL K H p (ys.map V.str) ∨ SqT K H p (ys.map V.str)) ∧
    (ys.map (·.length)).sum + ys.length * a.length ≤ 16777216 ∧ Q (.str (Txt.join a ys)) H
/-- a.join(a list of texts) -/
def kJoin (a : Str) (ke : KE) : KE := fun γ q => ke γ fun γ1 => (datN γ1.sl 1 γ1.tm).elim False fun x => match x.1 with
  | [.list ds] => (strsOf ds).elim False fun ys => (ys.map (·.length)).sum + ys.length * a.length ≤ 16777216 ∧ q ⟨γ1.sl, .fz (.str (Txt.join a ys)) :: x.2, γ1.n⟩
  | _ => False
theorem so_join {K : PySem.W.Frag} {a : Str} {t : TE} {ke : KE} (h : SoE xc t ke) : SoE xc (tM1 (rJoin K) (tC (.str a)) t) (kJoin a ke) := fun γ Θ σ H Q q R hk w => ⟨⟨a, rfl⟩, h γ Θ σ H _ _ R hk fun γ1 v H1 hk1 R1 => by
  obtain ⟨⟨ds0, rr⟩, e, hf⟩ := elimF hk1
  obtain ⟨R3, T, rp, _⟩ := Rel.pops (vs := [v]) (Θ := Θ) (by simpa using R1) rfl e
  dsimp only at hf
  split at hf
  · rename_i ds
    obtain ⟨ys, ey, hl, hq⟩ := elimF hf
    obtain rfl := strsOf_eq ey
    cases rp with
    | cons r1 r2 =>
      cases r2
      cases r1 with
      | @lst p vs S _ hp rs =>
        rw [rs.strsInv] at hp
        exact ⟨a, p, ys, rfl, rfl, .inl (SqL.of hp), hl, w _ _ H1 hq (R3.push fun Z => .str _)⟩
  · exact hf.elim⟩
/-! ### facts of texts -/
def TxOk (s : Str) : Prop := s.length ≤ 20 ∧ PyData.strOk s = true
theorem strOk_iff {s : Str} : PyData.strOk s = true ↔ ∀ c ∈ s.cps.toList, c < 0x110000 := by
  unfold PyData.strOk
  rw [Array.all_eq_true]
  refine ⟨fun h c hc => ?_, fun h i hi => ?_⟩
  · obtain ⟨i, hi, rfl⟩ := List.getElem_of_mem hc
    simpa using h i (by simpa using hi)
  · exact decide_eq_true (h _ (by simp))
theorem strOk_app {a b : Str} (ha : PyData.strOk a = true) (hb : PyData.strOk b = true) : PyData.strOk (a ++ b) = true := by
  rw [strOk_iff] at ha hb ⊢
  intro c hc
  have e : (a ++ b).cps.toList = a.cps.toList ++ b.cps.toList := by
    show (a.cps ++ b.cps).toList = _
    simp
  rw [e] at hc
  rcases List.mem_append.mp hc with hc | hc
  · exact ha c hc
  · exact hb c hc
theorem strOk_join {a : Str} (ha : PyData.strOk a = true) : ∀ {ys : List Str}, (∀ y ∈ ys, PyData.strOk y = true) → PyData.strOk (Str.join a ys) = true
  | [], _ => by
    rw [strOk_iff]
    intro c hc
    exact absurd hc (by simp [Str.join, Str.empty])
  | [x], h => h x List.mem_cons_self
  | x :: y :: r, h => strOk_app (strOk_app (h x List.mem_cons_self) ha) (strOk_join ha fun z hz => h z (List.mem_cons_of_mem _ hz))
theorem txt_join {a : Str} (ha : PyData.strOk a = true) {ys : List Str} (h : ∀ y ∈ ys, PyData.strOk y = true) : PyData.strOk (Txt.join a ys) = true ∧ (Txt.join a ys).length ≤ (ys.map (·.length)).sum + ys.length * a.length := by
  have e : Txt.join a ys = Str.join a ys := StrLaws.glued_eq_join a ys
  rw [e]
  exact ⟨strOk_join ha h, StrLaws.join_length_le a ys⟩
theorem sh_txt {s : Str} (h : TxOk s) : Sh 1 205 (.str s) := by
  refine ⟨by simp [PyData.showable], by simp [PyData.depth], ?_⟩
  show (reprText s).length ≤ 205
  have hk := strOk_iff.mp h.2
  have hl : s.cps.toList.length ≤ 20 := by
    have := h.1
    simpa [Str.length] using this
  rw [← reprLen_eq, ← Array.foldl_toList]
  have go : ∀ (q : Nat) (l : List Nat) (n : Nat), (∀ c ∈ l, c < 0x110000) → l.foldl (fun n c => n + (Builtin.Str.reprChar q c).length) n ≤ n + 10 * l.length := fun q l => by
    induction l with
    | nil => intro n _; simp
    | cons c l ih =>
      intro n hc
      have a1 := ih (n + (Builtin.Str.reprChar q c).length) fun x hx => hc x (List.mem_cons_of_mem _ hx)
      have a2 := StrLaws.reprChar_len q c (Nat.lt_trans (hc c List.mem_cons_self) (by decide))
      simp only [List.foldl_cons, List.length_cons]
      omega
  have := go (reprQuote s) s.cps.toList 2 hk
  omega
end G
/-! GAG: defs that raise. -/
namespace G
open PySem PySem.Spec PyProof.Rows L2
section
variable {P : Program} {w : World} {K : PySem.W.Frag} {mg : Str → Option Value} {base : Heap} {k : Nat} {f : Addr} {fd : FuncData} {ps : List Str} {sp : Sp}
/-- a def that may raise -/
theorem okGX {x qual : Str} {st : Stmt} {N : List Str} (F : Fun K x qual st f fd) (S : FnScope N ps (defScope st)) (len : ∀ vs H Q E, sp vs H Q E → vs.length = ps.length)
    (hb : ∀ (cdv : Value) (A : Around) (outer : List Env) (s : Shared) (H : Hp) (vs : List V) (Q : VK) (E : XK), Bare (A.deeper (envOfC qual (defScope st) s.heap.objs.size f cdv)) → Room k (A.deeper (envOfC qual (defScope st) s.heap.objs.size f cdv)) → sp vs H Q E →
      ∃ t, PSs (cxOf (L2.CX P w) P w K mg base N qual (defScope st) f cdv A outer s H E) (defBody st) t ∧ t ⟨fun _ H' => Q .non H', Q, fun _ _ => False, fun _ _ => False⟩ (start N vs) H) : FnG P w K mg base (L2.CX P w) (k + 1) f fd ps sp := by
  obtain ⟨oc, od, kV, doc, pm, an, cdv, ct, osl, rfl, lk, hcd⟩ := F.ex
  exact fn_ofG lk hcd S len fun A outer s H vs Q E hg hr q => hb cdv A outer s H vs Q E hg hr q
end
section
variable {X : Cx} {CX : CXT} {k : Nat} {f : Addr} {fd : FuncData} {ps : List Str} {sp : Sp} {E : L2.St → XK} {x : Str} {p pos : Pos} {e : Expr} {es : List Expr} {t : TA}
/-- f(e, ..) of a def that may raise, where what it lets out is taken -/
theorem pe_callSG (F : FnG X.prog X.w X.K X.mg X.base CX k f fd ps sp) (hb : Bare X.A) (hr : Room k X.A) (hg : Gl X x) (hm : X.mg x = some (.ref f)) (hk : PySem.W.keepIn X.K (.ref f) = true) (bd : Binds X.K fd ps []) (hx : ∀ σ, PassesAt CX X σ (E σ))
    (ha : PA X (e :: es) t) (hdb : (x == ("__debug__" : Str)) = false := by decide) (he : starEach (e :: es) X.env = (false, eval e X.env) :: starEach es X.env := by rfl) (hpl : (backTo pos (starEach es X.env)).any (·.1) = false := by rfl) :
    PE X (.Call (.Name x p) (e :: es) [] pos) (tCallS sp E t) := by
  refine ⟨fun pins s σ H Q I h => wpAny_Call_Name_kw (ld_glob I hg hm (PySem.W.callWith_K (h₀ := X.base) I.ok.mod.kin hk (thn (ha.run pos pins s σ H _ I h) fun us s1 ⟨vs, H1, I1, r, q⟩ => ⟨I1.kIn, ?_⟩) he hpl) hdb)⟩
  have hl : us.length = ps.length := by rw [← r.length]; exact F.len _ _ _ _ q
  have b := bd s1 us I1.kIn (by rw [List.append_nil]; exact hl)
  rw [List.append_nil] at b
  refine wpAny_call (codeAny_mono (F.run X.A X.stack s1 H1 ⟨us, []⟩ us vs Q (E σ) hb hr I1.env0 b r q) fun r s' hq => ?_)
  cases r with
  | error e => exact hx σ pins H1 s1 e s' I1 hq
  | ok fl =>
    cases fl with
    | ret u => exact I1.after hq
    | next => exact False.elim hq
    | brk => exact False.elim hq
    | cont => exact False.elim hq
end
section
variable {X : Cx} {CX : CXT} {k : Nat} {f : Addr} {fd : FuncData} {ps ks : List Str} {sp : Sp} {E : L2.St → XK} {x : Str} {p pos : Pos} {kws : List Keyword} {tk : TA} {g : List Value → List Value → List Value} {gV : List V → List V → List V}
def tCallKS (sp : Sp) (gV : List V → List V → List V) (E : L2.St → XK) (tk : TA) : TE := fun σ H Q => tk σ H fun zs H1 => sp (gV [] zs) H1 Q (E σ)
/-- f(k = v, ..) of a def that may raise -/
theorem pe_callK0SG (F : FnG X.prog X.w X.K X.mg X.base CX k f fd ps sp) (hb : Bare X.A) (hr : Room k X.A) (hg : Gl X x) (hm : X.mg x = some (.ref f)) (hk : PySem.W.keepIn X.K (.ref f) = true) (kb : KBinds X.K fd ps ks g gV) (hx : ∀ σ, PassesAt CX X σ (E σ))
    (hkw : PK X kws tk) (hall : (backToKw pos (keywordEach kws X.env)).all (·.1.isSome) = true := by rfl) (hks : (backToKw pos (keywordEach kws X.env)).filterMap (·.1) = ks := by rfl) (hdb : (x == ("__debug__" : Str)) = false := by decide)
    (hpl : ((backTo pos (starEach [] X.env)).any (·.1) || (backToKw pos (keywordEach kws X.env)).any (·.1.isNone)) = false := by rfl) : PE X (.Call (.Name x p) [] kws pos) (tCallKS sp gV E tk) := by
  refine ⟨fun pins s σ H Q I h => wpAny_Call_Name_kw (ld_glob I hg hm (PySem.W.callWith_KW0 (h₀ := X.base) I.ok.mod.kin hk hall (thn (hkw.run pos pins s σ H _ I h) fun ws s1 ⟨zs, H1, I1, rz, q⟩ => ⟨I1.kIn, ?_⟩) hpl) hdb)⟩
  rw [hks]
  have r2 := kb.rel (us := []) (vs := []) .nil rz
  refine wpAny_call (codeAny_mono (F.run X.A X.stack s1 H1 ⟨[], ks.zip ws⟩ (g [] ws) (gV [] zs) Q (E σ) hb hr I1.env0 (kb.to s1 [] ws I1.kIn (r2.length.symm.trans (F.len _ _ _ _ q))) r2 q) fun r s' hq => ?_)
  cases r with
  | error e => exact hx σ pins H1 s1 e s' I1 hq
  | ok fl =>
    cases fl with
    | ret u => exact I1.after hq
    | next => exact False.elim hq
    | brk => exact False.elim hq
    | cont => exact False.elim hq
end
theorem FnG.imp {P : Program} {w : World} {K : PySem.W.Frag} {mg : Str → Option Value} {base : Heap} {CX : CXT} {k : Nat} {f : Addr} {fd : FuncData} {ps : List Str} {sp sp' : Sp} (F : FnG P w K mg base CX k f fd ps sp) (h : ∀ vs H Q E, sp' vs H Q E → sp vs H Q E) : FnG P w K mg base CX k f fd ps sp' :=
  ⟨fun vs H Q E q => F.len vs H Q E (h _ _ _ _ q), fun A o s H args us vs Q E hg hr e0 bt r q => F.run A o s H args us vs Q E hg hr e0 bt r (h _ _ _ _ q)⟩
/-! ### the program's own errors: each has the __init__ of the first one -/
structure ErrAt (K : PySem.W.Frag) (mg : Str → Option Value) (x : Str) (st : Stmt) (C fI : Addr) (fd : FuncData) : Prop where
  gl : mg x = some (.ref C)
  T : OexC K C
  nv : PySem.W.findIn K (.ref C) "value" = some none
  iC : PySem.W.findIn K (.ref C) "__init__" = some (some (.ref fI))
  tI : PySem.W.typeIn K (.ref fI) = some (.type "function")
  F : Fun K "__init__" "PileError.__init__" st fI fd
  bd : Binds K fd ["self", "value"] []
  ex : PySem.W.exmOne K (.ref C) (.ref C) = some true
  gV : mg "ValueError" = none
  vV : PySem.W.findCls K (.type "ValueError") (.type "type") "__init__" = some (.val (.builtin "ValueError.__init__"))
  xf : XfC K C
theorem oex_mk {K : PySem.W.Frag} {C : Addr} {nm q N bs bm sn sub ab col dd k0 k1 k2 k3 k5} (h : K.lookup C = some (PySem.excClassObj nm q C N bs bm true sn sub ab col dd k0 k1 k2 k3 k5 "ValueError.__new__")) (r : PySem.HandSPX.refsVE bm = true)
    (sa : PySem.W.findIn K (.ref C) "__setattr__" = some (some (.builtin "object.__setattr__"))) (exC : PySem.W.subIn K (.ref C) (.type "BaseException") = some true) (tyC : PySem.W.typeIn K (.ref C) = some (.type "type")) (kC : PySem.W.keepIn K (.ref C) = true) : OexC K C :=
  ⟨⟨nm, q, N, bs, bm, sn, sub, ab, col, dd, k0, k1, k2, k3, k5, h, r⟩, sa, exC, tyC, kC⟩
def spVE (C : Addr) : Sp := fun vs H Q _ => ∃ (a : Addr) (v : V), vs = [.ref a, v] ∧ H a = some (exo a C none) ∧ ∀ dx, H dx = none → dx ≠ a → Q .non (upd (upd H dx (exd dx [("value", v)])) a (exo a C (some dx)))
def tVE (K : PySem.W.Frag) : TS := tSeq (tDrop (tVeI K (tCons (tVar 0) (tCons (tVar 1) tNil)))) (tOst K "value" (tVar 0) (tVar 1))
theorem run_VE {K : PySem.W.Frag} {mg : Str → Option Value} {x : Str} {st : Stmt} {C fI : Addr} {fd : FuncData} (T : ErrAt K mg x st C fI fd) {vs : List V} {H : Hp} {Q : VK} {E : XK} (h : spVE C vs H Q E) : tVE K ⟨fun _ H' => Q .non H', Q, fun _ _ => False, fun _ _ => False⟩ (start ["self", "value"] vs) H := by
  obtain ⟨a, v, rfl, ha, q⟩ := h
  unfold tVE
  exact ⟨_, rfl, _, rfl, a, C, [v], rfl, by simp, T.T, ha, _, rfl, _, rfl, a, C, rfl, T.T, T.nv, .inl ⟨ha, fun dx h1 h2 => q dx h1 h2⟩⟩
/-- raise C(v): what is left -/
theorem mkO_of {C : Addr} {H1 : Hp} {Q : XK} {v : V} (h : ∀ d H', (∀ a o, H1 a = some o → H' a = some o) → H1 d = none → H' d = some (.xd [("value", v)]) → Q (.ref C) (some d) H') : [v].length ≤ 1000 ∧ ∀ a, H1 a = none → spVE C (.ref a :: ([v] ++ [])) (upd H1 a (exo a C none))
  (fun u H2 => u = .non ∧ ∃ (d : Addr) (fs : List (Str × V)), H2 a = some (exo a C (some d)) ∧ H2 d = some (exd d fs) ∧ H1 d = none ∧ Q (.ref C) (some d) (upd (del H2 a) d (.xd fs))) (fun _ _ _ => False) := by
  refine ⟨by simp, fun a ha => ⟨a, v, rfl, upd_same, fun dx h1 h2 => ⟨rfl, dx, [("value", v)], upd_same, ?_, ?_, ?_⟩⟩⟩
  · rw [upd_ne h2]
    exact upd_same
  · rw [upd_ne h2] at h1
    exact h1
  · have hd : H1 dx = none := by rw [upd_ne h2] at h1; exact h1
    refine h dx _ (fun b o e => ?_) hd upd_same
    have n1 : b ≠ dx := fun z => by rw [z, hd] at e; cases e
    have n2 : b ≠ a := fun z => by rw [z, ha] at e; cases e
    rw [upd_ne n1, del_ne n2, upd_ne n2, upd_ne n1, upd_ne n2]
    exact e
end G
/-! GAH: exceptions in the value layer. -/
namespace G
open PySem PySem.Spec PyProof.Rows L2
variable {C : Cn} {xc : XC C}
section
variable {Z : Reg} {S1 S2 : List Addr} {Θ : List V} {σ : L2.St} {H H' : Hp} {sl tm : List Sl} {n n' : Int} {v : V} {s : Sl} {d : D} {i : Nat}
/-- the heap grows: the same regions -/
theorem RelX.heapX (h0 : RelX C Z S1 S2 ⟨sl, tm, n⟩ Θ σ H) (k : ∀ a o, H a = some o → (∀ p b, C.pu = some (p, b) → a ≠ p) → H' a = some o) (kp : ∀ p b, C.pu = some (p, b) → PuAt H' p (b - n')) : RelX C Z S1 S2 ⟨sl, tm, n'⟩ Θ σ H' := by
  have kt : ∀ t vs, H t = some (.tup vs) → H' t = some (.tup vs) := fun t vs e => k t _ e fun p b q z => by
    subst z
    obtain ⟨x, y, z, e2, _⟩ := (h0.pu t b q).1
    rw [e] at e2
    cases e2
  have kz0 : ∀ a, C.tz Z a → ∀ o, H a = some o → H' a = some o := fun a z o e => k a o e fun p b q y => (h0.pu p b q).2.1 (y ▸ z)
  have kz : ∀ a, Z a → ∀ o, H a = some o → H' a = some o := fun a z => kz0 a (.inl z)
  have ks : ∀ a ∈ S1 ++ S2, ∀ o, H a = some o → H' a = some o := fun a m o e => k a o e fun p b q y => (h0.pu p b q).2.2 (y ▸ m)
  exact ⟨fun a o e m => ⟨(h0.fr a o e m).1, kz0 a (h0.fr a o e m).1 o (h0.fr a o e m).2⟩, h0.es.mono kt (fun _ z => z) kz fun a m => ks a (List.mem_append_left _ m), h0.et.mono kt (fun _ z => z) kz fun a m => ks a (List.mem_append_right _ m), h0.nd, h0.nz, fun p b q => ⟨kp p b q, (h0.pu p b q).2⟩, fun a z => by
      obtain ⟨o, e⟩ := h0.ex a z
      exact ⟨o, kz0 a z o e⟩, h0.dj, fun j i π v e ev => by
      obtain ⟨s, d', e', w, e1, e2, e3, e4, wk⟩ := h0.al j i π v e ev
      obtain ⟨w', T', ew, t, sub⟩ := h0.slot e1 e2
      rw [e4] at ew
      cases ew
      exact ⟨s, d', e', w, e1, e2, e3, e4, (Tr.part t e3 wk).2 H' kt fun a z => z.elim (kz a) fun m => ks a (List.mem_append_left _ (sub a m))⟩⟩
theorem RelX.sameX (h0 : RelX C Z S1 S2 ⟨sl, tm, n⟩ Θ σ H) (k : Same H H') : RelX C Z S1 S2 ⟨sl, tm, n⟩ Θ σ H' :=
  h0.heapX (fun a o e _ => k a o e) fun p b q => (h0.pu p b q).1.mono (k p)
/-- what is new lies nowhere -/
theorem RelX.fresh (h0 : RelX C Z S1 S2 ⟨sl, tm, n⟩ Θ σ H) {a : Addr} (e : H a = none) : a ∉ S1 ++ S2 ∧ ¬ C.tz Z a ∧ ∀ p b, C.pu = some (p, b) → a ≠ p := by
  refine ⟨fun z => ?_, fun z => ?_, fun p b q z => ?_⟩
  · rcases List.mem_append.mp z with z | z
    · obtain ⟨xs, e1⟩ := h0.es.dom a z
      rw [e] at e1
      cases e1
    · obtain ⟨xs, e1⟩ := h0.et.dom a z
      rw [e] at e1
      cases e1
  · obtain ⟨o, e1⟩ := h0.ex a z
    rw [e] at e1
    cases e1
  · obtain ⟨x, y, w, e1, _⟩ := (h0.pu p b q).1
    rw [← z, e] at e1
    cases e1
/-- an error with a new value -/
theorem Rel.newX {dd : Addr} (R : Rel C ⟨sl, tm, n⟩ Θ σ H) (sm : Same H H') (hd : H dd = none) (hx : H' dd = some (.xd [("value", v)])) (nw : New H H' v d) : Rel C ⟨sl, .xv dd dd d :: tm, n⟩ (.ref dd :: Θ) σ H' := by
  obtain ⟨Z, S1, S2, h⟩ := R
  obtain ⟨S, rp, nd, fr⟩ := nw
  have t : Tr H' noReg S v d := Rep.tr _ _ _ rp
  have h1 := h.sameX sm
  refine ⟨Z, S1, _, h1.pushE (Z' := Z) (.xv hx t) (List.nodup_cons.mpr ⟨fun m => ?_, nd⟩) (fun a m => ?_) (fun i π z => nomatch z)⟩
  · obtain ⟨vs, e⟩ := Tr.dom _ _ _ t dd m
    rw [hx] at e
    cases e
  · rcases List.mem_cons.mp m with rfl | m
    · exact h.fresh hd
    · exact h.fresh (fr a m)
/-- the top is what an error holds -/
theorem Rel.toX {dd : Addr} (R : Rel C ⟨sl, own d :: tm, n⟩ (v :: Θ) σ H) (sm : Same H H') (hd : H dd = none) (hx : H' dd = some (.xd [("value", v)])) : Rel C ⟨sl, .xv dd dd d :: tm, n⟩ (.ref dd :: Θ) σ H' := by
  obtain ⟨Z, S1, S2, h⟩ := R
  obtain ⟨A, B, e, h2, f⟩ := h.popF (ss := [own d]) (us := [v]) rfl
  have fr := h2.fresh hd
  have h3 := h2.sameX sm
  have t0 : Tr H noReg A v d := by
    cases e with
    | cons e1 e2 =>
      cases e2
      rw [List.append_nil]
      revert e1
      unfold own
      by_cases hn : nolist d = true
      · rw [if_pos hn]
        intro e1
        cases e1 with
        | fz t => exact (Tr.nolist d _ v t hn).2
      · rw [if_neg hn]
        intro e1
        cases e1 with
        | ow t => exact t
  have t : Tr H' noReg A v d := Tr.mono (fun _ _ h => sm _ _ h) (fun _ z => z) (fun _ z => z.elim) _ _ _ t0 fun _ _ _ h => sm _ _ h
  refine ⟨Z, S1, _, h3.pushE (Z' := Z) (.xv hx t) (List.nodup_cons.mpr ⟨fun m => ?_, (List.nodup_append.mp f.nd).1⟩) (fun a m => ?_) (fun i π z => nomatch z)⟩
  · obtain ⟨vs, e⟩ := Tr.dom _ _ _ t dd m
    rw [hx] at e
    cases e
  · rcases List.mem_cons.mp m with rfl | m
    · exact fr
    · exact ⟨fun z => (List.nodup_append.mp f.nd).2.2 a m a z rfl, (f.ok a m).1, (f.ok a m).2.1⟩
theorem Rel.popAll (R : Rel C ⟨sl, tm, n⟩ Θ σ H) : Rel C ⟨sl, [], n⟩ [] σ H := by
  induction tm generalizing Θ with
  | nil =>
    obtain ⟨Z, S1, S2, h⟩ := R
    have : Θ = [] := by
      have := h.et.length
      simpa using this
    subst this
    exact ⟨Z, S1, S2, h⟩
  | cons s tm ih =>
    match Θ with
    | [] =>
      obtain ⟨Z, S1, S2, h⟩ := R
      have := h.et.length
      simp at this
    | v :: Θ => exact ih R.pop
/-- a caught error -/
theorem Rel.caught {a dd : Addr} (R : Rel C ⟨sl, .xv dd dd d :: tm, n⟩ (.ref dd :: Θ) σ H) (na : noAl i tm = true) : Rel C ⟨sl.set i (.xv a dd d), [], n⟩ [] (σ.set i (some (.ref a))) H := by
  have R2 : Rel C ⟨sl, .xv a dd d :: tm, n⟩ (.ref a :: Θ) σ H := by
    obtain ⟨Z, S1, S2, h⟩ := R
    obtain ⟨fr, es, et, nd, nz, pu, ex, dj, al⟩ := h
    dsimp only at es et al pu
    cases et with
    | cons e1 e2 =>
      cases e1 with
      | xv h1 t => exact ⟨Z, S1, _, fr, es, .cons (.xv h1 t) e2, nd, nz, pu, ex, dj, fun k j π u e ev => by
          cases k with
          | zero => simp at e
          | succ k => exact al (k + 1) j π u (by simpa using e) (by simpa using ev)⟩
  exact (R2.set (fun i π z => nomatch z) na).popAll
end
/-! ### promises of defs that may raise -/
abbrev TwX := List D → (D → Prop) → (Addr → D → Prop) → Prop
abbrev XH := Addr → D → VSt → Prop
def spX (W : TwX) : Sp := fun vs H Q E => ∃ S ds G X, Reps H S vs ds ∧ W ds G X ∧ (∀ d v H', G d → Same H H' → New H H' v d → Q v H') ∧ ∀ c d dd v H', X c d → Same H H' → H dd = none → H' dd = some (.xd [("value", v)]) → New H H' v d → E (.ref c) (some dd) H'
/-- right arguments, or wrong ones -/
def twX (W : Tw) (x : List D → Addr → D → Prop) : TwX := fun ds G X => W ds G ∨ ∃ c d, x ds c d ∧ X c d
section
variable {K : PySem.W.Frag} {P : Program} {w : World} {mg : Str → Option Value} {base : Heap} {kl : Nat} {f : Addr} {fd : FuncData} {ps : List Str}
/-- what a def lets out -/
def ownXC {H : Hp} {E : XK} {X : Addr → D → Prop} (h : ∀ c d dd v H', X c d → Same H H' → H dd = none → H' dd = some (.xd [("value", v)]) → New H H' v d → E (.ref c) (some dd) H') :
    XC ⟨H, fun a => ∃ b, (none : Option (Addr × Int)) = some (a, b), none, fun _ _ z => (nomatch z), none, noReg⟩ where
  E := fun _ => E
  X := fun c d _ => X c d
  ok := fun {c dd d γ Θ σ H'} hx R => by
    obtain ⟨Z, S1, S2, R⟩ := R
    have sm : Same H H' := fun a o e => (R.fr a o e (fun ⟨b, z⟩ => nomatch z)).2
    obtain ⟨A, B, e, h2, f⟩ := R.popF (ss := [.xv dd dd d]) (us := [.ref dd]) rfl
    cases e with
    | cons e1 e2 =>
      cases e2
      cases e1 with
      | @xv _ _ w S _ h1 t =>
        have none_of : ∀ a ∈ dd :: S, H a = none := fun a m => by
          cases e : H a with
          | none => rfl
          | some o => exact absurd (R.fr a o e (fun ⟨b, z⟩ => nomatch z)).1 (f.ok a (by simpa using m)).1
        refine h c d dd w H' hx sm (none_of _ List.mem_cons_self) h1 ⟨S, Tr.repO _ _ _ t, ?_, fun a m => none_of a (List.mem_cons_of_mem _ m)⟩
        have := (List.nodup_append.mp f.nd).1
        rw [List.append_nil] at this
        exact (List.nodup_cons.mp this).2
theorem run_own {N : List Str} {kb : KS} {t : TS} {S : List Addr} {vs : List V} {ds : List D} {H : Hp} {Q : VK} {E : XK} {G : D → Prop} {X : Addr → D → Prop} (hN : ps.length ≤ N.length) (r : Reps H S vs ds) (ea : ds.length = ps.length)
    (hq : ∀ d v H', G d → Same H H' → New H H' v d → Q v H') (hx : ∀ c d dd v H', X c d → Same H H' → H dd = none → H' dd = some (.xd [("value", v)]) → New H H' v d → E (.ref c) (some dd) H')
    (so : SoS (ownXC hx) t kb) (val : kb ⟨ds.map Sl.fz ++ List.replicate (N.length - ps.length) .jk, [], 0⟩ (edT G)) : t ⟨fun _ H' => Q .non H', Q, fun _ _ => False, fun _ _ => False⟩ (start N vs) H := by
  have el := r.length
  refine so _ [] _ H _ (edT G) (by simpa using Rel.start (N := N) r none (fun _ _ z => nomatch z) 0 (fun _ _ z => nomatch z) [] [] (.inl ⟨rfl, rfl⟩) (by simp; omega)) (by rw [el, ea]; exact val) ⟨fun γ' σ' H' hn R => ?_, fun s γ' v Θ' σ' H' hr R => ?_, fun _ _ _ z _ => z.elim, fun _ _ _ z _ => z.elim⟩
  · obtain ⟨Z, S1, S2, X⟩ := R
    exact hq _ _ _ hn (fun a o e => (X.fr a o e (fun ⟨b, z⟩ => nomatch z)).2) ⟨[], .non, List.nodup_nil, fun a m => nomatch m⟩
  · obtain ⟨d, hG, nw⟩ := R.outN hr (fun a m => m)
    obtain ⟨Z, S1, S2, X⟩ := R
    exact hq _ _ _ hG (fun a o e => (X.fr a o e (fun ⟨b, z⟩ => nomatch z)).2) nw
/-- a def that may raise -/
theorem okX {x qual : Str} {st : Stmt} {N : List Str} {W : TwX} {kb : XH → KS} (F : Fun K x qual st f fd) (S : FnScope N ps (defScope st)) (hN : ps.length ≤ N.length) (har : ∀ ds G X, W ds G X → ds.length = ps.length)
    (hb : ∀ (cdv : Value) (A : Around) (outer : List Env) (s : Shared) (H : Hp) (E : XK), Bare (A.deeper (envOfC qual (defScope st) s.heap.objs.size f cdv)) → Room kl (A.deeper (envOfC qual (defScope st) s.heap.objs.size f cdv)) →
      ∃ t, PSs (cxOf (L2.CX P w) P w K mg base N qual (defScope st) f cdv A outer s H E) (defBody st) t ∧ ∀ (C : Cn) (xc : XC C), (xc.E = fun _ => E) → SoS xc t (kb xc.X))
    (val : ∀ ds G X, W ds G X → kb (fun c d _ => X c d) ⟨ds.map Sl.fz ++ List.replicate (N.length - ps.length) .jk, [], 0⟩ (edT G)) : FnG P w K mg base (L2.CX P w) (kl + 1) f fd ps (spX W) := by
  refine okGX F S (fun vs H Q E h => ?_) (fun cdv A outer s H vs Q E hg hr h => ?_)
  · obtain ⟨S, ds, G, X, r, hw, _⟩ := h
    rw [r.length]
    exact har _ _ _ hw
  · obtain ⟨t, hp, so⟩ := hb cdv A outer s H E hg hr
    obtain ⟨S, ds, G, X, r, hw, hq, hx⟩ := h
    exact ⟨t, hp, run_own hN r (har _ _ _ hw) hq hx (so _ _ rfl) (val ds G X hw)⟩
/-- .. told apart: right arguments, wrong ones -/
theorem okF {x qual : Str} {st : Stmt} {N : List Str} {W : Tw} {kb : KS} {kx : XH → KS} {X : List D → Addr → D → Prop} (F : Fun K x qual st f fd) (S : FnScope N ps (defScope st)) (hN : ps.length ≤ N.length) (har : ∀ ds G, W ds G → ds.length = ps.length) (harX : ∀ ds c d, X ds c d → ds.length = ps.length)
    (hb : ∀ (cdv : Value) (A : Around) (outer : List Env) (s : Shared) (H : Hp) (E : XK), Bare (A.deeper (envOfC qual (defScope st) s.heap.objs.size f cdv)) → Room kl (A.deeper (envOfC qual (defScope st) s.heap.objs.size f cdv)) →
      ∃ t, PSs (cxOf (L2.CX P w) P w K mg base N qual (defScope st) f cdv A outer s H E) (defBody st) t ∧ (∀ (C : Cn) (xc : XC C), SoS xc t kb) ∧ ∀ (C : Cn) (xc : XC C), (xc.E = fun _ => E) → SoS xc t (kx xc.X))
    (val : ∀ ds G, W ds G → kb ⟨ds.map Sl.fz ++ List.replicate (N.length - ps.length) .jk, [], 0⟩ (edT G))
    (valx : ∀ ds c d, X ds c d → kx (fun c' d' _ => c' = c ∧ d' = d) ⟨ds.map Sl.fz ++ List.replicate (N.length - ps.length) .jk, [], 0⟩ (edT fun _ => False)) : FnG P w K mg base (L2.CX P w) (kl + 1) f fd ps (spX (twX W X)) := by
  refine okGX F S (fun vs H Q E h => ?_) (fun cdv A outer s H vs Q E hg hr h => ?_)
  · obtain ⟨S, ds, G, X', r, hw | ⟨c, d, hw, _⟩, _⟩ := h
    · rw [r.length]
      exact har _ _ hw
    · rw [r.length]
      exact harX _ _ _ hw
  · obtain ⟨t, hp, so, sx⟩ := hb cdv A outer s H E hg hr
    obtain ⟨S, ds, G, X', r, hw | ⟨c, d, hw, hX⟩, hq, hx⟩ := h
    · exact ⟨t, hp, run_own hN r (har _ _ hw) hq hx (so _ _) (val ds G hw)⟩
    · exact ⟨t, hp, run_own (G := fun _ => False) (X := fun c' d' => c' = c ∧ d' = d) hN r (harX _ _ _ hw) (fun _ _ _ z => z.elim) (fun c' d' dd v H' ⟨e1, e2⟩ => hx c' d' dd v H' (by rw [e1, e2]; exact hX)) (sx _ _ rfl) (valx ds c d hw)⟩
end
section
variable {ts : TA} {ka : KE} {n : Nat} {W : Tw} {WX : TwX} {X : List D → Addr → D → Prop} {ix : List Nat}
theorem callF_core {γ1 : VSt} {vs Θ : List V} {σ : L2.St} {H1 : Hp} {q : VSt → Prop} {Q : VK} {E : XK} (R1 : Rel C γ1 (vs.reverse ++ Θ) σ H1) (el : vs.length = n) (hk1 : (datN γ1.sl n γ1.tm).elim False fun x => W x.1 fun d => q ⟨γ1.sl, own d :: x.2, γ1.n⟩)
    (w : ∀ γ' v H', q γ' → Rel C γ' (v :: Θ) σ H' → Q v H') : spX (twX W X) vs H1 Q E := by
  obtain ⟨⟨ds, rr⟩, e, hf⟩ := elimF hk1
  obtain ⟨R3, T, rp, _⟩ := Rel.pops (Θ := Θ) R1 el e
  exact ⟨T, ds, _, fun _ _ => False, rp, .inl hf, fun d v H' hq sm nw => w _ v H' hq (R3.newR sm nw), fun _ _ _ _ _ z => z.elim⟩
theorem callFK_core {γ1 : VSt} {vs Θ : List V} {σ : L2.St} {H1 : Hp} {q : VSt → Prop} {Q : VK} {E : XK} (R1 : Rel C γ1 (vs.reverse ++ Θ) σ H1) (el : vs.length = n) (hk1 : (datN γ1.sl n γ1.tm).elim False fun x => W (ix.filterMap fun i => x.1[i]?) fun d => q ⟨γ1.sl, own d :: x.2, γ1.n⟩)
    (w : ∀ γ' v H', q γ' → Rel C γ' (v :: Θ) σ H' → Q v H') : spX (twX W X) (ix.filterMap fun i => vs[i]?) H1 Q E := by
  obtain ⟨⟨ds, rr⟩, e, hf⟩ := elimF hk1
  obtain ⟨R3, T, rp, _⟩ := Rel.pops (Θ := Θ) R1 el e
  obtain ⟨T', rp', _⟩ := rp.pickI ix
  exact ⟨T', _, _, fun _ _ => False, rp', .inl hf, fun d v H' hq sm nw => w _ v H' hq (R3.newR sm nw), fun _ _ _ _ _ z => z.elim⟩
/-- right arguments -/
theorem so_callF {E : XK} (h : SoA xc n ts ka) : SoE xc (tCall (spX (twX W X)) [] E ts) (kCallT W n ka) := fun γ Θ σ H Q q R hk w => h γ Θ σ H _ _ R hk fun γ1 vs H1 el hk1 R1 => by
  rw [List.append_nil]
  exact callF_core R1 el hk1 w
theorem so_callFS {E : L2.St → XK} (h : SoA xc n ts ka) : SoE xc (tCallS (spX (twX W X)) E ts) (kCallT W n ka) := fun γ Θ σ H Q q R hk w => h γ Θ σ H _ _ R hk fun γ1 vs H1 el hk1 R1 => callF_core R1 el hk1 w
theorem so_callFK {E : XK} (h : SoA xc n ts ka) : SoE xc (tCallK (spX (twX W X)) (gKwV ix) E tNil ts) (kCallTK W ix n ka) := fun γ Θ σ H Q q R hk w => h γ Θ σ H _ _ R hk fun γ1 vs H1 el hk1 R1 => callFK_core R1 el hk1 w
theorem so_callFKS {E : L2.St → XK} (h : SoA xc n ts ka) : SoE xc (tCallKS (spX (twX W X)) (gKwV ix) E ts) (kCallTK W ix n ka) := fun γ Θ σ H Q q R hk w => h γ Θ σ H _ _ R hk fun γ1 vs H1 el hk1 R1 => callFK_core R1 el hk1 w
/-- any arguments -/
def kCallX (x : XH) (W : TwX) (n : Nat) (ka : KE) : KE := fun γ q => ka γ fun γ1 => (datN γ1.sl n γ1.tm).elim False fun y => W y.1 (fun d => q ⟨γ1.sl, own d :: y.2, γ1.n⟩) fun c d => x c d ⟨γ1.sl, y.2, γ1.n⟩
def kCallXK (x : XH) (W : TwX) (ix : List Nat) (n : Nat) (ka : KE) : KE := fun γ q => ka γ fun γ1 => (datN γ1.sl n γ1.tm).elim False fun y => W (ix.filterMap fun i => y.1[i]?) (fun d => q ⟨γ1.sl, own d :: y.2, γ1.n⟩) fun c d => x c d ⟨γ1.sl, y.2, γ1.n⟩
theorem callX_core {γ1 : VSt} {vs Θ : List V} {σ : L2.St} {H1 : Hp} {q : VSt → Prop} {Q : VK} (R1 : Rel C γ1 (vs.reverse ++ Θ) σ H1) (el : vs.length = n) (hk1 : (datN γ1.sl n γ1.tm).elim False fun y => WX y.1 (fun d => q ⟨γ1.sl, own d :: y.2, γ1.n⟩) fun c d => xc.X c d ⟨γ1.sl, y.2, γ1.n⟩)
    (w : ∀ γ' v H', q γ' → Rel C γ' (v :: Θ) σ H' → Q v H') : spX WX vs H1 Q (xc.E σ) := by
  obtain ⟨⟨ds, rr⟩, e, hf⟩ := elimF hk1
  obtain ⟨R3, T, rp, _⟩ := Rel.pops (Θ := Θ) R1 el e
  exact ⟨T, ds, _, _, rp, hf, fun d v H' hq sm nw => w _ v H' hq (R3.newR sm nw), fun c d dd v H' hx sm hd he nw => xc.ok hx (R3.newX sm hd he nw)⟩
theorem callXK_core {γ1 : VSt} {vs Θ : List V} {σ : L2.St} {H1 : Hp} {q : VSt → Prop} {Q : VK} (R1 : Rel C γ1 (vs.reverse ++ Θ) σ H1) (el : vs.length = n) (hk1 : (datN γ1.sl n γ1.tm).elim False fun y => WX (ix.filterMap fun i => y.1[i]?) (fun d => q ⟨γ1.sl, own d :: y.2, γ1.n⟩) fun c d => xc.X c d ⟨γ1.sl, y.2, γ1.n⟩)
    (w : ∀ γ' v H', q γ' → Rel C γ' (v :: Θ) σ H' → Q v H') : spX WX (ix.filterMap fun i => vs[i]?) H1 Q (xc.E σ) := by
  obtain ⟨⟨ds, rr⟩, e, hf⟩ := elimF hk1
  obtain ⟨R3, T, rp, _⟩ := Rel.pops (Θ := Θ) R1 el e
  obtain ⟨T', rp', _⟩ := rp.pickI ix
  exact ⟨T', _, _, _, rp', hf, fun d v H' hq sm nw => w _ v H' hq (R3.newR sm nw), fun c d dd v H' hx sm hd he nw => xc.ok hx (R3.newX sm hd he nw)⟩
theorem so_callX {E : XK} (hE : xc.E = fun _ => E) (h : SoA xc n ts ka) : SoE xc (tCall (spX WX) [] E ts) (kCallX xc.X WX n ka) := fun γ Θ σ H Q q R hk w => h γ Θ σ H _ _ R hk fun γ1 vs H1 el hk1 R1 => by
  rw [List.append_nil]
  have := callX_core (WX := WX) R1 el hk1 w
  rw [hE] at this
  exact this
theorem so_callXS {E : L2.St → XK} (hE : xc.E = E) (h : SoA xc n ts ka) : SoE xc (tCallS (spX WX) E ts) (kCallX xc.X WX n ka) := fun γ Θ σ H Q q R hk w => h γ Θ σ H _ _ R hk fun γ1 vs H1 el hk1 R1 => by
  have := callX_core (WX := WX) R1 el hk1 w
  rw [hE] at this
  exact this
theorem so_callXK {E : XK} (hE : xc.E = fun _ => E) (h : SoA xc n ts ka) : SoE xc (tCallK (spX WX) (gKwV ix) E tNil ts) (kCallXK xc.X WX ix n ka) := fun γ Θ σ H Q q R hk w => h γ Θ σ H _ _ R hk fun γ1 vs H1 el hk1 R1 => by
  have := callXK_core (WX := WX) R1 el hk1 w
  rw [hE] at this
  exact this
theorem so_callXKS {E : L2.St → XK} (hE : xc.E = E) (h : SoA xc n ts ka) : SoE xc (tCallKS (spX WX) (gKwV ix) E ts) (kCallXK xc.X WX ix n ka) := fun γ Θ σ H Q q R hk w => h γ Θ σ H _ _ R hk fun γ1 vs H1 el hk1 R1 => by
  have := callXK_core (WX := WX) R1 el hk1 w
  rw [hE] at this
  exact this
/-! ### raise -/
theorem so_neverA {t : TS} : SoS xc t kNever := fun γ Θ σ H De e R hk w => hk.elim
def kRaise (x : XH) (c : Addr) (ka : KE) : KS := fun γ _ => ka γ fun γ1 => match γ1.tm with
  | .ow true d :: tm => nolist d = false ∧ x c d ⟨γ1.sl, tm, γ1.n⟩
  | .fz d :: tm => nolist d = true ∧ x c d ⟨γ1.sl, tm, γ1.n⟩
  | _ => False
theorem so_raise {c : Addr} {t : TE} {k : KE} {E : XK} (hE : xc.E = fun _ => E) (h : SoA xc 1 (tCons t tNil) k) : SoS xc (fun _ σ H => tMkO c (spVE c) [] (tCons t tNil) σ H fun cls d H' => E cls d H') (kRaise xc.X c k) := fun γ Θ σ H De e R hk w =>
  h γ Θ σ H _ _ R hk fun γ1 vs H1 el hk1 R1 => by
    match vs, el with
    | [v], _ =>
      have R2 : Rel C γ1 (v :: Θ) σ H1 := R1
      obtain ⟨d, tm, hx, R3⟩ : ∃ d tm, xc.X c d ⟨γ1.sl, tm, γ1.n⟩ ∧ Rel C ⟨γ1.sl, own d :: tm, γ1.n⟩ (v :: Θ) σ H1 := by
        obtain ⟨sl, tm, n⟩ := γ1
        dsimp only at hk1
        split at hk1
        · rename_i d tm'
          refine ⟨d, tm', hk1.2, ?_⟩
          unfold own
          rw [if_neg (by simp [hk1.1])]
          exact R2
        · rename_i d tm'
          refine ⟨d, tm', hk1.2, ?_⟩
          unfold own
          rw [if_pos hk1.1]
          exact R2
        · exact hk1.elim
      have go := mkO_of (C := c) (H1 := H1) (Q := fun cls d H' => E cls d H') (v := v) fun dd H' sm hd he => by
        have := xc.ok hx (R3.toX sm hd he)
        rw [hE] at this
        exact this
      exact go
end
/-! ### several clauses 'except x as n' -/
def wManyA (K : PySem.W.Frag) (i : Nat) (Wout : WX) (D : Ends) : List (Value × (Addr → Value → Option Addr → TS)) → WX
  | [] => Wout
  | (c, ts) :: r => fun cls d σ H => ∃ b, PySem.W.exmOne K cls c = some b ∧ (b = true → ∀ a, H a = none → ts a cls d { nx := fun σ' H' => D.nx (σ'.set i none) H', rt := D.rt, bk := fun σ' H' => D.bk (σ'.set i none) H', ct := fun σ' H' => D.ct (σ'.set i none) H' } (σ.set i (some (.ref a))) H) ∧ (b = false → wManyA K i Wout D r cls d σ H)
def tTryA (K : PySem.W.Frag) (i : Nat) (Wout : WX) (l : List (Value × (Addr → Value → Option Addr → TS))) (tb : WX → TS) : TS := fun D σ H => tb (wManyA K i Wout D l) D σ H
inductive HdsA (X : Cx) (n : Str) : List ExceptHandler → List (Value × (Addr → Value → Option Addr → TS)) → Prop
  | nil : HdsA X n [] []
  | cons {x : Str} {c : Value} {ts : Addr → Value → Option Addr → TS} {b₀ : Stmt} {suite : List Stmt} {np pos' : Pos} {hds : List ExceptHandler} {l : List (Value × (Addr → Value → Option Addr → TS))} (hc : Names X x c)
      (hsu : ∀ (a : Addr) (oe : Obj) (cls : Value) (d : Option Addr) (pn : List (Addr × Obj)), Zc cls d oe → (∃ vs, oe.data = .fields vs) → PSs (X.suite a ((a, oe) :: pn)) (b₀ :: suite) (ts a cls d)) (r : HdsA X n hds l) :
      HdsA X n (.ExceptHandler (some (.Name x np)) (some n) (b₀ :: suite) pos' :: hds) ((c, ts) :: l)
section
variable {X : Cx} {n : Str} {i : Nat} {body : List Stmt} {h₀ : ExceptHandler} {hds : List ExceptHandler} {l : List (Value × (Addr → Value → Option Addr → TS))} {pos : Pos} {tb : WX → TS} {Wout : WX}
theorem ps_try_manyA (hs : X.stack = X.env :: X.outer) (hf : X.env.frame = some X.env.locals) (hN : X.N.Nodup) (hi : X.N[i]? = some n) (hln : X.env.kindOf n = some .local) (tk : L2.Takes X Wout)
    (hb : ∀ (W : WX) (pn : List (Addr × Obj)) (xe : Value → Shared → Prop), L2.Takes (X.tr pn xe) W → PassesOwn (model X.prog X.w) X.A X.env xe → PSs (X.tr pn xe) body (tb W))
    (hh : HdsA X n (h₀ :: hds) l) : PS X (.Try body (h₀ :: hds) [] [] pos) (tTryA X.K i Wout l tb) := by
  refine ⟨fun pins s σ H D I h => ?_⟩
  have ok := I.ok
  have hfr : X.A.frames = some (X.env :: X.outer) := by rw [ok.frames, hs]
  have hloc : Loc X.env.scope n := .inl hln
  refine wpAny_Try_except ?_
  refine wpAny_mono ((hb (wManyA X.K i Wout D l) (X.pn ++ pins) (fun e s₁ => wpAny (model X.prog X.w) X.A (noteFrame e X.env) (fun _ s₂ => wpAny (model X.prog X.w) X.A (setFlight e none) (fun _ s₃ =>
    wpAny (model X.prog X.w) X.A (handleBy e X.env (h₀ :: hds)) (SP X pins D) X.xe s₃) X.xe s₂) X.xe s₁) (fun u s' xx => ?_) PassesOwn.looking).run [] s σ H D (I.toTry _) h) (fun f s1 hsp => ?_) (fun e s1 he => he)
  · -- the catch
    obtain ⟨a, B, sI, pins', σ', H', cls, d, rfl, J', nb, up, sky, na, os, ag, w⟩ := xx
    have J : Inv X pins σ' H' sI := J'.ofTry ok
    have sky' : Sky B (X.env :: X.outer) a (Zc cls d) X.env.locals s'.heap := by rw [← hs]; exact sky
    show wpAny (model X.prog X.w) X.A (noteFrame (.ref a) X.env) _ _ _
    refine Sky.land Zc.steady hfr hf sky' fun h3 fl3 up3 => ?_
    have J3 : Inv X pins σ' H' { s' with heap := h3 } := J.landed nb fl3.1 (up.trans up3) os ag
    obtain ⟨oe3, vs3, he3, hz3, hd3⟩ := fl3.there
    have notFr : ∀ {h : Heap} {o : Obj} {vs : Array Value}, h.FunFrames B (X.env :: X.outer) → h.get? a = some o → o.data = .fields vs → a ∉ frs (X.env :: X.outer) := fun {h o vs} ff e dd hm => by
      obtain ⟨_, o', e', hnf⟩ := ff.mem hm
      rw [e] at e'; cases e'
      exact hnf _ dd
    have nfr := notFr fl3.2.2.1 he3 hd3
    have nL : a ≠ X.env.locals := fun z => nfr (List.mem_filterMap.mpr ⟨X.env, List.mem_cons_self, by rw [hf, z]⟩)
    have nF : a ∉ X.fs := fun hm => by
      obtain ⟨e, he, q⟩ := List.mem_filterMap.mp hm
      exact nfr (List.mem_filterMap.mpr ⟨e, List.mem_cons_of_mem _ he, q⟩)
    have S3 := J3.suite he3 hd3 na nL nF
    have go : ∀ {hds' : List ExceptHandler} {l' : List (Value × (Addr → Value → Option Addr → TS))}, HdsA X n hds' l' → wManyA X.K i Wout D l' cls d σ' H' →
        wpAny (model X.prog X.w) X.A (handleBy (.ref a) X.env hds') (SP X pins D) X.xe { s' with heap := h3 } := by
      intro hds' l' hk
      induction hk with
      | nil =>
        intro w
        refine wpAny_handleBy_nil ?_
        obtain ⟨k1, k2, k3, oe, vs, T, oT, ts', he, hz, hd, h1, hr⟩ := id fl3
        unfold PySem.passOn
        refine wpAny_bind (wpAny_field he hd h1 ?_)
        rw [if_neg (show ¬ ((Value.ref T == Value.none) = true) from by simp)]
        have fin : wpAny (model X.prog X.w) X.A (setFlight (.ref a) X.env.frame) (fun _ s4 => wpAny (model X.prog X.w) X.A (throw (.ref a) : Sem Flow) (SP X pins D) X.xe s4) X.xe { s' with heap := h3 } := by
          rw [hf]
          refine HandSPX.setFlight_upZ fl3 fun h4 hh4 up4 => wpAny_throw (tk _ _ ?_)
          exact ⟨a, B, sI, pins, σ', H', cls, d, rfl, J, nb, (up.trans up3).trans up4, .inr (.inr (by rw [hs]; exact hh4)), na, os, ag, w⟩
        first
          | exact wpAny_bind (wpAny_pure (wpAny_bind fin))
          | exact wpAny_bind fin
      | @cons x c ts b₀ suite np pos' hds2 l2 hc hsu r ih =>
        intro w
        obtain ⟨b, hb1, hyes, hno⟩ := w
        refine wpAny_handleBy_cons (codeAny_handlers_test ?_) (by intro q; cases q)
        have LT : PySem.W.Looks (model X.prog X.w) h3 (typeOf (.ref a)) cls := fun A Q E s k q => wpAny_typeOf_ref (k _ _ he3) (by rw [hz3.1]; exact q)
        have LM := PySem.W.exm_one (M := model X.prog X.w) (J3.kIn) LT hb1
        have test : ∀ {Q : Value → Shared → Prop} {E : Value → Shared → Prop}, Q c { s' with heap := h3 } → wpAny (model X.prog X.w) (X.A.mark (some (.ref a))) (eval (.Name x np) X.env) Q E { s' with heap := h3 } := fun {Q E} q => by
          obtain ⟨hg, hdbg, hm | ⟨hm, hv, hnn⟩⟩ := hc
          · exact ld_glob (X := X.suite a ((a, oe3) :: (X.pn ++ pins))) S3 hg hm q hdbg
          · exact ld_blt (X := X.suite a ((a, oe3) :: (X.pn ++ pins))) S3 hg hm hv q hnn hdbg
        refine test (LM.here ?_)
        cases b with
        | true =>
          refine codeAny_handlers_suite_as ?_
          refine HandSPX.lands_againZ fl3 fun h4 fl4 up4 => ?_
          have J4 : Inv X pins σ' H' { s' with heap := h4 } := J.landed nb fl4.1 ((up.trans up3).trans up4) os ag
          obtain ⟨oe4, vs4, he4, hz4, hd4⟩ := fl4.there
          have S4 := J4.suite he4 hd4 na nL nF
          refine store_ok (X := X.suite a ((a, oe4) :: (X.pn ++ pins))) (v := .ref a) S4 hN hi hloc rfl (fun s5 S5 => ?_) (.inr hln)
          refine wpAny_mono ((hsu a oe4 cls d (X.pn ++ pins) hz4 ⟨_, hd4⟩).run [] s5 _ H' _ S5 (hyes rfl a na)) (fun f s6 hsp => ?_) (fun _ _ z => False.elim z)
          have end_ : ∀ {σ6 : L2.St} {H6 : Hp} {Q : Shared → Prop}, Inv (X.suite a ((a, oe4) :: (X.pn ++ pins))) [] σ6 H6 s6 → (∀ s7, Inv X pins (σ6.set i none) H6 s7 → Q s7) →
              wpAny (model X.prog X.w) X.A (do bindName X.env n .none; unbindBehindTheSuite X.env n pos') (fun _ s7 => Q s7) X.xe s6 := fun {σ6 H6 Q} S6 hq => gone_ok (S6.unsuite ok) hN hi hln hq
          cases f with
          | next =>
            obtain ⟨σ6, H6, S6, q6⟩ := hsp
            exact end_ S6 fun s7 J7 => ⟨_, _, J7, q6⟩
          | brk =>
            obtain ⟨σ6, H6, S6, q6⟩ := hsp
            exact end_ S6 fun s7 J7 => ⟨_, _, J7, q6⟩
          | cont =>
            obtain ⟨σ6, H6, S6, q6⟩ := hsp
            exact end_ S6 fun s7 J7 => ⟨_, _, J7, q6⟩
          | ret u =>
            obtain ⟨v6, σ6, H6, S6, r6, q6⟩ := hsp
            exact end_ S6 fun s7 J7 => ⟨_, _, _, J7, r6, q6⟩
        | false =>
          show wpAny _ X.A (handleBy (.ref a) X.env hds2) _ _ _
          exact ih (hno rfl)
    exact go hh w
  · cases f with
    | next =>
      obtain ⟨σ', H', J', q⟩ := hsp
      exact wpAny_execs_nil ⟨σ', H', J'.ofTry ok, q⟩
    | brk =>
      obtain ⟨σ', H', J', q⟩ := hsp
      exact ⟨σ', H', J'.ofTry ok, q⟩
    | cont =>
      obtain ⟨σ', H', J', q⟩ := hsp
      exact ⟨σ', H', J'.ofTry ok, q⟩
    | ret u =>
      obtain ⟨v, σ', H', J', r, q⟩ := hsp
      exact ⟨v, σ', H', J'.ofTry ok, r, q⟩
end
/-! ### try in the value layer -/
def hdE (i : Nat) (e : KEd) : KEd := ⟨fun γ => noAl i γ.tm = true ∧ e.nx ⟨γ.sl.set i .jk, γ.tm, γ.n⟩, e.rt, fun γ => noAl i γ.tm = true ∧ e.bk ⟨γ.sl.set i .jk, γ.tm, γ.n⟩, fun γ => noAl i γ.tm = true ∧ e.ct ⟨γ.sl.set i .jk, γ.tm, γ.n⟩⟩
def hdX (K : PySem.W.Frag) (i : Nat) (e : KEd) : List (Value × (Addr → Addr → Addr → KS)) → XH
  | [] => fun _ _ _ => False
  | (c, h) :: r => fun cls d γ => ∃ b, PySem.W.exmOne K (.ref cls) c = some b ∧ (b = true → noAl i γ.tm = true ∧ ∀ a dd, h a cls dd ⟨γ.sl.set i (.xv a dd d), [], γ.n⟩ (hdE i e)) ∧ (b = false → hdX K i e r cls d γ)
def kTry (K : PySem.W.Frag) (i : Nat) (kb : XH → KS) (hs : List (Value × (Addr → Addr → Addr → KS))) : KS := fun γ e => γ.tm = [] ∧ kb (hdX K i e hs) γ e
inductive HdsSo {C : Cn} (xc : XC C) : List (Value × (Addr → Value → Option Addr → TS)) → List (Value × (Addr → Addr → Addr → KS)) → Prop
  | nil : HdsSo xc [] []
  | cons {c : Value} {ts : Addr → Value → Option Addr → TS} {h : Addr → Addr → Addr → KS} {l : List (Value × (Addr → Value → Option Addr → TS))} {hs : List (Value × (Addr → Addr → Addr → KS))} : (∀ a cls dd, SoS xc (ts a (.ref cls) (some dd)) (h a cls dd)) → HdsSo xc l hs → HdsSo xc ((c, ts) :: l) ((c, h) :: hs)
theorem so_try {K : PySem.W.Frag} {i : Nat} {tb : WX → TS} {kb : XH → KS} {l : List (Value × (Addr → Value → Option Addr → TS))} {hs : List (Value × (Addr → Addr → Addr → KS))} (hb : ∀ (W : WX) (xc' : XC C), xc'.E = WE W → SoS xc' (tb W) (kb xc'.X)) (hh : HdsSo xc l hs) :
    SoS xc (tTryA K i (fun _ _ _ _ => False) l tb) (kTry K i kb hs) := fun γ Θ σ H De e R hk w => by
  obtain ⟨etm, hk⟩ := hk
  have eΘ : Θ = [] := by
    obtain ⟨Z, S1, S2, h⟩ := R
    have := h.et.length
    rw [etm] at this
    simpa using this
  subst eΘ
  have w' : SoD C [] (hdE i e) { nx := fun σ' H' => De.nx (σ'.set i none) H', rt := De.rt, bk := fun σ' H' => De.bk (σ'.set i none) H', ct := fun σ' H' => De.ct (σ'.set i none) H' } :=
    ⟨fun γ' σ' H' h R' => w.nx _ _ _ h.2 (R'.jk h.1 none), w.rt, fun γ' σ' H' h R' => w.bk _ _ _ h.2 (R'.jk h.1 none), fun γ' σ' H' h R' => w.ct _ _ _ h.2 (R'.jk h.1 none)⟩
  have disp : ∀ {l : List (Value × (Addr → Value → Option Addr → TS))} {hs : List (Value × (Addr → Addr → Addr → KS))}, HdsSo xc l hs → ∀ {c dd : Addr} {d : D} {γ : VSt} {Θ : List V} {σ : L2.St} {H : Hp}, hdX K i e hs c d γ → Rel C ⟨γ.sl, .xv dd dd d :: γ.tm, γ.n⟩ (.ref dd :: Θ) σ H → wManyA K i (fun _ _ _ _ => False) De l (.ref c) (some dd) σ H := by
    intro l hs hh
    induction hh with
    | nil => exact fun h _ => h
    | @cons c0 ts h0 l hs h1 _ ih =>
      intro c dd d γ Θ σ H hx R1
      obtain ⟨b, e1, hy, hn⟩ := hx
      refine ⟨b, e1, fun eb a _ => ?_, fun eb => ih (hn eb) R1⟩
      obtain ⟨na, hy⟩ := hy eb
      exact h1 a c dd _ [] _ H _ _ (R1.caught na) (hy a dd) w'
  exact hb (wManyA K i (fun _ _ _ _ => False) De l) ⟨WE (wManyA K i (fun _ _ _ _ => False) De l), hdX K i e hs, fun hx R1 => disp hh hx R1⟩ rfl γ [] σ H De e R hk w
/-- e.value in a clause: taken out -/
def kXval (c a dd : Addr) (cls : Addr) (i : Nat) : KE := fun γ q => cls = c ∧ noAl i γ.tm = true ∧ match γ.sl[i]? with
  | some (.xv a' dd' d) => (a' = a ∧ dd' = dd) ∧ q ⟨γ.sl.set i .jk, own d :: γ.tm, γ.n⟩
  | _ => False
theorem Rel.xval {a dd : Addr} {d : D} {sl tm : List Sl} {n : Int} {Θ : List V} {σ : L2.St} {H : Hp} {i : Nat} (R : Rel C ⟨sl, tm, n⟩ Θ σ H) (e : sl[i]? = some (.xv a dd d)) (na : noAl i tm = true) :
    σ[i]? = some (some (.ref a)) ∧ ∃ w, H dd = some (.xd [("value", w)]) ∧ Rel C ⟨sl.set i .jk, own d :: tm, n⟩ (w :: Θ) σ H := by
  obtain ⟨Z, S1, S2, h⟩ := R
  obtain ⟨v, T, R', ev, en, pm, k⟩ := h.es.at e
  cases en with
  | @xv _ _ w S _ h1 t =>
    refine ⟨ev, w, h1, ?_⟩
    obtain ⟨S', es', pm'⟩ := k H Z [] (some (.ref a)) .jk (fun _ _ h => h) (fun _ z => z) (fun _ _ _ h => h) (fun _ _ _ h => h) (.jk _)
    have eσ : σ.set i (some (.ref a)) = σ := by
      refine List.ext_getElem? fun j => ?_
      by_cases hj : i = j
      · subst hj
        rw [List.getElem?_set_self (List.getElem?_eq_some_iff.mp ev).1, ev]
      · rw [List.getElem?_set_ne hj]
    rw [eσ] at es'
    have pm2 : (dd :: S ++ (S' ++ S2)).Perm (S1 ++ S2) := by
      rw [← List.append_assoc]
      exact List.Perm.append_right S2 ((List.Perm.append_left (dd :: S) (by simpa using pm')).trans pm.symm)
    have nd2 := pm2.nodup_iff.mpr h.nd
    have sub : ∀ x ∈ S ++ (S' ++ S2), x ∈ S1 ++ S2 := fun x m => pm2.mem_iff.mp (List.mem_cons_of_mem _ m)
    have h2 : RelX C Z S' S2 ⟨sl.set i .jk, tm, n⟩ Θ σ H := ⟨h.fr, es', h.et, (List.nodup_append.mp (List.nodup_cons.mp nd2).2).2.1, fun x m => h.nz x (sub x (List.mem_append_right _ m)), fun p b q => ⟨(h.pu p b q).1, (h.pu p b q).2.1, fun m => (h.pu p b q).2.2 (sub p (List.mem_append_right _ m))⟩, h.ex, h.dj, fun j i' π v e' ev' => by
      obtain ⟨s, d', e1, w', g1, g2, g3, g4, wk⟩ := h.al j i' π v e' ev'
      exact ⟨s, d', e1, w', (List.getElem?_set_ne (al_set na e')).trans g1, g2, g3, g4, wk⟩⟩
    unfold own
    by_cases hn : nolist d = true
    · rw [if_pos hn]
      obtain ⟨rfl, t'⟩ := Tr.nolist (Z' := Z) d _ w t hn
      exact ⟨Z, S', _, h2.pushE (Z' := Z) (.fz t') List.nodup_nil (fun x m => nomatch m) (fun i π z => nomatch z)⟩
    · rw [if_neg hn]
      exact ⟨Z, S', _, h2.pushE (Z' := Z) (.ow t) (List.nodup_append.mp (List.nodup_cons.mp nd2).2).1 (fun x m => ⟨fun z => (List.nodup_append.mp (List.nodup_cons.mp nd2).2).2.2 x m x z rfl, h.nz x (sub x (List.mem_append_left _ m)), fun p b q z => (h.pu p b q).2.2 (z ▸ sub x (List.mem_append_left _ m))⟩) (fun i π z => nomatch z)⟩
theorem so_xval {a dd c cls : Addr} {i : Nat} : SoE xc (tXf a (.ref cls) (some dd) c "value" (tVar i)) (kXval c a dd cls i) := fun γ Θ σ H Q q R hk w => by
  obtain ⟨rfl, na, hk⟩ := hk
  obtain ⟨sl, tm, n⟩ := γ
  dsimp only at hk na
  split at hk
  · rename_i a' dd' d e
    obtain ⟨⟨rfl, rfl⟩, hk⟩ := hk
    obtain ⟨ev, w0, hd, R2⟩ := R.xval e na
    exact ⟨_, ev, rfl, rfl, dd', _, w0, rfl, hd, rfl, w _ _ H hk R2⟩
  · exact hk.elim
/-- what a callee lets out goes on as the def's own -/
theorem passOwn {P : Program} {w : World} {K : PySem.W.Frag} {mg : Str → Option Value} {base : Heap} {N : List Str} {qual : Str} {scope : Scope} {f : Addr} {cd : Value} {A : Around} {outer : List Env} {s : Shared} {H : Hp} {E : XK} :
    Passes (L2.CX P w) (cxOf (L2.CX P w) P w K mg base N qual scope f cd A outer s H E) E :=
  fun pins σ H1 s1 e s' I c => passes_call (takes_of rfl rfl rfl rfl) (fun _ _ _ _ h => h) pins σ H1 s1 e s' I c
end G
/-! GAI: xs.insert(i, y) of a number into a list of numbers. -/
namespace G
open PySem PySem.Spec PyProof.Rows L2
variable {C : Cn} {xc : XC C}
section
variable {t ta tb : TE} {ko ka kb : KE}
def rIns : V → List V → Hp → VK → Prop := fun x vs H Q => ∃ (l : Addr) (xs : List V) (i : Int) (y : V), x = .ref l ∧ vs = [.int i, y] ∧ H l = some (.lst xs) ∧ xs.length < sizeLine ∧ 0 ≤ i ∧ i < 2 ^ 63 ∧
    Q .non (upd H l (.lst (xs.take i.toNat ++ [y] ++ xs.drop i.toNat)))
def kIns (ko ki ke : KE) : KE := fun γ q => ko γ fun γ1 => isLst γ1 ∧ ki γ1 fun γ2 => ke γ2 fun γ3 => match γ3.tm with
  | .fz (.int y) :: .fz (.int k) :: .al i π :: tm => noAl i tm = true ∧ wrL γ3.sl i π fun b d es => ((b = true ∨ π = []) ∧ ioOk γ3.sl i b) ∧ (nolists es = true ∧ es.length < 10000000 ∧ 0 ≤ k ∧ k < 10000000) ∧ q ⟨putS γ3.sl i b (setP d π (.list (es.take k.toNat ++ [.int y] ++ es.drop k.toNat))), .fz .none :: tm, γ3.n⟩
  | _ => False
theorem so_ins {K : PySem.W.Frag} (ho : SoE xc t ko) (hi : SoE xc ta ka) (he : SoE xc tb kb) : SoE xc (tBM K "list" rIns t (tCons ta (tCons tb tNil))) (kIns ko ka kb) := fun γ Θ σ H Q q R hk w => ho γ Θ σ H _ _ R hk fun γ1 v H1 hk1 R1 =>
  ⟨tyV_of R1 hk1.1, hi γ1 _ σ H1 _ _ R1 hk1.2 fun γ2 u1 H2 hk2 R2 => he γ2 _ σ H2 _ _ R2 hk2 fun γ3 u2 H3 hk3 R3 => by
    obtain ⟨sl, tm, j⟩ := γ3
    dsimp only at hk3
    split at hk3
    · rename_i y k i π tm
      obtain ⟨na, hw⟩ := hk3
      obtain ⟨s0, b, d, es, e1, hs, eds, e2, ⟨hb, hio⟩, ⟨hn, hl, k0, k1⟩, hq⟩ := wrL_inv hw
      rw [putS_eq e1] at hq
      obtain ⟨Z, S1, S2, X⟩ := R3
      obtain ⟨w0, ew, wk⟩ := X.walk (j := 2) rfl rfl
      obtain ⟨A, B, en, X1, f⟩ := RelX.popF (ss := [.fz (.int y), .fz (.int k), .al i π]) (us := [u2, u1, v]) X rfl
      obtain ⟨rfl, rfl, rfl⟩ : A = [] ∧ u2 = .int y ∧ u1 = .int k := by
        cases en with
        | cons e1 e2 =>
          cases e2 with
          | cons e2 e3 =>
            cases e3 with
            | cons e3 e4 =>
              cases e4
              cases e3
              cases e1 with
              | fz t1 => cases e2 with
                | fz t2 =>
                  cases t1
                  cases t2
                  exact ⟨rfl, rfl, rfl⟩
      obtain ⟨a, vs, T, rfl, ha, ts, aA, aZ, aT, put⟩ := X1.putF f e1 hs na ew wk e2 hb
      have el := ts.length
      obtain ⟨eT, ts0⟩ := Trs.nolist (Z' := rgn b Z) es T vs ts hn
      subst eT
      have t0 : Trs (upd H3 a (.lst (vs.take k.toNat ++ [V.int y] ++ vs.drop k.toNat))) (rgn b Z) [] vs es := ts0.upd ha aZ fun x m => nomatch m
      have t1 : Trs (upd H3 a (.lst (vs.take k.toNat ++ [V.int y] ++ vs.drop k.toNat))) (rgn b Z) [] (vs.take k.toNat ++ [V.int y] ++ vs.drop k.toNat) (es.take k.toNat ++ [.int y] ++ es.drop k.toNat) :=
        ((t0.take rfl k.toNat).append (.cons (S := []) (.int y) .nil)).append (t0.drop rfl k.toNat)
      obtain ⟨S1', X2, _⟩ := put (vs.take k.toNat ++ [V.int y] ++ vs.drop k.toNat) (es.take k.toNat ++ [.int y] ++ es.drop k.toNat) b [] [] (.inl rfl) (ioOk_at hio e1) t1 (by simp)
      have R4 : Rel C ⟨_, tm, j⟩ Θ σ (upd H3 a (.lst (vs.take k.toNat ++ [V.int y] ++ vs.drop k.toNat))) := ⟨_, _, _, X2⟩
      exact ⟨a, vs, k, .int y, rfl, rfl, ha, szlt (by omega), k0, by omega, w _ _ _ hq (R4.push fun Z => .non)⟩
    · exact hk3.elim⟩
end
end G
/-! GAJ: for i, (x, y) in enumerate(zip(xs, ys)), over two lists. -/
namespace PySem
open Sem (wp)
open AutoSeq1 (wpAny_loadPart')
open PySem.W (KdxIt kdx_alive)
section
variable {prog : Program} {w : World} {A : Around} {E : Value → Shared → Prop} {s : Shared}
theorem ez_dead {a : Addr} {Q : Option Obj → Shared → Prop} (ho : s.heap.get? a = none) (h : Q none s) : wpAny (model prog w) A (loadIfAlive a) Q E s := by
  have h' : Q (s.heap.get? a) s := by rw [ho]; exact h
  exact fun _ _ _ => h'
/-- a zip, whatever became of the tuple that it gave out -/
def ZipAny (h : Heap) (z TI TO : Addr) : Prop := IsZip h z TI TO .none ∨ ∃ (T : Addr) (f : Bool), IsZipHeld h z TI TO T f
theorem ZipAny.at {h h' : Heap} {z TI TO : Addr} (x : ZipAny h z TI TO) (k : ∀ o, h.get? z = some o → h'.get? z = some o) : ZipAny h' z TI TO := by
  rcases x with x | ⟨T, f, x⟩
  · exact .inl (k _ x)
  · exact .inr ⟨T, f, k _ x⟩
theorem ZipAny.there {h : Heap} {z TI TO : Addr} (x : ZipAny h z TI TO) : ∃ vs, h.get? z = some { cls := .type "zip", dict := none, data := .fields vs, slots := #[] } := by
  rcases x with x | ⟨T, f, x⟩
  · exact ⟨_, x⟩
  · exact ⟨_, x⟩
theorem ez_dead_item {z TI TO T i1 i2 l1 l2 : Addr} {f : Bool} {k1 k2 : Nat} {xs ys : Array Value} {x y a b : Value} {Q : Value → Shared → Prop} (D : ZipApart z TI TO i1 i2 l1 l2)
    (hz : IsZipHeld s.heap z TI TO T f) (hT : s.heap.get? T = none) (hTI : IsPair s.heap TI (.ref i1) (.ref i2)) (hTO : IsPair s.heap TO a b)
    (h1 : s.heap.IsListIter i1 l1 k1) (h2 : s.heap.IsListIter i2 l2 k2) (hl1 : s.heap.IsList l1 xs) (hl2 : s.heap.IsList l2 ys) (hx : xs[k1]? = some x) (hy : ys[k2]? = some y)
    (hQ : ∀ h', IsZip h' z TI TO (rawInt s.heap.objs.size) → IsPair h' TO x y → h'.IsListIter i1 l1 (k1 + 1) → h'.IsListIter i2 l2 (k2 + 1) → IsPair h' s.heap.objs.size x y → h'.objs.size = s.heap.objs.size + 1 →
      (∀ c o, c ≠ z → c ≠ TO → c ≠ i1 → c ≠ i2 → s.heap.get? c = some o → h'.get? c = some o) → Q (.ref s.heap.objs.size) { s with heap := h' }) :
    wpAny (model prog w) A (Builtin.«zip.__next__» ⟨[.ref z], []⟩) (fun fin s' => ∃ v, fin = .done (.ret v) ∧ Q v s') E s := by
  show wpAny _ _ (field (.ref z) 2 >>= _) _ _ _
  refine wpAny_bind (wpAny_field hz rfl (x := .bool false) rfl ?_)
  show wpAny _ _ (field (.ref z) 3 >>= _) _ _ _
  refine wpAny_bind (wpAny_field hz rfl (x := .ref TI) rfl ?_)
  refine wpAny_bind (wpAny_seqItems hTI rfl ?_)
  show wpAny _ _ (Builtin.SmallTypes.ownedTupleIsFree (.ref z) >>= _) _ _ _
  refine wpAny_bind ?_
  unfold Builtin.SmallTypes.ownedTupleIsFree
  refine wpAny_bind (wpAny_field hz rfl (x := rawInt T) rfl ?_)
  show wpAny _ _ (loadIfAlive ((T : Int).toNat) >>= _) _ _ _
  rw [Int.toNat_natCast]
  refine wpAny_bind (ez_dead hT ?_)
  simp only [Option.isNone_none, if_true]
  refine wpAny_pure ?_
  simp only [if_true]
  refine wpAny_bind (wpAny_rule ?_)
  refine wpAny_bind (wpAny_field hz rfl (x := .ref TO) rfl ?_)
  refine wpAny_bind (wpAny_setField_rec hz (by simp) fun h₁ hz₁ hs₁ => ?_)
  replace hz₁ : h₁.get? z = some { cls := .type "zip", dict := none, data := .fields #[.ellipsis, .bool f, .bool false, .ref TI, .ref TO], slots := #[] } := hz₁
  refine wpAny_bind ?_
  simp only [List.zipIdx_cons, List.zipIdx_nil, List.forIn_cons, List.forIn_nil]

  refine wpAny_bind (wpAny_bind (wpAny_onRaise ?_))
  show wpAny _ _ (Builtin.SmallTypes.nextOf (.ref i1) >>= _) _ _ _
  refine wpAny_bind (wpAny_nextOf_list_item (h1.extBut hs₁.extBut D.i1z) (hl1.extBut hs₁.extBut D.l1z) hx fun h₂ h1₂ hs₂ => wpAny_pure ?_)
  have hTO₂ : IsPair h₂ TO a b := hs₂.extBut _ _ D.TOi1 (hs₁.extBut _ _ D.TOz hTO)
  refine wpAny_bind (wpAny_seqItems hTO₂ rfl ?_)
  refine wpAny_bind (wpAny_updateSeq_pair hTO₂ fun h₃ hTO₃ hs₃ => ?_)
  replace hTO₃ : IsPair h₃ TO x b := hTO₃
  refine wpAny_bind (wpAny_letGo (wpAny_pure ?_))

  refine wpAny_bind (wpAny_bind (wpAny_onRaise ?_))
  show wpAny _ _ (Builtin.SmallTypes.nextOf (.ref i2) >>= _) _ _ _
  refine wpAny_bind (wpAny_nextOf_list_item (((h2.extBut hs₁.extBut D.i2z).extBut hs₂.extBut D.i12.symm).extBut hs₃.extBut D.TOi2.symm)
    (((hl2.extBut hs₁.extBut D.l2z).extBut hs₂.extBut D.l2i1).extBut hs₃.extBut D.l2TO) hy fun h₄ h2₄ hs₄ => wpAny_pure ?_)
  have hTO₄ : IsPair h₄ TO x b := hs₄.extBut _ _ D.TOi2 hTO₃
  refine wpAny_bind (wpAny_seqItems hTO₄ rfl ?_)
  refine wpAny_bind (wpAny_updateSeq_pair hTO₄ fun h₅ hTO₅ hs₅ => ?_)
  replace hTO₅ : IsPair h₅ TO x y := hTO₅
  refine wpAny_bind (wpAny_letGo (wpAny_pure (wpAny_pure ?_)))

  refine wpAny_bind (wpAny_seqItems hTO₅ rfl ?_)
  refine wpAny_bind (wpAny_newTuple ?_)
  have hsz : h₅.objs.size = s.heap.objs.size := by rw [hs₅.1, hs₄.1, hs₃.1, hs₂.1, hs₁.1]
  have hz₅ : h₅.get? z = some { cls := .type "zip", dict := none, data := .fields #[.ellipsis, .bool f, .bool false, .ref TI, .ref TO], slots := #[] } := hs₅.extBut _ _ D.TOz.symm (hs₄.extBut _ _ D.i2z.symm (hs₃.extBut _ _ D.TOz.symm (hs₂.extBut _ _ D.i1z.symm hz₁)))
  have hk₅ : ∀ c o, c ≠ z → c ≠ TO → c ≠ i1 → c ≠ i2 → s.heap.get? c = some o → h₅.get? c = some o := fun c o c1 c2 c3 c4 e =>
    hs₅.extBut _ _ c2 (hs₄.extBut _ _ c4 (hs₃.extBut _ _ c2 (hs₂.extBut _ _ c3 (hs₁.extBut _ _ c1 e))))
  have h1₅ : h₅.IsListIter i1 l1 (k1 + 1) := ((h1₂.extBut hs₃.extBut D.TOi1.symm).extBut hs₄.extBut D.i12).extBut hs₅.extBut D.TOi1.symm
  have h2₅ : h₅.IsListIter i2 l2 (k2 + 1) := h2₄.extBut hs₅.extBut D.TOi2.symm
  have hzlt : z < h₅.objs.size := Heap.lt_size hz₅
  show wpAny _ _ (Builtin.SmallTypes.ownedTupleHandOut (.ref z) (.ref h₅.objs.size) >>= _) _ _ _
  refine wpAny_bind ?_
  unfold Builtin.SmallTypes.ownedTupleHandOut
  have hz₆ : (h₅.push { cls := .type "tuple", data := .seq #[x, y] }).get? z = some { cls := .type "zip", dict := none, data := .fields #[.ellipsis, .bool f, .bool false, .ref TI, .ref TO], slots := #[] } := Heap.get?_push_of_some _ hz₅
  refine wpAny_bind (wpAny_setField_rec hz₆ (by simp) fun h₇ hz₇ hs₇ => ?_)
  replace hz₇ : IsZipHeld h₇ z TI TO h₅.objs.size f := hz₇
  refine wpAny_setField_rec hz₇ (by simp) fun h₈ hz₈ hs₈ => ?_
  replace hz₈ : IsZip h₈ z TI TO (rawInt h₅.objs.size) := hz₈
  have up : ∀ c o, c ≠ z → h₅.get? c = some o → h₈.get? c = some o := fun c o c1 e => hs₈.extBut _ _ c1 (hs₇.extBut _ _ c1 (Heap.get?_push_of_some _ e))
  have hT₈ : IsPair h₈ h₅.objs.size x y := hs₈.extBut _ _ (Nat.ne_of_gt hzlt) (hs₇.extBut _ _ (Nat.ne_of_gt hzlt) (Heap.get?_push_size _ rfl))
  have hz8 : h₈.objs.size = h₅.objs.size + 1 := by rw [hs₈.1, hs₇.1, Heap.size_push]
  rw [hsz] at hz₈ hT₈ hz8
  refine wpAny_pure ⟨_, rfl, ?_⟩
  show Q (.ref h₅.objs.size) _
  rw [hsz]
  exact hQ h₈ hz₈ (up _ _ D.TOz hTO₅) (h1₅.at fun o e => up _ o D.i1z e) (h2₅.at fun o e => up _ o D.i2z e) hT₈ hz8 fun c o c1 c2 c3 c4 e => up c o c1 (hk₅ c o c1 c2 c3 c4 e)
/-- zip's next, in any state -/
theorem ez_item {z TI TO i1 i2 l1 l2 : Addr} {k1 k2 : Nat} {xs ys : Array Value} {x y : Value} {Q : Value → Shared → Prop} (D : ZipApart z TI TO i1 i2 l1 l2)
    (hz : ZipAny s.heap z TI TO) (hTI : IsPair s.heap TI (.ref i1) (.ref i2)) (hTO : ∃ a b, IsPair s.heap TO a b)
    (h1 : s.heap.IsListIter i1 l1 k1) (h2 : s.heap.IsListIter i2 l2 k2) (hl1 : s.heap.IsList l1 xs) (hl2 : s.heap.IsList l2 ys) (hx : xs[k1]? = some x) (hy : ys[k2]? = some y)
    (hQ : ∀ h', ZipAny h' z TI TO → (∃ a b, IsPair h' TO a b) → h'.IsListIter i1 l1 (k1 + 1) → h'.IsListIter i2 l2 (k2 + 1) → IsPair h' s.heap.objs.size x y → h'.objs.size = s.heap.objs.size + 1 →
      (∀ c o, c ≠ z → c ≠ TO → c ≠ i1 → c ≠ i2 → s.heap.get? c = some o → h'.get? c = some o) → Q (.ref s.heap.objs.size) { s with heap := h' }) :
    wpAny (model prog w) A (Builtin.SmallTypes.nextOf (.ref z)) Q E s := by
  obtain ⟨vs, ho⟩ := hz.there
  obtain ⟨a, b, hTO⟩ := hTO
  have hTy : s.TypeIs (.ref z) "zip" := ⟨_, ho, rfl⟩
  unfold Builtin.SmallTypes.nextOf
  refine wpAny_bind (wpAny_callSpecial?_slot (name := Str.ofString "__next__") hTy F.slot_zip_next (wpAny_call_entry F.slot_zip_next hTy F.entry_zip_next ?_ (F.args_zip_next_1 _)))
  rcases hz with hz | ⟨T, f, hz⟩
  · exact zip_next_item D hz hTI hTO h1 h2 hl1 hl2 hx hy fun h' a1 a2 a3 a4 a5 a6 a7 => wpAny_pure (hQ h' (.inr ⟨_, _, a1⟩) ⟨_, _, a2⟩ a3 a4 a5 a6 a7)
  · cases hT : s.heap.get? T with
    | none => exact ez_dead_item D hz hT hTI hTO h1 h2 hl1 hl2 hx hy fun h' a1 a2 a3 a4 a5 a6 a7 => wpAny_pure (hQ h' (.inr ⟨_, _, a1⟩) ⟨_, _, a2⟩ a3 a4 a5 a6 a7)
    | some oT => exact zip_next_item_held D hz hT hTI h1 h2 hl1 hl2 hx hy fun h' a1 a2 a3 a4 a5 a6 => wpAny_pure (hQ h' (.inr ⟨_, _, a1⟩) ⟨_, _, a6 TO _ D.TOz D.TOi1 D.TOi2 hTO⟩ a2 a3 a4 a5 fun c o c1 _ c3 c4 e => a6 c o c1 c3 c4 e)

theorem ez_dead_end {z TI TO T i1 i2 l1 l2 : Addr} {f : Bool} {k1 k2 : Nat} {xs ys : Array Value} {a b : Value} {Q : Fin → Shared → Prop} (hh : A.handled = none) (D : ZipApart z TI TO i1 i2 l1 l2)
    (hz : IsZipHeld s.heap z TI TO T f) (hT : s.heap.get? T = none) (hTI : IsPair s.heap TI (.ref i1) (.ref i2)) (hTO : IsPair s.heap TO a b)
    (h1 : s.heap.IsListIter i1 l1 k1) (h2 : s.heap.IsListIter i2 l2 k2) (hl1 : s.heap.IsList l1 xs) (hl2 : s.heap.IsList l2 ys) (hend : xs[k1]? = none ∨ ys[k2]? = none)
    (hE : ∀ h' e, (∀ c o, c ≠ z → c ≠ TO → c ≠ i1 → c ≠ i2 → s.heap.get? c = some o → h'.get? c = some o) → (∃ o, h'.get? e = some o ∧ o.cls = .type "StopIteration") → E (.ref e) { s with heap := h' }) :
    wpAny (model prog w) A (Builtin.«zip.__next__» ⟨[.ref z], []⟩) Q E s := by
  show wpAny _ _ (field (.ref z) 2 >>= _) _ _ _
  refine wpAny_bind (wpAny_field hz rfl (x := .bool false) rfl ?_)
  show wpAny _ _ (field (.ref z) 3 >>= _) _ _ _
  refine wpAny_bind (wpAny_field hz rfl (x := .ref TI) rfl ?_)
  refine wpAny_bind (wpAny_seqItems hTI rfl ?_)
  show wpAny _ _ (Builtin.SmallTypes.ownedTupleIsFree (.ref z) >>= _) _ _ _
  refine wpAny_bind ?_
  unfold Builtin.SmallTypes.ownedTupleIsFree
  refine wpAny_bind (wpAny_field hz rfl (x := rawInt T) rfl ?_)
  show wpAny _ _ (loadIfAlive ((T : Int).toNat) >>= _) _ _ _
  rw [Int.toNat_natCast]
  refine wpAny_bind (ez_dead hT ?_)
  simp only [Option.isNone_none, if_true]
  refine wpAny_pure ?_
  simp only [if_true]
  refine wpAny_bind (wpAny_rule ?_)
  refine wpAny_bind (wpAny_field hz rfl (x := .ref TO) rfl ?_)
  refine wpAny_bind (wpAny_setField_rec hz (by simp) fun h₁ hz₁ hs₁ => ?_)
  replace hz₁ : h₁.get? z = some { cls := .type "zip", dict := none, data := .fields #[.ellipsis, .bool f, .bool false, .ref TI, .ref TO], slots := #[] } := hz₁
  refine wpAny_bind ?_
  simp only [List.zipIdx_cons, List.zipIdx_nil, List.forIn_cons, List.forIn_nil]
  refine wpAny_bind (wpAny_bind (wpAny_onRaise ?_))
  show wpAny _ _ (Builtin.SmallTypes.nextOf (.ref i1) >>= _) _ _ _
  cases hx : xs[k1]? with
  | none =>
    refine wpAny_bind (wpAny_nextOf_list_end hh (h1.extBut hs₁.extBut D.i1z) (hl1.extBut hs₁.extBut D.l1z) hx fun h₂ e hs₂ he => ?_)
    obtain ⟨oe, hoe, hce⟩ := he
    have hz₂ := hs₂ _ _ D.i1z.symm hz₁
    have hez : e ≠ z := fun x => by subst x; rw [hz₂] at hoe; cases hoe; simp at hce
    refine wpAny_setField_rec hz₂ (by simp) fun h₃ _ hs₃ => hE h₃ e (fun c o c1 _ c3 _ x => hs₃.extBut _ _ c1 (hs₂ _ _ c3 (hs₁.extBut _ _ c1 x))) ⟨oe, hs₃.extBut _ _ hez hoe, hce⟩
  | some x =>
    have hy : ys[k2]? = none := by rcases hend with h | h; rw [hx] at h; cases h; exact h
    refine wpAny_bind (wpAny_nextOf_list_item (h1.extBut hs₁.extBut D.i1z) (hl1.extBut hs₁.extBut D.l1z) hx fun h₂ h1₂ hs₂ => wpAny_pure ?_)
    have hTO₂ : IsPair h₂ TO a b := hs₂.extBut _ _ D.TOi1 (hs₁.extBut _ _ D.TOz hTO)
    refine wpAny_bind (wpAny_seqItems hTO₂ rfl ?_)
    refine wpAny_bind (wpAny_updateSeq_pair hTO₂ fun h₃ hTO₃ hs₃ => ?_)
    refine wpAny_bind (wpAny_letGo (wpAny_pure ?_))
    refine wpAny_bind (wpAny_bind (wpAny_onRaise ?_))
    show wpAny _ _ (Builtin.SmallTypes.nextOf (.ref i2) >>= _) _ _ _
    refine wpAny_bind (wpAny_nextOf_list_end hh (((h2.extBut hs₁.extBut D.i2z).extBut hs₂.extBut D.i12.symm).extBut hs₃.extBut D.TOi2.symm)
      (((hl2.extBut hs₁.extBut D.l2z).extBut hs₂.extBut D.l2i1).extBut hs₃.extBut D.l2TO) hy fun h₄ e hs₄ he => ?_)
    obtain ⟨oe, hoe, hce⟩ := he
    have hz₄ := hs₄ _ _ D.i2z.symm (hs₃.extBut _ _ D.TOz.symm (hs₂.extBut _ _ D.i1z.symm hz₁))
    have hez : e ≠ z := fun x => by subst x; rw [hz₄] at hoe; cases hoe; simp at hce
    refine wpAny_setField_rec hz₄ (by simp) fun h₅ _ hs₅ => hE h₅ e (fun c o c1 c2 c3 c4 x => hs₅.extBut _ _ c1 (hs₄ _ _ c4 (hs₃.extBut _ _ c2 (hs₂.extBut _ _ c3 (hs₁.extBut _ _ c1 x))))) ⟨oe, hs₅.extBut _ _ hez hoe, hce⟩
theorem ez_end {z TI TO i1 i2 l1 l2 : Addr} {k1 k2 : Nat} {xs ys : Array Value} {Q : Value → Shared → Prop} (hh : A.handled = none) (D : ZipApart z TI TO i1 i2 l1 l2)
    (hz : ZipAny s.heap z TI TO) (hTI : IsPair s.heap TI (.ref i1) (.ref i2)) (hTO : ∃ a b, IsPair s.heap TO a b)
    (h1 : s.heap.IsListIter i1 l1 k1) (h2 : s.heap.IsListIter i2 l2 k2) (hl1 : s.heap.IsList l1 xs) (hl2 : s.heap.IsList l2 ys) (hend : xs[k1]? = none ∨ ys[k2]? = none)
    (hE : ∀ h' e, (∀ c o, c ≠ z → c ≠ TO → c ≠ i1 → c ≠ i2 → s.heap.get? c = some o → h'.get? c = some o) → (∃ o, h'.get? e = some o ∧ o.cls = .type "StopIteration") → E (.ref e) { s with heap := h' }) :
    wpAny (model prog w) A (Builtin.SmallTypes.nextOf (.ref z)) Q E s := by
  obtain ⟨vs, ho⟩ := hz.there
  obtain ⟨a, b, hTO⟩ := hTO
  have hTy : s.TypeIs (.ref z) "zip" := ⟨_, ho, rfl⟩
  unfold Builtin.SmallTypes.nextOf
  refine wpAny_bind (wpAny_callSpecial?_slot (name := Str.ofString "__next__") hTy F.slot_zip_next (wpAny_call_entry F.slot_zip_next hTy F.entry_zip_next ?_ (F.args_zip_next_1 _)))
  rcases hz with hz | ⟨T, f, hz⟩
  · exact zip_next_end hh D hz hTI hTO h1 h2 hl1 hl2 hend hE
  · cases hT : s.heap.get? T with
    | none => exact ez_dead_end hh D hz hT hTI hTO h1 h2 hl1 hl2 hend hE
    | some oT => exact zip_next_end_held hh D hz hT hTI h1 h2 hl1 hl2 hend fun h' e k he => hE h' e (fun c o c1 _ c3 c4 x => k c o c1 c3 c4 x) he
/-- enumerate's next over a zip -/
theorem ez_enum_next {e z TI TO i1 i2 l1 l2 : Addr} {k1 k2 : Nat} {c : Int} {xs ys : Array Value} {x y old : Value} {Q : Value → Shared → Prop} (D : ZipApart z TI TO i1 i2 l1 l2)
    (he : IsEnum s.heap e z c old) (hez : e ≠ z) (heTI : e ≠ TI) (heTO : e ≠ TO) (hei1 : e ≠ i1) (hei2 : e ≠ i2)
    (hz : ZipAny s.heap z TI TO) (hTI : IsPair s.heap TI (.ref i1) (.ref i2)) (hTO : ∃ a b, IsPair s.heap TO a b)
    (h1 : s.heap.IsListIter i1 l1 k1) (h2 : s.heap.IsListIter i2 l2 k2) (hl1 : s.heap.IsList l1 xs) (hl2 : s.heap.IsList l2 ys) (hx : xs[k1]? = some x) (hy : ys[k2]? = some y)
    (hQ : ∀ h' tk v, IsEnumOut h' e z (c + 1) v (s.heap.objs.size + 1) → ZipAny h' z TI TO → IsPair h' TI (.ref i1) (.ref i2) → (∃ a b, IsPair h' TO a b) → h'.IsListIter i1 l1 (k1 + 1) → h'.IsListIter i2 l2 (k2 + 1) → IsPair h' s.heap.objs.size x y →
      h'.get? (s.heap.objs.size + 1) = some { cls := .type "tuple", data := .seq #[.int c tk, .ref s.heap.objs.size] } → h'.objs.size = s.heap.objs.size + 2 →
      (∀ b o, b ≠ e → b ≠ z → b ≠ TO → b ≠ i1 → b ≠ i2 → s.heap.get? b = some o → h'.get? b = some o) → Q (.ref (s.heap.objs.size + 1)) { s with heap := h', toks := tk + 1 }) :
    wpAny (model prog w) A (Builtin.«enumerate.__next__» ⟨[.ref e], []⟩) (fun fin s' => ∃ v, fin = .done (.ret v) ∧ Q v s') E s := by
  obtain ⟨hp, g, d, tk, os⟩ := s
  have hel : e < hp.objs.size := Heap.lt_size he
  show wpAny _ _ (field (.ref e) 2 >>= _) _ _ _
  refine wpAny_bind (wpAny_field he rfl (x := .ref z) rfl ?_)
  refine wpAny_bind (ez_item (s := ⟨hp, g, d, tk, os⟩) D hz hTI hTO h1 h2 hl1 hl2 hx hy fun h₁ hz₁ hTO₁ h1₁ h2₁ hp₁ hsz₁ hk₁ => ?_)
  dsimp only at hp₁ hsz₁ hk₁
  have he₁ : IsEnum h₁ e z c old := hk₁ _ _ hez heTO hei1 hei2 he
  have hTI₁ : IsPair h₁ TI (.ref i1) (.ref i2) := hk₁ _ _ D.TIz D.TITO D.TIi1 D.TIi2 hTI
  show wpAny _ _ (field (.ref e) 3 >>= _) _ _ ⟨h₁, g, d, tk, os⟩
  refine wpAny_bind (wpAny_field he₁ rfl (x := rawInt c) rfl ?_)
  show wpAny _ _ (field (.ref e) 4 >>= _) _ _ ⟨h₁, g, d, tk, os⟩
  refine wpAny_bind (wpAny_field he₁ rfl (x := .none) rfl ?_)
  show wpAny _ _ (mkInt c >>= _) _ _ ⟨h₁, g, d, tk, os⟩
  refine wpAny_bind (wpAny_mkInt ?_)
  show wpAny _ _ (setField (.ref e) 3 (rawInt (c + 1)) >>= _) _ _ ⟨h₁, g, d, tk + 1, os⟩
  refine wpAny_bind (wpAny_setField_rec he₁ (by simp) fun h₂ he₂ hs₂ => ?_)
  replace hs₂ : Heap.SameBut e h₁ h₂ := hs₂
  replace he₂ : IsEnum h₂ e z (c + 1) old := he₂
  show wpAny _ _ (setField (.ref e) 4 .none >>= _) _ _ ⟨h₂, g, d, tk + 1, os⟩
  refine wpAny_bind (wpAny_setField_rec he₂ (by simp) fun h₃ he₃ hs₃ => ?_)
  replace hs₃ : Heap.SameBut e h₂ h₃ := hs₃
  replace he₃ : IsEnum h₃ e z (c + 1) old := he₃
  show wpAny _ _ (newTuple [.int c tk, .ref hp.objs.size] >>= _) _ _ ⟨h₃, g, d, tk + 1, os⟩
  refine wpAny_bind (wpAny_newTuple ?_)
  have he₄ : IsEnum (h₃.push { cls := .type "tuple", data := .seq #[.int c tk, .ref hp.objs.size] }) e z (c + 1) old := Heap.get?_push_of_some _ he₃
  generalize hh₄ : h₃.push { cls := .type "tuple", data := .seq #[.int c tk, .ref hp.objs.size] } = h₄ at he₄
  have hsz : h₃.objs.size = hp.objs.size + 1 := by rw [hs₃.1, hs₂.1, hsz₁]
  have ht₄ : h₄.get? (hp.objs.size + 1) = some { cls := .type "tuple", data := .seq #[.int c tk, .ref hp.objs.size] } := by rw [← hh₄, ← hsz]; exact Heap.get?_push_size _ rfl
  have hz₄ : h₄.objs.size = hp.objs.size + 2 := by rw [← hh₄, Heap.size_push, hsz]
  have hk₄ : ∀ b o, b ≠ e → h₁.get? b = some o → h₄.get? b = some o := fun b o hbe hb => by
    rw [← hh₄]; exact Heap.get?_push_of_some _ (hs₃.extBut b o hbe (hs₂.extBut b o hbe hb))
  show wpAny _ _ (Builtin.SmallTypes.ownedTupleIsFree (.ref e) >>= _) _ _ ⟨h₄, g, d, tk + 1, os⟩
  rw [hsz]
  clear hh₄ he₃ hs₃ he₂ hs₂ he₁ hsz h₃ h₂
  refine wpAny_bind ?_
  · unfold Builtin.SmallTypes.ownedTupleIsFree
    refine wpAny_bind (wpAny_field he₄ rfl (x := .none) rfl (wpAny_pure ?_))
    simp only [if_true]
    refine wpAny_bind (wpAny_rule ?_)
    refine wpAny_bind (wpAny_field he₄ rfl (x := old) rfl ?_)
    refine wpAny_bind (wpAny_setField_rec he₄ (by simp) fun h₅ he₅ hs₅ => ?_)
    replace hs₅ : Heap.SameBut e h₄ h₅ := hs₅
    replace he₅ : IsEnum h₅ e z (c + 1) (.ref hp.objs.size) := he₅
    show wpAny _ _ (Builtin.SmallTypes.ownedTupleHandOut (.ref e) (.ref (hp.objs.size + 1)) >>= _) _ _ ⟨h₅, g, d, tk + 1, os⟩
    refine wpAny_bind ?_
    · unfold Builtin.SmallTypes.ownedTupleHandOut
      refine wpAny_bind (wpAny_setField_rec he₅ (by simp) fun h₆ he₆ hs₆ => ?_)
      replace hs₆ : Heap.SameBut e h₅ h₆ := hs₆
      replace he₆ : IsEnumOut h₆ e z (c + 1) (.ref hp.objs.size) (hp.objs.size + 1) := he₆
      refine wpAny_setField_rec he₆ (by simp) fun h₇ he₇ hs₇ => ?_
      replace hs₇ : Heap.SameBut e h₆ h₇ := hs₇
      replace he₇ : IsEnumOut h₇ e z (c + 1) (.ref hp.objs.size) (hp.objs.size + 1) := he₇
      have up : ∀ b o, b ≠ e → h₁.get? b = some o → h₇.get? b = some o := fun b o hb x => hs₇.extBut b o hb (hs₆.extBut b o hb (hs₅.extBut b o hb (hk₄ b o hb x)))
      obtain ⟨ta, tb, hTO₁⟩ := hTO₁
      refine wpAny_bind (wpAny_letGo (wpAny_pure ⟨_, rfl, hQ h₇ tk _ he₇ (hz₁.at fun o => up _ o hez.symm) (up _ _ heTI.symm hTI₁) ⟨ta, tb, up _ _ heTO.symm hTO₁⟩ (h1₁.at fun o => up _ o hei1.symm) (h2₁.at fun o => up _ o hei2.symm) (up _ _ (Nat.ne_of_gt hel) hp₁) ?_ ?_ fun b o b1 b2 b3 b4 b5 hb => up _ _ b1 (hk₁ _ _ b2 b3 b4 b5 hb)⟩))
      · exact hs₇.extBut _ _ (Nat.ne_of_gt (Nat.lt_succ_of_lt hel)) (hs₆.extBut _ _ (Nat.ne_of_gt (Nat.lt_succ_of_lt hel)) (hs₅.extBut _ _ (Nat.ne_of_gt (Nat.lt_succ_of_lt hel)) ht₄))
      · rw [hs₇.1, hs₆.1, hs₅.1, hz₄]
theorem meets_enumerate_newZ (z : Addr) (vs : Array Value) :
    Meets (Builtin.«enumerate.__new__» ⟨[.type "enumerate", .ref z], []⟩) (fun _ R s => s.heap.get? z = some { cls := .type "zip", dict := none, data := .fields vs, slots := #[] } ∧ (∃ TI TO f0, vs = #[f0, .bool false, .bool false, .ref TI, .ref TO]) ∧
      R (.ok (.ret (.ref s.heap.objs.size)))
        { s with heap := s.heap.push { cls := .type "enumerate", data := .fields #[.none, .bool false, .ref z, rawInt 0, .none, .none] } }) :=
  .of_wp fun prog w A R s h => by
    obtain ⟨hp, g, d, tk, os⟩ := s
    obtain ⟨hl, ⟨TI, TO, f0, rfl⟩, h⟩ := h
    have hsub := sub_enumerate
    have hZ : IsZip (Shared.heap ⟨hp, g, d, tk, os⟩) z TI TO f0 := hl
    wp_walk using wpAny_loadPart' hl
    refine wpAny_stack_any fun st => wpAny_pure ?_
    split
    · rename_i c _ _ _ _ _
      cases (c == Value.type "enumerate")
      · wp_walk using wpAny_loadPart' hl, wpAny_pyIter_zip hZ
        exact ⟨_, rfl, h⟩
      · wp_walk using wpAny_loadPart' hl, wpAny_pyIter_zip hZ
        exact ⟨_, rfl, h⟩
    · wp_walk using wpAny_loadPart' hl, wpAny_pyIter_zip hZ
      exact ⟨_, rfl, h⟩
theorem call_enumerate_zip {z TI TO : Addr} {Q : Value → Shared → Prop} (hz : IsZip s.heap z TI TO .none)
    (h : ∀ h', IsEnum h' s.heap.objs.size z 0 .none → h'.objs.size = s.heap.objs.size + 1 → (∀ b o, s.heap.get? b = some o → h'.get? b = some o) → Q (.ref s.heap.objs.size) { s with heap := h' }) :
    wpAny (model prog w) A (call (.type "enumerate") [.ref z]) Q E s := by
  refine callType_new F.called_enumerate (by decide) (F.typeCall_enumerate_1 _) (F.newCall_enumerate_1 _) (fun obj => F.args_object_init_2 obj _) F.entry_enumerate_new
    (meets_enumerate_newZ z _) ⟨hz, ⟨_, _, _, rfl⟩, ?_⟩
  have he := Heap.get?_push_size s.heap (o := { cls := .type "enumerate", data := .fields #[.none, .bool false, .ref z, rawInt 0, .none, .none] }) rfl
  exact ⟨⟨_, he, rfl⟩, h _ he (by rw [Heap.size_push]) fun b o x => Heap.get?_push_of_some _ x⟩
end
end PySem

namespace L2
open PySem PySem.Spec PyProof.Rows
section
variable {X : Cx} {pins : List (Addr × Obj)} {σ : St} {H : Hp} {s : Shared} {h' : Heap}
/-- two new objects, and an iterator's own ones changed -/
theorem Inv.turnedNew2 {t' : Nat} {ch : List Addr} {T T2 : Addr} {ob ob2 : HO} (I : Inv X pins σ H s) (k : ∀ b o, b ∉ ch → s.heap.get? b = some o → h'.get? b = some o) (hf : ∀ b ∈ ch, FpOk X pins H b) (hT : s.heap.objs.size ≤ T) (hT2 : s.heap.objs.size ≤ T2) (hne : T ≠ T2)
    (new : ObjOk X.prog X.w (upd (upd H T ob) T2 ob2) h' T ob) (new2 : ObjOk X.prog X.w (upd (upd H T ob) T2 ob2) h' T2 ob2) : Inv X pins σ (upd (upd H T ob) T2 ob2) { s with heap := h', toks := t' } := by
  have hn : H T = none := I.hok.fresh hT
  have hn2 : H T2 = none := I.hok.fresh hT2
  have same : ∀ {b : Addr} {u : HO}, H b = some u → upd (upd H T ob) T2 ob2 b = some u := fun {b u} e => by rw [upd_ne (ne_of_none e hn2), upd_ne (ne_of_none e hn)]; exact e
  have nit : ∀ b u, H b = some u → b ∉ ch := fun b u e z => by
    have q := (hf b z).1
    rw [q] at e; cases e
  refine I.step (g' := s.gens) (d' := s.drawn) (ch := ch) (fun b hb => ⟨(hf b hb).2.2.2.1, (hf b hb).2.1, (hf b hb).2.2.2.2.1, (hf b hb).2.2.2.2.2⟩) (fun b o _ _ hc e _ => k b o hc e) (fun b o _ _ hc e _ => ⟨o.slots, k b o hc e⟩)
    (fun b o _ e n => ?_) (fun b o hc e => ⟨o, k b o hc e⟩) (fun b xs e => same e) (fun b o u e => same e) (fun b ps e => ⟨#[], ?_⟩) (fun m hm => ?_) (fun b u e => ?_) I.bare
  · have lt := Heap.lt_size e
    rw [upd_ne (Nat.ne_of_lt (Nat.lt_of_lt_of_le lt hT2)), upd_ne (Nat.ne_of_lt (Nat.lt_of_lt_of_le lt hT))]; exact n
  · rw [same e]; simp
  · obtain ⟨o, es, ep, ho, r⟩ := hm
    exact ⟨o, es, ep, k _ o (fun z => (hf _ z).2.1 rfl) ho, r⟩
  · by_cases hb2 : b = T2
    · subst hb2
      rw [upd_same] at e
      cases e
      exact new2
    · rw [upd_ne hb2] at e
      by_cases hb : b = T
      · subst hb
        rw [upd_same] at e
        cases e
        exact new
      · rw [upd_ne hb] at e
        refine (I.hok b u e).stay (fun c v hc q => k c v ?_ q) (fun c q => same q) fun c xs q => same q
        rcases hc with z | z
        · rw [z]; exact nit b u e
        · exact nit c _ z
end
/-- the lists at a and b as they stand at each turn, the items in new pairs within new pairs with the turn -/
def Itez (K : PySem.W.Frag) (a b : Addr) : It :=
  ⟨fun i H => ∃ (xs ys : List V) (x y : V), SqL K H a xs ∧ SqL K H b ys ∧ xs[i]? = some x ∧ ys[i]? = some y,
    fun i H v H' => ∃ T T2 x y, v = .ref T2 ∧ H T = none ∧ H T2 = none ∧ T ≠ T2 ∧ H' = upd (upd H T (.tup [x, y])) T2 (.tup [.int (i : Nat), .ref T]) ∧ (∀ xs, SqL K H a xs → xs[i]? = some x) ∧ ∀ ys, SqL K H b ys → ys[i]? = some y,
    fun i H => ∃ xs ys : List V, SqL K H a xs ∧ SqL K H b ys ∧ (xs.length ≤ i ∨ ys.length ≤ i)⟩
theorem turn_ez {P : Program} {w : World} {K : PySem.W.Frag} {elts : List Expr} {kk : Nat} {tpos : Pos} {a b e z TI TO i1 i2 : Addr} (D : ZipApart z TI TO i1 i2 a b) (hez : e ≠ z) (heTI : e ≠ TI) (heTO : e ≠ TO) (hei1 : e ≠ i1) (hei2 : e ≠ i2) :
    Turn P w K (.Tuple elts kk tpos) (Itez K a b) [e, z, TI, TO, i1, i2] e (fun i h => (∃ old, IsEnum h e z ((i : Nat) : Int) old) ∧ ZipAny h z TI TO ∧ IsPair h TI (.ref i1) (.ref i2) ∧ (∃ x y, IsPair h TO x y) ∧ h.IsListIter i1 a i ∧ h.IsListIter i2 b i) where
  mem := by simp
  obj := fun i h st c hc => by
    obtain ⟨⟨old, he⟩, hz, hTI, ⟨x, y, hTO⟩, ⟨o1, e1, _, d1⟩, ⟨o2, e2, _, d2⟩⟩ := st
    obtain ⟨vs, hz⟩ := hz.there
    have e' : c = e ∨ c = z ∨ c = TI ∨ c = TO ∨ c = i1 ∨ c = i2 := by simpa using hc
    rcases e' with q | q | q | q | q | q
    · rw [q]; exact ⟨_, he, fun v q => nomatch q⟩
    · rw [q]; exact ⟨_, hz, fun v q => nomatch q⟩
    · rw [q]; exact ⟨_, hTI, fun v q => nomatch q⟩
    · rw [q]; exact ⟨_, hTO, fun v q => nomatch q⟩
    · rw [q]; exact ⟨o1, e1, fun v q => by rw [d1] at q; cases q⟩
    · rw [q]; exact ⟨o2, e2, fun v q => by rw [d2] at q; cases q⟩
  keep := fun i h h' st k => by
    obtain ⟨⟨old, he⟩, hz, hTI, ⟨x, y, hTO⟩, h1, h2⟩ := st
    exact ⟨⟨old, k e (by simp) _ he⟩, hz.at fun o q => k z (by simp) o q, k TI (by simp) _ hTI, ⟨x, y, k TO (by simp) _ hTO⟩, h1.at fun o q => k i1 (by simp) o q, h2.at fun o q => k i2 (by simp) o q⟩
  item := by
    intro X hP hw hK hc i pins s σ H E I hf st hg
    subst hP hw hK
    obtain ⟨⟨old, he⟩, hz, hTI, hTO, h1, h2⟩ := st
    obtain ⟨xs, ys, x, y, hqx, hqy, hx, hy⟩ := hg
    obtain ⟨its, rv, p, _⟩ := I.list hqx
    obtain ⟨its2, rv2, p2, _⟩ := I.list hqy
    obtain ⟨u, hu, ru⟩ := rv.get hx
    obtain ⟨u2, hu2, ru2⟩ := rv2.get hy
    have hel : e < s.heap.objs.size := Heap.lt_size he
    have hTy : s.TypeIs (.ref e) "enumerate" := ⟨_, he, rfl⟩
    unfold pyNext
    refine wpAny_bind (wpAny_attempt (wpAny_callSpecial?_slot (name := Str.ofString "__next__") hTy F.slot_enumerate_next
      (wpAny_call_entry F.slot_enumerate_next hTy F.entry_enumerate_next
        (ez_enum_next D he hez heTI heTO hei1 hei2 hz hTI hTO h1 h2 p.isList p2.isList (x := u) (y := u2) (by simpa using hu) (by simpa using hu2) fun h' tk v ho hz' hTI' hTO' h1' h2' hp hT hsz hk => wpAny_pure ?_) (F.args_enumerate_next_1 _))))
    refine ⟨_, rfl, wpAny_letOwnedTupleGo_enum (s := { s with heap := h', toks := tk + 1 }) ho fun h'' he' sb => ?_⟩
    have up : ∀ b o, b ≠ e → h'.get? b = some o → h''.get? b = some o := fun b o hb q => (sb.2 b hb).trans q
    have ne1 : s.heap.objs.size ≠ e := Nat.ne_of_gt hel
    have ne2 : s.heap.objs.size + 1 ≠ e := Nat.ne_of_gt (Nat.lt_succ_of_lt hel)
    have nn : s.heap.objs.size ≠ s.heap.objs.size + 1 := Nat.ne_of_lt (Nat.lt_succ_self _)
    have hp2 := up _ _ ne1 hp
    have hT2 := up _ _ ne2 hT
    have new : ObjOk X.prog X.w (upd (upd H s.heap.objs.size (.tup [x, y])) (s.heap.objs.size + 1) (.tup [.int (i : Nat), .ref s.heap.objs.size])) h'' s.heap.objs.size (.tup [x, y]) :=
      ⟨by show 2 ≤ sizeLine; decide, [u, u2], .cons ru (.cons ru2 .nil), ⟨_, hp2, rfl, _, rfl⟩⟩
    have new2 : ObjOk X.prog X.w (upd (upd H s.heap.objs.size (.tup [x, y])) (s.heap.objs.size + 1) (.tup [.int (i : Nat), .ref s.heap.objs.size])) h'' (s.heap.objs.size + 1) (.tup [.int (i : Nat), .ref s.heap.objs.size]) :=
      ⟨by show 2 ≤ sizeLine; decide, [.int i tk, .ref s.heap.objs.size], .cons ⟨_, rfl⟩ (.cons rfl .nil), ⟨_, hT2, rfl, _, rfl⟩⟩
    have I1 : Inv X pins σ (upd (upd H s.heap.objs.size (.tup [x, y])) (s.heap.objs.size + 1) (.tup [.int (i : Nat), .ref s.heap.objs.size])) { s with heap := h'', toks := tk + 1 } :=
      I.turnedNew2 (ch := [e, z, TI, TO, i1, i2]) (fun b ob hb q => up b ob (fun z => hb (by simp [z])) (hk b ob (fun z => hb (by simp [z])) (fun z => hb (by simp [z])) (fun z => hb (by simp [z])) (fun z => hb (by simp [z])) (fun z => hb (by simp [z])) q)) hf (Nat.le_refl _) (Nat.le_succ _) nn new new2
    refine ⟨.ref (s.heap.objs.size + 1), _, I1, rfl, ⟨_, _, x, y, rfl, I.hok.fresh (Nat.le_refl _), I.hok.fresh (Nat.le_succ _), nn, rfl, fun ys hy => by rw [I.list_inj hy hqx]; exact hx, fun ys hy' => by rw [I.list_inj hy' hqy]; exact hy⟩, ⟨⟨v, ?_⟩, hz'.at fun o q => up _ _ hez.symm q, up _ _ heTI.symm hTI', ?_, h1'.at fun o q => up _ _ hei1.symm q, h2'.at fun o q => up _ _ hei2.symm q⟩, fun b hb => ?_⟩
    · have e1 : ((i + 1 : Nat) : Int) = (i : Int) + 1 := by omega
      rw [e1]; exact he'
    · obtain ⟨ta, tb, q⟩ := hTO'
      exact ⟨ta, tb, up _ _ heTO.symm q⟩
    · have hlt : b < s.heap.objs.size := by
        have e' : b = e ∨ b = z ∨ b = TI ∨ b = TO ∨ b = i1 ∨ b = i2 := by simpa using hb
        obtain ⟨vs, hzo⟩ := hz.there
        obtain ⟨ta, tb, hTO⟩ := hTO
        obtain ⟨_, q1, _⟩ := h1
        obtain ⟨_, q2, _⟩ := h2
        rcases e' with q | q | q | q | q | q
        · rw [q]; exact hel
        · rw [q]; exact Heap.lt_size hzo
        · rw [q]; exact Heap.lt_size hTI
        · rw [q]; exact Heap.lt_size hTO
        · rw [q]; exact Heap.lt_size q1
        · rw [q]; exact Heap.lt_size q2
      rw [upd_ne (Nat.ne_of_lt (Nat.lt_succ_of_lt hlt)), upd_ne (Nat.ne_of_lt hlt)]
      exact (hf b hb).1
  done := by
    intro X hP hw hK hc i pins s σ H E I hf st hg
    subst hP hw hK
    obtain ⟨⟨old, he⟩, hz, hTI, hTO, h1, h2⟩ := st
    obtain ⟨xs, ys, hqx, hqy, hend⟩ := hg
    obtain ⟨its, rv, p, _⟩ := I.list hqx
    obtain ⟨its2, rv2, p2, _⟩ := I.list hqy
    have l1 := rv.length
    have l2 := rv2.length
    have hee : its.toArray[i]? = none ∨ its2.toArray[i]? = none := by
      rcases hend with q | q
      · exact .inl (by simp; omega)
      · exact .inr (by simp; omega)
    have hTy : s.TypeIs (.ref e) "enumerate" := ⟨_, he, rfl⟩
    unfold pyNext
    refine wpAny_bind (wpAny_attempt (wpAny_callSpecial?_slot (name := Str.ofString "__next__") hTy F.slot_enumerate_next
      (wpAny_call_entry F.slot_enumerate_next hTy F.entry_enumerate_next ?_ (F.args_enumerate_next_1 _))))
    show wpAny _ _ (field (.ref e) 2 >>= _) _ _ _
    refine wpAny_bind (wpAny_field he rfl (x := .ref z) rfl ?_)
    refine wpAny_bind (ez_end (I.ok.hd hc) D hz hTI hTO h1 h2 p.isList p2.isList hee fun h' x hk he' => ?_)
    obtain ⟨o, ho, hcl⟩ := he'
    refine wpAny_bind (wpAny_isInstance (T := "StopIteration") (b := true) ⟨o, ho, hcl⟩ isSubtype_stop ?_)
    exact wpAny_pure ⟨rfl, I.turnedL (t' := s.toks) (ch := [e, z, TI, TO, i1, i2]) (fun c o hb q => hk c o (fun q' => hb (by simp [q'])) (fun q' => hb (by simp [q'])) (fun q' => hb (by simp [q'])) (fun q' => hb (by simp [q'])) q) hf⟩
  self := fun A i s Q E st h => let ⟨⟨_, he⟩, _⟩ := st; wpAny_pyIter_enum he h
def iEz (K : PySem.W.Frag) (ta : TA) : TI := fun σ H R => ta σ H fun vs H1 => ∃ a b xs ys, vs = [.ref a, .ref b] ∧ SqL K H1 a xs ∧ SqL K H1 b ys ∧ R (Itez K a b) H1
theorem pi_ez {X : Cx} {e e2 : Expr} {ta : TA} {p p2 pos pos2 tpos : Pos} {elts : List Expr} {kk : Nat} (hg : Gl X "enumerate") (hm : X.mg "enumerate" = none) (hg2 : Gl X "zip") (hm2 : X.mg "zip" = none) (ha : PA X [e, e2] ta)
    (hs : starEach [e, e2] X.env = (false, eval e X.env) :: starEach [e2] X.env := by rfl) (hpl : (backTo pos2 (starEach [e2] X.env)).any (·.1) = false := by rfl)
    (hs2 : starEach [.Call (.Name "zip" p2) [e, e2] [] pos2] X.env = [(false, eval (.Call (.Name "zip" p2) [e, e2] [] pos2) X.env)] := by rfl) :
    PI X (.Tuple elts kk tpos) (.Call (.Name "enumerate" p) [.Call (.Name "zip" p2) [e, e2] [] pos2] [] pos) (iEz X.K ta) := by
  refine ⟨fun pins s σ H R I h => ?_⟩
  refine Call_ (ld_blt I hg hm boot_enumerate (PyProof.Rows.callWith_type1 ?_ hs2 rfl))
  rw [hs2]
  show wpAny _ _ (spliced ((false, eval (.Call (.Name "zip" p2) [e, e2] [] pos2) X.env) :: backTo pos [])) _ _ s
  refine Calls.spliced_cons (Call_ (ld_blt I hg2 hm2 PyProof.Rows.boot_zip (PyProof.Rows.callWith_type1 (thn (ha.run pos2 pins s σ H _ I h) fun us s1 ⟨vs, H1, I1, r1, q1⟩ => ?_) hs hpl)))
  obtain ⟨a, b, xs, ys, ex, hqx, hqy, q⟩ := q1
  subst ex
  cases r1 with
  | cons r rr =>
    cases rr with
    | cons r' rr =>
      cases rr
      cases r
      cases r'
      obtain ⟨its, rv, p1, _⟩ := I1.list hqx
      obtain ⟨its2, rv2, p2', _⟩ := I1.list hqy
      have la : a < s1.heap.objs.size := p1.lt
      have lb : b < s1.heap.objs.size := p2'.lt
      refine call_zip_2 p1.isList p2'.isList fun h' hz hTI hTO h1 h2 hsz hk => ?_
      refine Calls.spliced_nil ?_
      refine call_enumerate_zip (s := { s1 with heap := h' }) hz fun h2' he hsz2 hk2 => wpAny_pyIter_enum he ?_
      dsimp only at he hsz2 hk2
      rw [hsz] at he hsz2
      have I2 : Inv X pins σ H1 { s1 with heap := h2' } := I1.kept (t' := s1.toks) fun c o x => hk2 c o (hk c o x)
      refine ⟨s1.heap.objs.size + 5, [s1.heap.objs.size + 5, s1.heap.objs.size + 4, s1.heap.objs.size + 2, s1.heap.objs.size + 3, s1.heap.objs.size, s1.heap.objs.size + 1], _, _, H1, by rw [hsz], I2,
        turn_ez (PySem.W.ktu_apart s1.heap.objs.size a b la lb) (by simp) (by simp) (by simp) (by simp) (by simp), ⟨⟨.none, he⟩, .inl (hk2 _ _ hz), hk2 _ _ hTI, ⟨_, _, hk2 _ _ hTO⟩, h1.at fun o x => hk2 _ o x, h2.at fun o x => hk2 _ o x⟩, fun c hcm => ?_, q⟩
      have e' : c = s1.heap.objs.size + 5 ∨ c = s1.heap.objs.size + 4 ∨ c = s1.heap.objs.size + 2 ∨ c = s1.heap.objs.size + 3 ∨ c = s1.heap.objs.size ∨ c = s1.heap.objs.size + 1 := by simpa using hcm
      have hle : s1.heap.objs.size ≤ c := by
        rcases e' with z | z | z | z | z | z
        · rw [z]; exact Nat.le_add_right _ _
        · rw [z]; exact Nat.le_add_right _ _
        · rw [z]; exact Nat.le_add_right _ _
        · rw [z]; exact Nat.le_add_right _ _
        · rw [z]; exact Nat.le_refl _
        · rw [z]; exact Nat.le_add_right _ _
      exact I1.fpOk hle (I1.hok.fresh hle)
end L2

namespace G
open PySem PySem.Spec PyProof.Rows L2
variable {C : Cn} {xc : XC C}
theorem call_max3 {X : Cx} (hc : X.calm = true) : CallR X (.builtin "max") (fun xs H Q => ∃ i j k, xs = [.int i, .int j, .int k] ∧ Q (.int (max i (max j k))) H) := by
  intro pins s σ H xs us Q I r h
  obtain ⟨i, j, k, rfl, q⟩ := h
  cases r with
  | cons r1 r =>
    cases r with
    | cons r2 r =>
      cases r with
      | cons r3 r =>
        cases r
        obtain ⟨t1, rfl⟩ := r1
        obtain ⟨t2, rfl⟩ := r2
        obtain ⟨t3, rfl⟩ := r3
        refine max_three_ints (I.ok.hd hc) fun h' tk kk => ⟨_, H, I.kept kk, ?_, q⟩
        split <;> split <;> exact ⟨_, by congr 1; omega⟩
section
variable {K : PySem.W.Frag} {ta tb : TE} {ka kb : KE}
def kEz (ka kb : KE) : KI := fun γ q => kZip ka kb γ fun ds γ1 => q (enumD 0 ds) γ1
theorem so_ez (h : SoE xc ta ka) (h' : SoE xc tb kb) : SoI xc (iEz K (tCons ta (tCons tb tNil))) (kEz ka kb) := fun γ Θ σ H Rr q R hk w => h γ Θ σ H _ _ R hk fun γ1 v H1 hk1 R1 => h' γ1 _ σ H1 _ _ R1 hk1 fun γ2 u H2 hk2 R2 => by
  obtain ⟨sl, tm, j⟩ := γ2
  dsimp only at hk2
  split at hk2
  · rename_i s2 ds tm
    obtain ⟨es, e, hq, et⟩ := elimF hk2
    subst et
    obtain ⟨b, zs, rfl, hb, R3⟩ := it_core R2 e
    obtain ⟨a, xs, rfl, ha, _, _⟩ := R3.pop.item (l := true) (ds := ds) rfl
    refine ⟨a, b, xs, zs, rfl, SqL.of ha, SqL.of hb, w _ (enumD 0 (zipD ds es)) _ _ H2 hq (fun E Φ sl n σ H el na R => popD_one E Φ sl n σ H el na (popD_one E Φ sl n σ H el na R)) (fun E0 Φ0 i sl n σ H ee0 R => ?_) R3⟩
    -- the turn on the stack
    have Rp : Rel C ⟨sl, .fz (.int (i : Nat)) :: (E0 ++ _), n⟩ (.int (i : Nat) :: (Φ0 ++ _)) σ H := R.push fun Z => .int _
    obtain ⟨E, hE⟩ : ∃ E, E = Sl.fz (.int (i : Nat)) :: E0 := ⟨_, rfl⟩
    obtain ⟨Φ, hΦ⟩ : ∃ Φ, Φ = V.int (i : Nat) :: Φ0 := ⟨_, rfl⟩
    have ee : Φ.length = E.length := by rw [hE, hΦ]; simp [ee0]
    rw [← List.cons_append, ← List.cons_append, ← hE, ← hΦ] at Rp
    have R1 := Rp.dupAt (kk := E.length) (d := .list es) (v := .ref b) (by show (E ++ _)[E.length]? = _; rw [List.getElem?_append_right (Nat.le_refl _)]; simp [dq]) (by rw [← ee, List.getElem?_append_right (Nat.le_refl _)]; simp)
    obtain ⟨b', us, eb, hb2, elb, kb⟩ := R1.item (l := true) (ds := es) rfl
    cases eb
    have R1' := Rp.dupAt (kk := E.length + 1) (d := .list ds) (v := .ref a) (by show (E ++ _)[E.length + 1]? = _; rw [List.getElem?_append_right (by omega)]; simp) (by rw [← ee, List.getElem?_append_right (by omega)]; simp)
    obtain ⟨a', ws, ea, ha2, ela, ka⟩ := R1'.item (l := true) (ds := ds) rfl
    cases ea
    have hb3 : H b = some (.lst us) := hb2
    have ha3 : H a = some (.lst ws) := ha2
    refine ⟨fun x ex => ?_, fun hi => ⟨ws, us, SqL.of ha3, SqL.of hb3, by rw [enumD_len, zipD_len] at hi; omega⟩⟩
    rw [enumD_at] at ex
    obtain ⟨xz, exz, rfl⟩ := Option.map_eq_some_iff.mp ex
    obtain ⟨d0, e0, q1, q2, rfl⟩ := zipD_at _ _ _ _ exz
    have l1 : i < ws.length := by
      have := (List.getElem?_eq_some_iff.mp q1).1
      omega
    have l2 : i < us.length := by
      have := (List.getElem?_eq_some_iff.mp q2).1
      omega
    refine ⟨⟨ws, us, _, _, SqL.of ha3, SqL.of hb3, List.getElem?_eq_getElem l1, List.getElem?_eq_getElem l2⟩, fun y H3 hy => ?_⟩
    obtain ⟨T, T2, x1, x2, rfl, hT, hT2, hne, rfl, hx1, hx2⟩ := hy
    have R4 := ka i d0 x1 q1 (hx1 ws (SqL.of ha3))
    have R5 := R4.dupAt (kk := E.length + 1) (d := .list es) (v := .ref b) (by show (Sl.fz _ :: (E ++ _))[E.length + 1]? = _; rw [List.getElem?_cons_succ, List.getElem?_append_right (Nat.le_refl _)]; simp [dq]) (by rw [List.getElem?_cons_succ, ← ee, List.getElem?_append_right (Nat.le_refl _)]; simp)
    obtain ⟨b4, us4, eb4, hb4, elb4, kb4⟩ := R5.item (l := true) (ds := es) rfl
    cases eb4
    have e4 : us4 = us := by
      have : H b = some (.lst us4) := hb4
      rw [hb3] at this
      cases this
      rfl
    subst e4
    have R6 := (kb4 i e0 x2 q2 (hx2 _ (SqL.of hb3))).pair hT
    rw [hE, hΦ] at R6
    have R7 := R6.pair (p := T2) (by rw [upd_ne hne.symm]; exact hT2)
    rw [Nat.zero_add]
    exact R7
  · exact hk2.elim
end
end G
/-! GAK: the sum of a tuple. -/
namespace G
open PySem PySem.Spec PyProof.Rows L2
variable {C : Cn} {xc : XC C}
section
variable {X : Cx}
def rSumT (K : PySem.W.Frag) : List V → Hp → VK → Prop := fun vs H Q => ∃ (a : Addr) (ns : List Int), vs = [V.ref a] ∧ SqT K H a (ns.map V.int) ∧ Q (.int ns.sum) H
theorem cr_sumT (hc : X.calm = true) : CallR X (.builtin "sum") (rSumT X.K) := by
  intro pins s σ H vs us Q I r h
  obtain ⟨a, ns, rfl, hs, q⟩ := h
  obtain ⟨its, rv, hl, _⟩ := I.tuple hs
  rw [Vals.ref1 r]
  obtain ⟨xs, e⟩ := rv.ints.allInts.items
  have hn : numsOf (intItems xs).toList = ns := by rw [← e]; exact rv.ints.numsOf
  rw [nums_intItems] at hn
  have ht : s.heap.IsTuple a (intItems xs) := by rw [← e]; exact hl
  refine PySem.W.ktm_sumG (I.ok.hd hc) ht fun h' tk t' hk => ?_
  rw [preSum_eq, List.take_of_length_le (by simp), hn]
  exact ⟨.int _, H, I.kept hk, ⟨_, rfl⟩, q⟩
end
def vSumT : List D → (D → Prop) → Prop := fun ds q => match ds with
  | [.tuple es] => (intsOf es).elim False fun ns => q (.int ns.sum)
  | _ => False
theorem sc_sumT {K : PySem.W.Frag} : SoC 1 (rSumT K) vSumT := fun H vs T ds Q q r el hf w => by
  unfold vSumT at hf
  split at hf
  · obtain ⟨bs, e, hg⟩ := elimF hf
    obtain rfl := intsOf_eq e
    obtain ⟨v, T1, rfl, r1⟩ := r.c1
    cases r1 with
    | tup e rs =>
      rw [rs.intsInv.2] at e
      exact ⟨_, bs, rfl, SqT.of e, w _ _ (sca_int _) hg⟩
  · exact hf.elim
end G
/-! GAL: tuple(xs) of a list whose items go on. -/
namespace G
open PySem PySem.Spec PyProof.Rows L2
variable {C : Cn} {xc : XC C}
section
variable {C : Cn} {sl tm : List Sl} {n : Int} {Θ : List V} {σ : L2.St} {H : Hp} {ds : List D} {i : Nat}
/-- the items of a name freeze, the list itself stays -/
theorem Rel.shareS (h : Rel C ⟨sl, tm, n⟩ Θ σ H) (e : sl[i]? = some (.ow false (.list ds))) : ∃ Z S1 S2 a vs, RelX C Z S1 S2 ⟨sl, tm, n⟩ Θ σ H ∧ σ[i]? = some (some (.ref a)) ∧ H a = some (.lst vs) ∧ Trs H Z [] vs ds := by
  obtain ⟨Z, S1, S2, h⟩ := h
  obtain ⟨v, T, R, ev, en, pm, k⟩ := h.es.at e
  have ndS := pm.nodup_iff.mp (List.nodup_append.mp h.nd).1
  cases en with
  | @sp a vs _ T0 ha t =>
  let Z' : Reg := fun x => Z x ∨ x ∈ T0
  have t' : Trs H Z' [] vs ds := Trs.freeze (fun _ z => .inl z) _ _ _ t fun _ m => .inr m
  obtain ⟨S', es', pm'⟩ := k H Z' [a] (some (.ref a)) (.ow false (.list ds)) (fun _ _ h => h) (fun _ z => .inl z) (fun _ _ _ h => h) (fun _ _ _ h => h) (.sp ha t')
  have eσ : σ.set i (some (.ref a)) = σ := by
    refine List.ext_getElem? fun j => ?_
    by_cases hj : i = j
    · subst hj
      rw [List.getElem?_set_self (List.getElem?_eq_some_iff.mp ev).1, ev]
    · rw [List.getElem?_set_ne hj]
  have es2 : sl.set i (.ow false (.list ds)) = sl := by
    refine List.ext_getElem? fun j => ?_
    by_cases hj : i = j
    · subst hj
      rw [List.getElem?_set_self (List.getElem?_eq_some_iff.mp e).1, e]
    · rw [List.getElem?_set_ne hj]
  rw [eσ] at es'
  change Ents C Z' H S' σ (sl.set i (.ow false (.list ds))) at es'
  rw [es2] at es'
  have nda := List.nodup_append.mp ndS
  have sub : ∀ x ∈ S' ++ S2, x ∈ S1 ++ S2 ∧ x ∉ T0 := fun x m => by
    rcases List.mem_append.mp m with m | m
    · have mR := pm'.mem_iff.mp m
      rcases List.mem_append.mp mR with mR | mR
      · obtain rfl := List.mem_singleton.mp mR
        exact ⟨List.mem_append_left _ (pm.mem_iff.mpr (List.mem_append_left _ List.mem_cons_self)), fun mT => (List.nodup_cons.mp nda.1).1 mT⟩
      · exact ⟨List.mem_append_left _ (pm.mem_iff.mpr (List.mem_append_right _ mR)), fun mT => nda.2.2 x (List.mem_cons_of_mem _ mT) x mR rfl⟩
    · exact ⟨List.mem_append_right _ m, fun mT => (List.nodup_append.mp h.nd).2.2 x (pm.mem_iff.mpr (List.mem_append_left _ (List.mem_cons_of_mem _ mT))) x m rfl⟩
  refine ⟨Z', S', S2, a, vs, ⟨fun x o e m => ⟨(h.fr x o e m).1.imp .inl id, (h.fr x o e m).2⟩, es', h.et.mono (fun _ _ h => h) (fun _ z => .inl z) (fun _ _ _ h => h) (fun _ _ _ h => h), ?_, fun x m => ?_, fun p b q => ⟨(h.pu p b q).1, ?_, fun m => (h.pu p b q).2.2 (sub p m).1⟩, fun x z => ?_, fun x z => z.elim (h.dj x) fun m q => h.nz x (List.mem_append_left _ (pm.mem_iff.mpr (List.mem_append_left _ (List.mem_cons_of_mem _ m)))) (.inr q), fun j i' π v e' ev' => h.al j i' π v e' ev'⟩, ev, ha, t'⟩
  · have nd1 : (a :: R).Nodup := by
      refine List.nodup_cons.mpr ⟨fun m => nda.2.2 a List.mem_cons_self a m rfl, nda.2.1⟩
    refine List.nodup_append.mpr ⟨pm'.nodup_iff.mpr nd1, (List.nodup_append.mp h.nd).2.1, fun x m b m' eab => ?_⟩
    subst eab
    exact (List.nodup_append.mp h.nd).2.2 x (by
      rcases List.mem_append.mp (pm'.mem_iff.mp m) with mR | mR
      · obtain rfl := List.mem_singleton.mp mR
        exact pm.mem_iff.mpr (List.mem_append_left _ List.mem_cons_self)
      · exact pm.mem_iff.mpr (List.mem_append_right _ mR)) x m' rfl
  · rintro ((z | z) | z)
    · exact h.nz x (sub x m).1 (.inl z)
    · exact (sub x m).2 z
    · exact h.nz x (sub x m).1 (.inr z)
  · rintro ((z | z) | z)
    · exact (h.pu p b q).2.1 (.inl z)
    · exact (h.pu p b q).2.2 (List.mem_append_left _ (pm.mem_iff.mpr (List.mem_append_left _ (List.mem_cons_of_mem _ z))))
    · exact (h.pu p b q).2.1 (.inr z)
  · rcases z with (z | z) | z
    · exact h.ex x (.inl z)
    rotate_left
    · exact h.ex x (.inr z)
    · obtain ⟨xs, q⟩ := Trs.dom _ _ _ t x z
      exact ⟨_, q⟩
end
/-- tuple(xs) of a name whose list stays its own -/
def kTupV (i : Nat) : KE := fun γ q => match γ.sl[i]? with
  | some (.ow false (.list ds)) => q ⟨γ.sl, .fz (.tuple ds) :: γ.tm, γ.n⟩
  | _ => False
theorem so_tupV {K : PySem.W.Frag} {i : Nat} : SoE xc (tCB (fun xs H Q => ∃ p ys, xs = [.ref p] ∧ ((SqL K H p ys ∧ ∀ l, H l = none → Q (.ref l) (upd H l (.tup ys))) ∨ (SqT K H p ys ∧ Q (.ref p) H))) (tCons (tVar i) tNil)) (kTupV i) := fun γ Θ σ H Q q R hk w => by
  obtain ⟨sl, tm, j⟩ := γ
  unfold kTupV at hk
  dsimp only at hk
  split at hk
  · rename_i ds e
    obtain ⟨Z, S1, S2, a, us, X, ev, ha, ts⟩ := Rel.shareS R e
    exact ⟨.ref a, ev, a, us, rfl, .inl ⟨SqL.of ha, fun p hp => w _ _ _ hk (Rel.tupS X ts hp)⟩⟩
  · exact hk.elim
/-- a, b = x, y by a tuple that is taken apart at once -/
theorem so_asgPar {K : PySem.W.Frag} {i j : Nat} {ts : TA} {ka : KE} (hij : i ≠ j) (a : SoA xc 2 ts ka) : SoS xc (tAsg (tTup ts) (gTup K 2 (gCons (gName i) (gCons (gName j) gNil)))) (kPar i j ka) := fun γ Θ σ H De e R hk w => a γ Θ σ H _ _ R hk fun γ1 vs H1 el hk1 R1 => ⟨szle (by omega), fun p hp => by
  obtain ⟨sl, tm, n⟩ := γ1
  dsimp only at hk1
  match vs, el with
  | [v, u], _ =>
    split at hk1
    · rename_i s2 s1 tm
      obtain ⟨⟨q1, q2, q3, q4⟩, hq⟩ := hk1
      have R0 : Rel C ⟨sl, s2 :: s1 :: tm, n⟩ (u :: v :: Θ) σ H1 := R1
      have R2 := R0.same (same_upd (o := .tup [v, u]) hp)
      have na : noAl j (s1 :: tm) = true := by
        unfold noAl at q4 ⊢
        rw [List.all_cons, q4, Bool.and_true]
        cases s1 <;> first | rfl | cases q2
      have R3 := (R2.set (okS_ne q1) na).set (i := i) (okS_ne q2) q3
      rw [List.set_comm _ _ (Ne.symm hij), List.set_comm _ _ (Ne.symm hij)] at R3
      exact ⟨p, [v, u], rfl, SqT.of upd_same, rfl, v, [u], rfl, u, [], rfl, rfl, w.nx _ _ _ hq R3⟩
    · exact hk1.elim⟩
end G
/-! GAM: max of a list of ints. -/
namespace G
open PySem PySem.Spec PyProof.Rows L2
def vMaxL : List D → (D → Prop) → Prop := fun ds q => match ds with
  | [.list es] => (intsOf es).elim False fun ns => 0 < ns.length ∧ ∀ m, m ∈ ns → (∀ y, y ∈ ns → y ≤ m) → q (.int m)
  | _ => False
theorem sc_maxL {K : PySem.W.Frag} : SoC 1 (rMax K) vMaxL := fun H vs T ds Q q r el hf w => by
  unfold vMaxL at hf
  split at hf
  · obtain ⟨bs, e, hp, hg⟩ := elimF hf
    obtain rfl := intsOf_eq e
    obtain ⟨v, T1, rfl, r1⟩ := r.c1
    cases r1 with
    | lst e rs =>
      rw [rs.intsInv.2] at e
      exact ⟨_, bs, rfl, SqL.of e, hp, fun m h1 h2 => w _ _ (sca_int _) (hg m h1 h2)⟩
  · exact hf.elim
end G
/-! GAN: an item is taken out of an owned list, and put back. -/
namespace G
open PySem PySem.Spec PyProof.Rows L2
variable {C : Cn} {xc : XC C}
theorem Trs.fill {H : Hp} {Z : Reg} : ∀ {ds : List D} {S A : List Addr} {vs : List V} {i : Nat} {v : V} {d : D}, i < ds.length → vs.length = ds.length → Trs H Z S (vs.eraseIdx i) (ds.eraseIdx i) → Tr H Z A v d → ∃ S', Trs H Z S' (vs.set i v) (ds.set i d) ∧ S'.Perm (A ++ S)
  | [], _, _, _, _, _, _, h, _, _, _ => absurd h (by simp)
  | _ :: _, _, _, [], _, _, _, _, h, _, _ => absurd h (by simp)
  | e :: ds, S, A, w :: vs, 0, v, d, _, _, h, t => ⟨_, .cons t h, .refl _⟩
  | e :: ds, S, A, w :: vs, i + 1, v, d, hi, hl, h, t => by
    rw [List.eraseIdx_cons_succ, List.eraseIdx_cons_succ] at h
    cases h with
    | @cons S1 T _ _ _ _ h1 h2 =>
      obtain ⟨S', q, p⟩ := Trs.fill (i := i) (by simpa using hi) (by simpa using hl) h2 t
      exact ⟨_, .cons h1 q, (List.Perm.append_left _ p).trans (by
        rw [← List.append_assoc, ← List.append_assoc]
        exact List.Perm.append_right _ List.perm_append_comm)⟩
section
variable {C : Cn} {sl tm : List Sl} {n : Int} {Θ : List V} {σ : L2.St} {H : Hp} {ds : List D} {i r : Nat} {d : D} {s : Sl} {v : V}
theorem own_ent {Z : Reg} {T : List Addr} {y : V} (t : Tr H noReg T y d) : Ent C Z H T (some y) (own d) := by
  unfold own
  cases hn : nolist d with
  | true =>
    obtain ⟨rfl, t2⟩ := Tr.nolist (Z' := Z) _ _ _ t hn
    exact .fz t2
  | false => exact .ow t
theorem own_na {j : Nat} {π : List Nat} : own d ≠ .al j π := by
  unfold own
  cases nolist d <;> exact fun z => nomatch z
theorem Rel.takeI (R : Rel C ⟨sl, tm, n⟩ Θ σ H) (e : sl[r]? = some (.ow true (.list ds))) (na : noAl r tm = true) (ed : ds[i]? = some d) : ∃ a vs y, σ[r]? = some (some (.ref a)) ∧ H a = some (.lst vs) ∧ vs.length = ds.length ∧ vs[i]? = some y ∧ Rel C ⟨sl.set r (.ho ds i), own d :: tm, n⟩ (y :: Θ) σ H := by
  obtain ⟨w, ev, Z, S1, S2, h⟩ := R.mov e na
  obtain ⟨A, B, en, X, f⟩ := RelX.popF (ss := [.ow true (.list ds)]) (us := [w]) h rfl
  cases en with
  | cons e1 e2 =>
  cases e2
  cases e1 with
  | ow t =>
  cases t with
  | lstZ h0 _ _ => exact h0.elim
  | @lst a vs T1 _ ha ts =>
  obtain ⟨y, T2, R2, ey, ty, pm, ⟨R', t', pm'⟩, _⟩ := ts.at ed
  have el := ts.length
  have en2 : Ents C Z H ((a :: R') ++ (T2 ++ [])) [some (.ref a), some y] [.ho ds i, own d] := .cons (.ho ha el t') (.cons (own_ent ty) .nil)
  have f' : Fl C Z S1 B H ((a :: R') ++ (T2 ++ [])) := f.sub (A2 := []) (by
    refine List.perm_iff_count.mpr fun x => ?_
    have q1 := pm.count_eq x
    have q2 := pm'.count_eq x
    rw [List.count_append] at q1
    simp only [List.append_nil, List.cons_append, List.count_append, List.count_cons] at *
    omega)
  have R3 := X.pushEs (ss := [.ho ds i, own d]) (us := [.ref a, y]) f' en2 (fun s m j π => by
    rcases List.mem_cons.mp m with rfl | m
    · exact fun z => nomatch z
    · obtain rfl := List.mem_singleton.mp m
      exact own_na)
  have R4 : Rel C ⟨sl.set r .jk, .ho ds i :: own d :: tm, n⟩ (.ref a :: y :: Θ) σ H := ⟨_, _, _, R3⟩
  have na2 : noAl r (own d :: tm) = true := by
    unfold noAl at na ⊢
    rw [List.all_cons, na, Bool.and_true]
    unfold own
    cases nolist d <;> rfl
  have R5 := R4.set (i := r) (fun j π z => nomatch z) na2
  rw [List.set_set] at R5
  have eσ : σ.set r (some (.ref a)) = σ := by
    refine List.ext_getElem? fun j => ?_
    by_cases hj : r = j
    · subst hj
      rw [List.getElem?_set_self (List.getElem?_eq_some_iff.mp ev).1, ev]
    · rw [List.getElem?_set_ne hj]
  rw [eσ] at R5
  exact ⟨a, vs, y, ev, ha, el, ey, R5⟩
theorem Rel.movH (h : Rel C ⟨sl, tm, n⟩ Θ σ H) (e : sl[r]? = some (.ho ds i)) (na : noAl r tm = true) : ∃ w, σ[r]? = some (some w) ∧ Rel C ⟨sl.set r .jk, .ho ds i :: tm, n⟩ (w :: Θ) σ H := by
  obtain ⟨Z, S1, S2, h⟩ := h
  obtain ⟨v, T, R, ev, en, pm, k⟩ := h.es.at e
  obtain ⟨w, rfl⟩ : ∃ w, v = some w := by
    cases en
    exact ⟨_, rfl⟩
  obtain ⟨S', es', pm'⟩ := k H Z [] (some w) .jk (fun _ _ h => h) (fun _ z => z) (fun _ _ _ h => h) (fun _ _ _ h => h) (.jk _)
  have eσ : σ.set r (some w) = σ := by
    refine List.ext_getElem? fun j => ?_
    by_cases hj : r = j
    · subst hj
      rw [List.getElem?_set_self (List.getElem?_eq_some_iff.mp ev).1, ev]
    · rw [List.getElem?_set_ne hj]
  rw [eσ] at es'
  have pm2 : (S' ++ (T ++ S2)).Perm (S1 ++ S2) := by
    have : (S' ++ T).Perm S1 := (List.Perm.append_right T (by simpa using pm')).trans (List.perm_append_comm.trans pm.symm)
    rw [← List.append_assoc]
    exact List.Perm.append_right S2 this
  refine ⟨w, ev, Z, S', T ++ S2, h.fr, es', .cons en h.et, pm2.nodup_iff.mpr h.nd, fun a m => h.nz a (pm2.mem_iff.mp m), fun p b q => ⟨(h.pu p b q).1, (h.pu p b q).2.1, fun m => (h.pu p b q).2.2 (pm2.mem_iff.mp m)⟩, h.ex, h.dj, fun j i' π v e' ev' => ?_⟩
  cases j with
  | zero => simp at e'
  | succ j =>
    simp at e' ev'
    obtain ⟨s, d', e1, w', g1, g2, g3, g4, wk⟩ := h.al j i' π v e' ev'
    exact ⟨s, d', e1, w', (List.getElem?_set_ne (al_set na e')).trans g1, g2, g3, g4, wk⟩
theorem Rel.fillI {cd : D} (R : Rel C ⟨sl, s :: tm, n⟩ (v :: Θ) σ H) (e : sl[r]? = some (.ho ds i)) (na : noAl r (s :: tm) = true) (ec : con s = some (true, cd)) (hi : i < ds.length) : ∃ a vs, σ[r]? = some (some (.ref a)) ∧ H a = some (.lst vs) ∧ vs.length = ds.length ∧ Rel C ⟨sl.set r (.ow true (.list (ds.set i cd))), tm, n⟩ Θ σ (upd H a (.lst (vs.set i v))) := by
  obtain ⟨w, ev, Z, S1, S2, X0⟩ := R.movH e na
  obtain ⟨A, B, en, X1, f⟩ := RelX.popF (ss := [.ho ds i, s]) (us := [w, v]) X0 rfl
  clear X0
  cases en with
  | cons e1 e2 =>
  cases e2 with
  | @cons A1 _ _ _ _ _ e2 e3 =>
  cases e3
  cases e1 with
  | @ho a vs T _ _ ha el ts =>
  have ti := e2.con ec
  have cnt : ∀ x, List.count x A1 + (List.count x [a] + List.count x T) + (List.count x S1 + List.count x B) ≤ 1 := fun x => by
    have := nodup_cnt.mp f.nd x
    simp only [List.append_nil, List.cons_append, List.count_append, List.count_cons, List.count_nil] at this ⊢
    omega
  have cpos : ∀ {x : Addr} {l : List Addr}, x ∈ l → 0 < List.count x l := fun h => List.count_pos_iff.mpr h
  have ca : List.count a [a] = 1 := by simp
  have out : ∀ {x : Addr} {l : List Addr}, x ∈ l → (∀ y, List.count y l ≤ List.count y A1 + List.count y T + List.count y S1 + List.count y B) → x ≠ a := fun {x l} m h z => by
    subst z
    have := cpos m
    have := h x
    have := cnt x
    omega
  have aZ : ¬ C.tz Z a := (f.ok a (by simp)).1
  have nA : ∀ x ∈ A1, x ≠ a := fun x m => out m fun y => by omega
  have nT : ∀ x ∈ T, x ≠ a := fun x m => out m fun y => by omega
  have nS : ∀ x ∈ S1, x ≠ a := fun x m => out m fun y => by omega
  have nB : ∀ x ∈ B, x ≠ a := fun x m => out m fun y => by omega
  refine ⟨a, vs, ev, ha, el, ?_⟩
  have kt : ∀ t xs, H t = some (.tup xs) → upd H a (.lst (vs.set i v)) t = some (.tup xs) := fun t xs et => by
    rw [upd_ne (show t ≠ a from fun z => by rw [z, ha] at et; cases et)]
    exact et
  have kne : ∀ x, x ≠ a → ∀ o, H x = some o → upd H a (.lst (vs.set i v)) x = some o := fun x q o eo => by
    rw [upd_ne q]
    exact eo
  have kz0 : ∀ x, C.tz Z x → ∀ o, H x = some o → upd H a (.lst (vs.set i v)) x = some o := fun x z o eo => kne x (fun q => aZ (q ▸ z)) o eo
  have kz : ∀ x, Z x → ∀ o, H x = some o → upd H a (.lst (vs.set i v)) x = some o := fun x z => kz0 x (.inl z)
  have X2 : RelX C Z S1 B ⟨sl.set r .jk, tm, n⟩ Θ σ (upd H a (.lst (vs.set i v))) := by
    refine ⟨fun x o e m => ⟨(X1.fr x o e m).1, kz0 x (X1.fr x o e m).1 o (X1.fr x o e m).2⟩, X1.es.mono kt (fun _ z => z) kz fun x m => kne x (nS x m), X1.et.mono kt (fun _ z => z) kz fun x m => kne x (nB x m), X1.nd, X1.nz, fun q b e => ⟨(X1.pu q b e).1.mono fun o eo => kne q ?_ o eo, (X1.pu q b e).2⟩, fun x z => ?_, X1.dj, fun k i π w e ev => ?_⟩
    · exact fun z => (f.ok a (by simp)).2.1 q b e z.symm
    · obtain ⟨o, e⟩ := X1.ex x z
      exact ⟨o, kz0 x z o e⟩
    · obtain ⟨s, d', e', w', g1, g2, g3, g4, wk⟩ := X1.al k i π w e ev
      obtain ⟨w2, T', ew, t, sub⟩ := X1.slot g1 g2
      rw [g4] at ew
      cases ew
      exact ⟨s, d', e', w', g1, g2, g3, g4, (Tr.part t g3 wk).2 _ kt fun x z => z.elim (kz x) fun m => kne x (nS x (sub x m))⟩
  have ts1 : Trs (upd H a (.lst (vs.set i v))) noReg T (vs.eraseIdx i) (ds.eraseIdx i) := Trs.mono kt (fun _ z => z) (fun _ z => z.elim) _ _ _ ts fun x m => kne x (nT x m)
  have ti1 : Tr (upd H a (.lst (vs.set i v))) noReg A1 v cd := Tr.mono kt (fun _ z => z) (fun _ z => z.elim) _ _ _ ti fun x m => kne x (nA x m)
  obtain ⟨S', t2, p2⟩ := Trs.fill hi el ts1 ti1
  have f2 : Fl C Z S1 B (upd H a (.lst (vs.set i v))) (a :: S') := by
    refine ⟨nodup_cnt.mpr fun x => ?_, fun x m => ?_⟩
    · have q0 := cnt x
      have q1 := p2.count_eq x
      simp only [List.cons_append, List.count_append, List.count_cons, List.count_nil] at q0 q1 ⊢
      omega
    · have mA : x ∈ (a :: T) ++ (A1 ++ []) := by
        rcases List.mem_cons.mp m with rfl | m
        · simp
        · have := p2.mem_iff.mp m
          simp only [List.mem_append, List.mem_cons, List.append_nil] at this ⊢
          rcases this with h | h
          · exact .inr h
          · exact .inl (.inr h)
      obtain ⟨q1, q2, xs, eo⟩ := f.ok x mA
      refine ⟨q1, q2, ?_⟩
      by_cases hx : x = a
      · exact ⟨_, by rw [hx]; exact upd_same⟩
      · exact ⟨xs, kne x hx _ eo⟩
  have en' : Ent C Z (upd H a (.lst (vs.set i v))) (a :: S') (some (.ref a)) (.ow true (.list (ds.set i cd))) := .ow (.lst upd_same t2)
  have R4 : Rel C ⟨sl.set r .jk, .ow true (.list (ds.set i cd)) :: tm, n⟩ (.ref a :: Θ) σ (upd H a (.lst (vs.set i v))) := ⟨_, _, _, X2.pushF f2 (Dr := []) (by simp) en' (fun i π z => nomatch z)⟩
  have na2 : noAl r tm = true := by
    unfold noAl at na ⊢
    rw [List.all_cons, Bool.and_eq_true] at na
    exact na.2
  have R5 := R4.set (i := r) (fun j π z => nomatch z) na2
  rw [List.set_set] at R5
  have eσ : σ.set r (some (.ref a)) = σ := by
    refine List.ext_getElem? fun j => ?_
    by_cases hj : r = j
    · subst hj
      rw [List.getElem?_set_self (List.getElem?_eq_some_iff.mp ev).1, ev]
    · rw [List.getElem?_set_ne hj]
  rw [eσ] at R5
  exact R5
end
section
variable {K : PySem.W.Frag}
/-- xs[k] of names: the item goes out of the list -/
def kIxTake (r k : Nat) : KE := fun γ q => match γ.sl[r]?, γ.sl[k]? with
  | some (.ow true (.list ds)), some (.fz (.int i)) => (noAl r γ.tm = true ∧ 0 ≤ i ∧ i < ds.length) ∧ (ds[i.toNat]?).elim False fun d => q ⟨γ.sl.set r (.ho ds i.toNat), own d :: γ.tm, γ.n⟩
  | _, _ => False
theorem so_ixTake {r k : Nat} : SoE xc (tOp (rIxL K) (tVar r) (tVar k)) (kIxTake r k) := fun γ Θ σ H Q q R hk w => by
  obtain ⟨sl, tm, n⟩ := γ
  unfold kIxTake at hk
  dsimp only at hk
  split at hk
  · rename_i ds i e1 e2
    obtain ⟨⟨na, i0, i1⟩, hk⟩ := hk
    obtain ⟨d, ed, hq⟩ := elimF hk
    obtain ⟨u, eu, Ru⟩ := R.varF e2
    obtain ⟨_, ru, _⟩ := Ru.read (d := .int i) rfl
    cases ru
    obtain ⟨a, vs, y, ev, ha, el, ey, R2⟩ := R.takeI e1 na ed
    refine ⟨.ref a, ev, .int i, eu, a, vs, i, y, rfl, rfl, SqL.of ha, ?_, w _ _ _ hq R2⟩
    unfold atI ixN
    rw [if_pos i0, if_pos (by omega)]
    exact ey
  · exact hk.elim
/-- xs[k] = e of names: the place that was left is filled -/
def kgFill (r k : Nat) : KG := fun γ q => match γ.tm, γ.sl[r]?, γ.sl[k]? with
  | s :: tm, some (.ho ds i), some (.fz (.int j)) => (con s).elim False fun c => (c.1 = true ∧ noAl r (s :: tm) = true ∧ j = (i : Int) ∧ i < ds.length) ∧ q ⟨γ.sl.set r (.ow true (.list (ds.set i c.2))), tm, γ.n⟩
  | _, _, _ => False
theorem so_gfill {r k : Nat} : SoG xc (gSub (tVar r) (tVar k) rSetL) (kgFill r k) := fun γ v Θ σ H Q q R hk w => by
  obtain ⟨sl, tm, n⟩ := γ
  unfold kgFill at hk
  dsimp only at hk
  split at hk
  · rename_i s tm ds i j e1 e2
    obtain ⟨⟨cb, cd⟩, ec, ⟨hb, na, hj, hi⟩, hq⟩ := elimF hk
    dsimp only at hb
    subst hb
    obtain ⟨u, eu, Ru⟩ := R.varF e2
    obtain ⟨_, ru, _⟩ := Ru.read (d := .int j) rfl
    cases ru
    obtain ⟨a, vs, ev, ha, el, R2⟩ := R.fillI e1 na ec hi
    refine ⟨.ref a, ev, .int j, eu, a, vs, j, i, rfl, rfl, ha, ?_, w _ _ _ hq R2⟩
    unfold ixN
    rw [if_pos (by omega), if_pos (by omega)]
    congr 1
    omega
  · exact hk.elim
/-- list(t) of a whole tuple that is given away -/
def kListMv (ka : KE) : KE := fun γ q => ka γ fun γ1 => match γ1.tm with
  | .ow true (.tuple ds) :: tm => q ⟨γ1.sl, .ow true (.list ds) :: tm, γ1.n⟩
  | _ => False
theorem Rel.lstMv {ds : List D} {C : Cn} {sl tm : List Sl} {n : Int} {v : V} {Θ : List V} {σ : L2.St} {H : Hp} (R : Rel C ⟨sl, .ow true (.tuple ds) :: tm, n⟩ (v :: Θ) σ H) : ∃ a vs, v = .ref a ∧ H a = some (.tup vs) ∧ ∀ p, H p = none → Rel C ⟨sl, .ow true (.list ds) :: tm, n⟩ (.ref p :: Θ) σ (upd H p (.lst vs)) := by
  obtain ⟨Z, S1, S2, X⟩ := R
  obtain ⟨A, B, es, h, f⟩ := RelX.popF (ss := [.ow true (.tuple ds)]) (us := [v]) X rfl
  clear X
  cases es with
  | @cons A1 _ _ _ _ _ e1 e2 =>
  cases e2
  cases e1 with
  | ow t =>
  cases t with
  | @tup a vs _ _ ha ts =>
  refine ⟨a, vs, rfl, ha, fun p hp => ?_⟩
  have sm := same_upd (o := .lst vs) hp
  have h1 : RelX C Z S1 B ⟨sl, tm, n⟩ Θ σ (upd H p (.lst vs)) := by
    refine ⟨fun a o e m => ⟨(h.fr a o e m).1, sm a o (h.fr a o e m).2⟩, h.es.mono (fun t vs e => sm t _ e) (fun _ z => z) (fun a _ o e => sm a o e) (fun a _ o e => sm a o e), h.et.mono (fun t vs e => sm t _ e) (fun _ z => z) (fun a _ o e => sm a o e) (fun a _ o e => sm a o e), h.nd, h.nz, fun q b e => ⟨(h.pu q b e).1.mono (sm q), (h.pu q b e).2⟩, fun a z => ?_, h.dj, fun k j π u e ev => ?_⟩
    · obtain ⟨o, e⟩ := h.ex a z
      exact ⟨o, sm a o e⟩
    · obtain ⟨s, d', e', w, g1, g2, g3, g4, wk⟩ := h.al k j π u e ev
      obtain ⟨w', T', ew, t, sub⟩ := h.slot g1 g2
      rw [g4] at ew
      cases ew
      exact ⟨s, d', e', w, g1, g2, g3, g4, (Tr.part t g3 wk).2 _ (fun t vs e => sm t _ e) fun a _ o e => sm a o e⟩
  have f2 : Fl C Z S1 B (upd H p (.lst vs)) (p :: (A1 ++ [])) := by
    refine ⟨?_, fun x m => ?_⟩
    · refine List.nodup_cons.mpr ⟨fun m => ?_, f.nd⟩
      rcases List.mem_append.mp m with m | m
      · obtain ⟨_, _, o, q⟩ := f.ok p m
        rw [hp] at q
        cases q
      rcases List.mem_append.mp m with m | m
      · obtain ⟨ys, q⟩ := h.es.dom p m
        rw [hp] at q
        cases q
      · obtain ⟨ys, q⟩ := h.et.dom p m
        rw [hp] at q
        cases q
    · rcases List.mem_cons.mp m with rfl | m
      · refine ⟨fun z => ?_, fun q b e z => ?_, _, upd_same⟩
        · obtain ⟨o, q⟩ := h.ex x z
          rw [hp] at q
          cases q
        · subst z
          obtain ⟨_, _, _, e2, _⟩ := (h.pu x b e).1
          rw [hp] at e2
          cases e2
      · obtain ⟨q1, q2, o, eo⟩ := f.ok x m
        exact ⟨q1, q2, o, sm x o eo⟩
  have ts' : Trs (upd H p (.lst vs)) noReg A1 vs ds := Trs.mono (fun t vs e => sm t _ e) (fun _ z => z) (fun _ z => z.elim) _ _ _ ts fun a _ o e => sm a o e
  exact ⟨_, _, _, h1.pushF f2 (A' := p :: A1) (Dr := []) (by simp) (.ow (.lst upd_same ts')) (fun i π z => nomatch z)⟩
theorem so_listMv {ts : TA} {ka : KE} (h : SoA xc 1 ts ka) : SoE xc (tCB (fun xs H Q => ∃ p ys, xs = [.ref p] ∧ (SqL K H p ys ∨ SqT K H p ys) ∧ ∀ l, H l = none → Q (.ref l) (upd H l (.lst ys))) ts) (kListMv ka) := fun γ Θ σ H Q q R hk w => h γ Θ σ H _ _ R hk fun γ1 vs H1 el hk1 R1 => by
  match vs, el, R1 with
  | [v], _, R1 =>
    obtain ⟨sl, tm, j⟩ := γ1
    dsimp only at hk1
    split at hk1
    · rename_i ds tm
      obtain ⟨a, us, rfl, ha, k⟩ := Rel.lstMv R1
      exact ⟨a, us, rfl, .inr (SqT.of ha), fun p hp => w _ _ _ hk1 (k p hp)⟩
    · exact hk1.elim
end
end G
/-! GAO: results that share lists, among themselves or with what was passed. -/
namespace G
open PySem PySem.Spec PyProof.Rows L2
/-- a tree whose lists are new or of these -/
def ShN (S : List Addr) (H H' : Hp) (v : V) (d : D) : Prop := ∃ L, Rep H' L v d ∧ ∀ a ∈ L, a ∈ S ∨ H a = none
/-- a def that changes nothing; its result may share -/
def spS (W : Tw) : Sp := fun vs H Q _ => ∃ S ds G, Reps H S vs ds ∧ W ds G ∧ ∀ d v H', G d → Same H H' → ShN S H H' v d → Q v H'
def spPS (c : Int) (W : Tw) : Sp := fun vs H Q _ => ∃ p b vs' S ds G, vs = .ref p :: vs' ∧ PuAt H p b ∧ b + c ≤ 2 ^ 100 ∧ Reps H S vs' ds ∧ p ∉ S ∧ W ds G ∧ ∀ d v H', G d → (∀ a o, H a = some o → a ≠ p → H' a = some o) → PuAt H' p (b + c) → ShN S H H' v d → Q v H'
section
variable {C : Cn} {Z : Reg} {S1 S2 A : List Addr} {γ : VSt} {Θ : List V} {σ : L2.St} {H H' : Hp} {sl tm : List Sl} {n n' : Int} {v : V} {s : Sl} {d : D} {i : Nat}
/-- the region grows by cells that lie nowhere -/
theorem RelX.growN (h : RelX C Z S1 S2 γ Θ σ H) (N : Reg) (f : ∀ a, N a → Z a ∨ (a ∉ S1 ++ S2 ∧ ¬ C.tz Z a ∧ ∀ p b, C.pu = some (p, b) → a ≠ p)) (ex : ∀ a, N a → ∃ o, H a = some o) : RelX C (fun a => Z a ∨ N a) S1 S2 γ Θ σ H := by
  refine ⟨fun a o e m => ⟨(h.fr a o e m).1.imp .inl id, (h.fr a o e m).2⟩, h.es.mono (fun _ _ h => h) (fun _ z => .inl z) (fun _ _ _ h => h) (fun _ _ _ h => h), h.et.mono (fun _ _ h => h) (fun _ z => .inl z) (fun _ _ _ h => h) (fun _ _ _ h => h), h.nd, fun a m => ?_, fun p b q => ⟨(h.pu p b q).1, ?_, (h.pu p b q).2.2⟩, fun a z => ?_, fun a z => z.elim (h.dj a) fun m => ?_, h.al⟩
  · rintro ((z | z) | z)
    · exact h.nz a m (.inl z)
    · rcases f a z with z | z
      · exact h.nz a m (.inl z)
      · exact z.1 m
    · exact h.nz a m (.inr z)
  · rintro ((z | z) | z)
    · exact (h.pu p b q).2.1 (.inl z)
    · rcases f p z with z | z
      · exact (h.pu p b q).2.1 (.inl z)
      · exact z.2.2 p b q rfl
    · exact (h.pu p b q).2.1 (.inr z)
  · rcases z with (z | z) | z
    · exact h.ex a (.inl z)
    · exact ex a z
    · exact h.ex a (.inr z)
  · rcases f a m with z | z
    · exact h.dj a z
    · exact fun q => z.2.1 (.inr q)
/-- a tree of frozen and of new cells on the stack -/
theorem RelX.pushS {L : List Addr} (h : RelX C Z S1 S2 ⟨sl, tm, n⟩ Θ σ H) (r : Rep H L v d) (f : ∀ a ∈ L, Z a ∨ (a ∉ S1 ++ S2 ∧ ¬ C.tz Z a ∧ ∀ p b, C.pu = some (p, b) → a ≠ p)) : Rel C ⟨sl, .fz d :: tm, n⟩ (v :: Θ) σ H := by
  have t : Tr H noReg L v d := Rep.tr _ _ _ r
  have g := h.growN (fun a => a ∈ L) f fun a m => by
    obtain ⟨xs, e⟩ := Tr.dom _ _ _ t a m
    exact ⟨_, e⟩
  exact ⟨_, S1, _, g.pushE (Z' := Z) (.fz (Tr.freeze (Z' := fun a => Z a ∨ a ∈ L) (fun _ z => z.elim) _ _ _ t fun a m => .inr m)) List.nodup_nil (fun a m => nomatch m) (fun i π z => nomatch z)⟩
/-- a temp that may be frozen -/
def fzD : Sl → Option D
  | .fz d => some d
  | .ow _ d => some d
  | _ => none
def fzA : Nat → List Sl → Option (List D × List Sl)
  | 0, tm => some ([], tm)
  | _ + 1, [] => none
  | n + 1, s :: tm => (fzD s).bind fun d => (fzA n tm).bind fun x => some (x.1 ++ [d], x.2)
theorem RelX.popZ (h : RelX C Z S1 S2 ⟨sl, s :: tm, n⟩ (v :: Θ) σ H) (e : fzD s = some d) : ∃ Z' B, (∀ a, Z a → Z' a) ∧ RelX C Z' S1 B ⟨sl, tm, n⟩ Θ σ H ∧ ∃ T, Rep H T v d ∧ ∀ a ∈ T, Z' a := by
  obtain ⟨A, B, en, X, f⟩ := RelX.popF (ss := [s]) (us := [v]) h rfl
  obtain ⟨A', e1, rfl⟩ : ∃ A', Ent C Z H A' (some v) s ∧ A = A' := by
    cases en with
    | cons e1 e2 =>
      cases e2
      exact ⟨_, e1, by simp⟩
  have t : Tr H Z A v d := by
    cases e1 with
    | fz t => cases e; exact t
    | ow t => cases e; exact t.weak fun _ z => z.elim
    | sp q t => cases e; exact .lst q t
    | _ => cases e
  obtain ⟨T, r, sub⟩ := Tr.rep _ _ _ t
  exact ⟨_, B, fun _ z => .inl z, X.growF f, T, r, fun a m => (sub a m).symm⟩
theorem RelX.popsZ : ∀ {k : Nat} {tm r : List Sl} {S2 : List Addr} {Z : Reg} {ds : List D} {vs Θ : List V}, RelX C Z S1 S2 ⟨sl, tm, n⟩ (vs.reverse ++ Θ) σ H → vs.length = k → fzA k tm = some (ds, r) →
    ∃ Z' B, (∀ a, Z a → Z' a) ∧ RelX C Z' S1 B ⟨sl, r, n⟩ Θ σ H ∧ ∃ T, Reps H T vs ds ∧ ∀ a ∈ T, Z' a
  | 0, tm, r, S2, Z, ds, vs, Θ, R, el, e => by
    simp only [fzA, Option.some.injEq, Prod.mk.injEq] at e
    obtain ⟨rfl, rfl⟩ := e
    match vs, el with
    | [], _ => exact ⟨Z, S2, fun _ z => z, R, [], .nil, fun _ z => nomatch z⟩
  | k + 1, [], _, _, _, _, _, _, _, _, e => by cases e
  | k + 1, s :: tm, r, S2, Z, ds, vs, Θ, R, el, e => by
    simp only [fzA] at e
    cases e1 : fzD s with
    | none => rw [e1] at e; cases e
    | some d =>
      cases e2 : fzA k tm with
      | none => rw [e1, e2] at e; cases e
      | some x =>
        rw [e1, e2] at e
        simp only [Option.bind_some, Option.some.injEq, Prod.mk.injEq] at e
        obtain ⟨rfl, rfl⟩ := e
        have hne : vs ≠ [] := fun z => by rw [z] at el; cases el
        obtain ⟨us, v, rfl⟩ : ∃ us v, vs = us ++ [v] := ⟨_, _, (List.dropLast_concat_getLast hne).symm⟩
        rw [List.reverse_append] at R
        have R' : RelX C Z S1 S2 ⟨sl, s :: tm, n⟩ (v :: (us.reverse ++ Θ)) σ H := R
        obtain ⟨Z1, B1, z1, X1, T1, r1, t1⟩ := R'.popZ e1
        obtain ⟨Z2, B2, z2, X2, T2, r2, t2⟩ := RelX.popsZ (k := k) (ds := x.1) (r := x.2) (vs := us) X1 (by simpa using el) e2
        refine ⟨Z2, B2, fun a z => z2 a (z1 a z), X2, T2 ++ (T1 ++ []), r2.append (.cons r1 .nil), fun a m => ?_⟩
        rcases List.mem_append.mp m with m | m
        · exact t2 a m
        · exact z2 a (t1 a (by simpa using m))
theorem Reps.pickZ {T : List Addr} {vs : List V} {ds : List D} (r : Reps H T vs ds) (h : ∀ a ∈ T, Z a) (ix : List Nat) : ∃ T', Reps H T' (ix.filterMap fun i => vs[i]?) (ix.filterMap fun i => ds[i]?) ∧ ∀ a ∈ T', Z a := by
  obtain ⟨T', q, sub⟩ := Reps.pickI r ix
  exact ⟨T', q, fun a m => h a (sub a m)⟩
end
/-! ### calls -/
section
variable {C : Cn} {xc : XC C} {k n : Nat} {ka kb : KE}
def kCallS (W : Tw) (n : Nat) (ka : KE) : KE := fun γ q => ka γ fun γ1 => (fzA n γ1.tm).elim False fun x => W x.1 fun d => q ⟨γ1.sl, .fz d :: x.2, γ1.n⟩
theorem so_callS {W : Tw} {ts : TA} (h : SoA xc n ts ka) : SoE xc (tCall (spS W) [] E0 ts) (kCallS W n ka) := fun γ Θ σ H Q q R hk w => h γ Θ σ H _ _ R hk fun γ1 vs H1 el hk1 R1 => by
  obtain ⟨⟨ds, rr⟩, e, hf⟩ := elimF hk1
  obtain ⟨Z, S1, S2, X⟩ := R1
  obtain ⟨Z', B, _, X2, T, rp, tz⟩ := X.popsZ el e
  rw [List.append_nil]
  refine ⟨T, ds, _, rp, hf, fun d v H' hq sm sh => w _ v H' hq ?_⟩
  obtain ⟨L, r, fl⟩ := sh
  refine (X2.sameX sm).pushS r fun a m => ?_
  rcases fl a m with z | z
  · exact .inl (tz a z)
  · exact .inr (X2.fresh z)
def kCallSK (W : Tw) (ix : List Nat) (n : Nat) (ka : KE) : KE := fun γ q => ka γ fun γ1 => (fzA n γ1.tm).elim False fun x => W (ix.filterMap fun i => x.1[i]?) fun d => q ⟨γ1.sl, .fz d :: x.2, γ1.n⟩
theorem so_callSK {W : Tw} {ix : List Nat} {ts : TA} (h : SoA xc n ts ka) : SoE xc (tCallK (spS W) (gKwV ix) E0 tNil ts) (kCallSK W ix n ka) := fun γ Θ σ H Q q R hk w => h γ Θ σ H _ _ R hk fun γ1 vs H1 el hk1 R1 => by
  obtain ⟨⟨ds, rr⟩, e, hf⟩ := elimF hk1
  obtain ⟨Z, S1, S2, X⟩ := R1
  obtain ⟨Z', B, _, X2, T0, rp0, tz0⟩ := X.popsZ el e
  obtain ⟨T, rp, tz⟩ := rp0.pickZ tz0 ix
  refine ⟨T, _, _, rp, hf, fun d v H' hq sm sh => w _ v H' hq ?_⟩
  obtain ⟨L, r, fl⟩ := sh
  refine (X2.sameX sm).pushS r fun a m => ?_
  rcases fl a m with z | z
  · exact .inl (tz a z)
  · exact .inr (X2.fresh z)
def kCallPS (c : Int) (W : Tw) (n : Nat) (ka : KE) : KE := fun γ q => ka γ fun γ1 => (fzA n γ1.tm).elim False fun x => match x.2 with
  | .pu :: r => (0 ≤ c ∧ c ≤ γ1.n) ∧ W x.1 fun d => q ⟨γ1.sl, .fz d :: r, γ1.n - c⟩
  | _ => False
theorem so_callPS {c : Int} {W : Tw} {ts : TA} (h : SoA xc (n + 1) ts ka) : SoE xc (tCall (spPS c W) [] E0 ts) (kCallPS c W n ka) := fun γ Θ σ H Q q R hk w => h γ Θ σ H _ _ R hk fun γ1 vs H1 el hk1 R1 => by
  obtain ⟨⟨ds, rr⟩, e, hf⟩ := elimF hk1
  match vs, el with
  | v :: vs, el =>
    rw [List.reverse_cons, List.append_assoc] at R1
    obtain ⟨Z, S1, S2, X⟩ := R1
    obtain ⟨Z', B, _, X2, T, rp, tz⟩ := X.popsZ (Θ := [v] ++ Θ) (by simpa using el) e
    dsimp only at hf
    split at hf
    · rename_i r
      obtain ⟨⟨c0, c1⟩, hw⟩ := hf
      have X3 : RelX C Z' S1 B ⟨γ1.sl, .pu :: r, γ1.n⟩ (v :: Θ) σ H1 := X2
      obtain ⟨A, B2, es, X4, f⟩ := RelX.popF (ss := [.pu]) (us := [v]) X3 rfl
      have pv : ∃ p b, C.pu = some (p, b) ∧ v = .ref p := by
        cases es with
        | cons e1 e2 =>
          cases e1 with
          | pu q => exact ⟨_, _, q, rfl⟩
      obtain ⟨p, b, epu, rfl⟩ := pv
      have bok := C.ok p b epu
      rw [List.append_nil]
      refine ⟨p, b - γ1.n, vs, T, ds, _, rfl, (X4.pu p b epu).1, by omega, rp, fun m => (X4.pu p b epu).2.1 (.inl (tz p m)), hw, fun d v' H' hq sm pu' sh => w _ v' H' hq ?_⟩
      obtain ⟨L, r', fl⟩ := sh
      have X5 := X4.heapX (H' := H') (n' := γ1.n - c) (fun a o e ne => sm a o e (ne p b epu)) (fun q b' eq => by
        rw [epu] at eq
        cases eq
        have : b - (γ1.n - c) = b - γ1.n + c := by omega
        rw [this]
        exact pu')
      refine X5.pushS r' fun a m => ?_
      rcases fl a m with z | z
      · exact .inl (tz a z)
      · exact .inr (X4.fresh z)
    · exact hf.elim
def kFrzT (k : KE) : KE := fun γ q => k γ fun γ1 => match γ1.tm with
  | s :: tm => (fzD s).elim False fun d => q ⟨γ1.sl, .fz d :: tm, γ1.n⟩
  | [] => False
end
/-! ### the def itself -/
/-- the end of a def whose result may share -/
def rtS (G : D → Prop) : Sl → Prop
  | .fz d => G d
  | .ow _ d => G d
  | _ => False
def edS (G : D → Prop) : KEd := ⟨fun _ => G .none, fun s _ => rtS G s, fun _ => False, fun _ => False⟩
def edPS (G : D → Prop) : KEd := ⟨fun γ => 0 ≤ γ.n ∧ G .none, fun s γ => 0 ≤ γ.n ∧ rtS G s, fun _ => False, fun _ => False⟩
abbrev cnS (H : Hp) (S : List Addr) (pu : Option (Addr × Int)) (ok : ∀ p b, pu = some (p, b) → b ≤ 2 ^ 100) : Cn := ⟨H, fun a => ∃ b, pu = some (a, b), pu, ok, none, fun a => (∃ o, H a = some o) ∧ a ∉ S ∧ ∀ p b, pu = some (p, b) → a ≠ p⟩
theorem Rel.startS {H : Hp} {S : List Addr} {vs : List V} {ds : List D} {N : List Str} (r : Reps H S vs ds) (pu : Option (Addr × Int)) (ok : ∀ p b, pu = some (p, b) → b ≤ 2 ^ 100) (n : Int) (hpu : ∀ p b, pu = some (p, b) → PuAt H p (b - n) ∧ p ∉ S) (us : List V) (ss : List Sl)
    (hu : (us = [] ∧ ss = []) ∨ ∃ p b, pu = some (p, b) ∧ us = [.ref p] ∧ ss = [.pu]) (hN : (us ++ vs).length ≤ N.length) :
    Rel (cnS H S pu ok) ⟨ss ++ ds.map Sl.fz ++ List.replicate (N.length - (us ++ vs).length) .jk, [], n⟩ [] (L2.start N (us ++ vs)) H := by
  have jks : ∀ (k : Nat) {C : Cn} {Z : Reg}, Ents C Z H [] (List.replicate k none) (List.replicate k .jk) := fun k => by
    induction k with
    | zero => exact .nil
    | succ k ih => exact .cons (S := []) (.jk _) ih
  have tr := Reps.tr (Z := noReg) _ _ _ r
  have dom : ∀ a ∈ S, ∃ o, H a = some o := fun a m => by
    obtain ⟨xs, e⟩ := Reps.dom _ _ _ r a m
    exact ⟨_, e⟩
  refine ⟨fun a => a ∈ S, [], [], ⟨fun a o e m => ⟨?_, e⟩, ?_, .nil, List.nodup_nil, fun a m => (nomatch m), fun p b q => ⟨(hpu p b q).1, fun z => z.elim (hpu p b q).2 fun z => z.2.2 p b q rfl, fun m => (nomatch m)⟩, fun a z => z.elim (dom a) fun z => z.1, fun a z q => q.2.1 z, fun k i π v e => by simp at e⟩⟩
  · by_cases hm : a ∈ S
    · exact .inl hm
    · exact .inr ⟨⟨o, e⟩, hm, fun p b q z => m ⟨b, z ▸ q⟩⟩
  have fz := Trs.fzs (C := cnS H S pu ok) (Z := fun a => a ∈ S) (Trs.freeze (Z' := fun a => a ∈ S) (fun _ z => z.elim) _ _ _ tr fun a m => m) rfl
  show Ents _ _ H [] (L2.start N (us ++ vs)) (ss ++ ds.map Sl.fz ++ List.replicate (N.length - (us ++ vs).length) .jk)
  unfold L2.start
  rw [List.map_append]
  have mid := Ents.append fz (jks (N.length - (us ++ vs).length))
  rcases hu with ⟨rfl, rfl⟩ | ⟨p, b, q, rfl, rfl⟩
  · simpa using mid
  · exact .cons (S := []) (.pu q) mid
theorem Rel.outS {H0 : Hp} {S : List Addr} {pu : Option (Addr × Int)} {ok : ∀ p b, pu = some (p, b) → b ≤ 2 ^ 100} {sl tm : List Sl} {s : Sl} {n : Int} {v : V} {Θ : List V} {σ : L2.St} {H : Hp} {G : D → Prop} (R : Rel (cnS H0 S pu ok) ⟨sl, s :: tm, n⟩ (v :: Θ) σ H) (h : rtS G s) : ∃ d, G d ∧ ShN S H0 H v d := by
  obtain ⟨Z, S1, S2, X⟩ := R
  have go : ∀ d, fzD s = some d → G d → ∃ d, G d ∧ ShN S H0 H v d := fun d e g => by
    obtain ⟨Z', B, _, X', T, r, tz⟩ := X.popZ e
    refine ⟨d, g, T, r, fun a m => ?_⟩
    by_cases hs : a ∈ S
    · exact .inl hs
    · right
      cases q : H0 a with
      | none => rfl
      | some o =>
        exfalso
        refine X'.dj a (tz a m) ⟨⟨o, q⟩, hs, fun p b e z => (X'.pu p b e).2.1 (.inl (z ▸ tz a m))⟩
  cases s with
  | fz d => exact go d rfl h
  | ow b d => exact go d rfl h
  | _ => exact h.elim
section
variable {K : PySem.W.Frag} {P : Program} {w : World} {mg : Str → Option Value} {base : Heap} {kl : Nat} {f : Addr} {fd : FuncData} {ps : List Str}
theorem okSh {x qual : Str} {st : Stmt} {N : List Str} {W : Tw} {kb : KS} (F : Fun K x qual st f fd) (S : FnScope N ps (defScope st)) (hN : ps.length ≤ N.length) (har : ∀ ds G, W ds G → ds.length = ps.length)
    (hb : ∀ (cdv : Value) (A : Around) (outer : List Env) (s : Shared) (H : Hp) (E : XK), Bare (A.deeper (envOfC qual (defScope st) s.heap.objs.size f cdv)) → Room kl (A.deeper (envOfC qual (defScope st) s.heap.objs.size f cdv)) → ∃ t, PSs (cxOf CX0 P w K mg base N qual (defScope st) f cdv A outer s H E).nox (defBody st) t ∧ ∀ (C : Cn) (xc : XC C), SoS xc t kb)
    (val : ∀ ds G, W ds G → kb ⟨ds.map Sl.fz ++ List.replicate (N.length - ps.length) .jk, [], 0⟩ (edS G)) : FnG P w K mg base CX0 (kl + 1) f fd ps (spS W) := by
  refine okG F S (fun vs H Q E h => ?_) (fun cdv A outer s H vs Q E hg hr h => ?_)
  · obtain ⟨S, ds, Gq, r, hw, _⟩ := h
    rw [r.length]
    exact har _ _ hw
  · obtain ⟨t, hp, so⟩ := hb cdv A outer s H E hg hr
    obtain ⟨S, ds, Gq, r, hw, hk⟩ := h
    have el := r.length
    have ea := har _ _ hw
    have sm : ∀ {Z S1 S2 γ Θ σ H'}, RelX (cnS H S none fun _ _ z => (nomatch z)) Z S1 S2 γ Θ σ H' → Same H H' := fun X a o e => (X.fr a o e (fun ⟨b, z⟩ => nomatch z)).2
    refine ⟨t, hp, so (cnS H S none fun _ _ z => (nomatch z)) (noXC _) _ [] _ H _ (edS Gq) (by simpa using Rel.startS (N := N) r none (fun _ _ z => nomatch z) 0 (fun _ _ z => nomatch z) [] [] (.inl ⟨rfl, rfl⟩) (by simp; omega)) (by rw [el, ea]; exact val ds Gq hw) ⟨fun γ' σ' H' hn R => ?_, fun s γ' v Θ' σ' H' hr R => ?_, fun _ _ _ z _ => z.elim, fun _ _ _ z _ => z.elim⟩⟩
    · obtain ⟨Z, S1, S2, X⟩ := R
      exact hk _ _ _ hn (sm X) ⟨[], .non, fun a m => nomatch m⟩
    · obtain ⟨d, hG, nw⟩ := R.outS hr
      obtain ⟨Z, S1, S2, X⟩ := R
      exact hk _ _ _ hG (sm X) nw
theorem okPSh {x qual : Str} {st : Stmt} {N : List Str} {W : Tw} {kb : KS} {c : Int} (F : Fun K x qual st f fd) (S : FnScope N ps (defScope st)) (hN : ps.length ≤ N.length) (har : ∀ ds G, W ds G → ds.length + 1 = ps.length) (hc : 0 ≤ c)
    (hb : ∀ (cdv : Value) (A : Around) (outer : List Env) (s : Shared) (H : Hp) (E : XK), Bare (A.deeper (envOfC qual (defScope st) s.heap.objs.size f cdv)) → Room kl (A.deeper (envOfC qual (defScope st) s.heap.objs.size f cdv)) → ∃ t, PSs (cxOf CX0 P w K mg base N qual (defScope st) f cdv A outer s H E).nox (defBody st) t ∧ ∀ (C : Cn) (xc : XC C), SoS xc t kb)
    (val : ∀ ds G, W ds G → kb ⟨.pu :: (ds.map Sl.fz ++ List.replicate (N.length - ps.length) .jk), [], c⟩ (edPS G)) : FnG P w K mg base CX0 (kl + 1) f fd ps (spPS c W) := by
  refine okG F S (fun vs H Q E h => ?_) (fun cdv A outer s H vs Q E hg hr h => ?_)
  · obtain ⟨p, b, vs', S, ds, Gq, rfl, _, _, r, _, hw, _⟩ := h
    rw [List.length_cons, r.length]
    exact har _ _ hw
  · obtain ⟨t, hp, so⟩ := hb cdv A outer s H E hg hr
    obtain ⟨p, b, vs', S, ds, Gq, rfl, hpu, hb, r, np, hw, hk⟩ := h
    have el := r.length
    have ea := har _ _ hw
    have ok : ∀ q b', (some (p, b + c) : Option (Addr × Int)) = some (q, b') → b' ≤ 2 ^ 100 := fun q b' z => by cases z; omega
    have e0 : b + c - c = b := by omega
    refine ⟨t, hp, so (cnS H S (some (p, b + c)) ok) (noXC _) _ [] _ H _ (edPS Gq) (Rel.startS (N := N) r (some (p, b + c)) ok c (fun q b' z => by cases z; exact ⟨e0.symm ▸ hpu, np⟩) [.ref p] [.pu] (.inr ⟨p, b + c, rfl, rfl, rfl⟩) (by simp; omega)) ?_ ⟨fun γ' σ' H' hn R => ?_, fun s γ' v Θ' σ' H' hr R => ?_, fun _ _ _ z _ => z.elim, fun _ _ _ z _ => z.elim⟩⟩
    · have e1 : ([V.ref p] ++ vs').length = ps.length := by simp; omega
      rw [e1]
      exact val ds Gq hw
    · obtain ⟨Z, S1, S2, X⟩ := R
      exact hk _ _ _ hn.2 (fun a o e ne => (X.fr a o e (fun ⟨b, z⟩ => by cases z; exact ne rfl)).2) ((X.pu p _ rfl).1.le (by have := hn.1; omega)) ⟨[], .non, fun a m => nomatch m⟩
    · obtain ⟨d, hG, nw⟩ := R.outS hr.2
      obtain ⟨Z, S1, S2, X⟩ := R
      exact hk _ _ _ hG (fun a o e ne => (X.fr a o e (fun ⟨b, z⟩ => by cases z; exact ne rfl)).2) ((X.pu p _ rfl).1.le (by have := hr.1; dsimp only; omega)) nw
end
end G
/-! GAP: the greatest of four numbers. -/
namespace PySem
open Sem (wp)
section
variable {prog : Program} {w : World} {A : Around} {E : Value → Shared → Prop} {s : Shared}
theorem four_args (p q r u : Value) :
    argsOk "max" ⟨[p, q, r, u], []⟩ := by
  unfold argsOk
  kernel_rfl
theorem call_max4V {p q r u : Value} {Q : Value → Shared → Prop}
    (hyp : wpAny (model prog w) A.in1 (pyIter (.ref s.heap.objs.size))
      (fun it s1 => ∃ I fp wr n P St better, it = .ref I ∧ Walks prog w A.in1 I fp wr n P St ∧ St 0 s1.heap
        ∧ (∀ z ∈ fp, z < s1.heap.objs.size) ∧ 0 < n ∧ CmpOf prog w A.in1 .Gt P better
        ∧ ∀ v hp tk, P (argBest better (n - 1)) v → (∀ z o, z ∉ wr → s1.heap.get? z = some o → hp.get? z = some o)
          → Q v { s1 with heap := hp, toks := tk }) E
      { s with heap := s.heap.push { cls := .type "tuple", data := .seq #[p, q, r, u] } }) :
    wpAny (model prog w) A (call (.builtin "max") [p, q, r, u]) Q E s := by
  have nm : (toString "max" ++ toString ".loop" : String) = "max.loop" := by
    decide
  refine call_function_tree F.kind_max F.plain_max F.entry_max
    (four_args _ _ _ _) ?_
  show wpAny _ A.in1
    (Builtin.Builtins.bindParams "max" ["key", "default"] 0 ⟨[], []⟩ >>= _) _ _ s
  refine wpAny_bind (wpAny_of_eq
    (show Builtin.Builtins.bindParams "max" ["key", "default"] 0 ⟨[], []⟩ = pure [none, none] from rfl) ?_)
  show wpAny _ A.in1
    (newTuple [p, q, r, u] >>= _) _ _ s
  refine wpAny_bind
    (wpAny_newObj_type ?_)
  refine wpAny_bind (wpAny_mono hyp (fun it s1 got => ?_) fun _ _ z => z)
  obtain ⟨I, fp, wr, n, P, St, better, rfl, wk, h0, hfp, npos, hc, hq⟩ := got
  refine wpAny_bind
    (wpAny_newObj_type ?_)
  have nfp : s1.heap.objs.size ∉ fp := fun m => Nat.lt_irrefl _ (hfp _ m)
  rw [nm]
  refine wpAny_pure ⟨plainId_quiet F.plain_max_loop _,
    codeAny_max_loop_first wk better hc s1.heap.objs.size nfp npos
      (wk.frame _ _ _ h0 fun z _ o e => Heap.get?_push_of_some _ e)
      (Heap.get?_push_size _ rfl) fun v hp tk hP kp => ?_⟩
  refine hq v hp tk hP fun z o nz e => ?_
  exact kp z o nz (Nat.ne_of_lt (Heap.lt_size e))
    (Heap.get?_push_of_some _ e)
/-- the best of ints -/
theorem best_ge (f : Nat → Int) : ∀ n, (∀ j, j ≤ n → f j ≤ f (argBest (fun i j => decide (f i > f j)) n)) ∧ argBest (fun i j => decide (f i > f j)) n ≤ n
  | 0 => ⟨fun j hj => by
    obtain rfl : j = 0 := by omega
    exact Int.le_refl _, Nat.le_refl _⟩
  | n + 1 => by
    obtain ⟨h1, h2⟩ := best_ge f n
    unfold argBest
    by_cases c : f (n + 1) > f (argBest (fun i j => decide (f i > f j)) n)
    · rw [if_pos (decide_eq_true c)]
      refine ⟨fun j hj => ?_, Nat.le_refl _⟩
      by_cases e : j = n + 1
      · rw [e]; exact Int.le_refl _
      · have := h1 j (by omega)
        omega
    · rw [if_neg (by rw [decide_eq_false c]; decide)]
      refine ⟨fun j hj => ?_, by omega⟩
      by_cases e : j = n + 1
      · rw [e]; omega
      · exact h1 j (by omega)
theorem max4_ints {i j k l : Int} {a b c d : Tok} {Q : Value → Shared → Prop} (hh : A.handled = none)
    (hyp : ∀ hp tk tt, (∀ z o, s.heap.get? z = some o → hp.get? z = some o) →
      Q (.int (max i (max j (max k l))) tt) { s with heap := hp, toks := tk }) :
    wpAny (model prog w) A (call (.builtin "max") [.int i a, .int j b, .int k c, .int l d]) Q E s := by
  obtain ⟨arr, harr⟩ : ∃ arr : Array (Int × Tok), #[(i, a), (j, b), (k, c), (l, d)] = arr := ⟨_, rfl⟩
  have its : (intItems arr : Array Value) = #[.int i a, .int j b, .int k c, .int l d] := by
    rw [← harr]
    simp [intItems]
  have sz : (intItems arr).size = 4 := by rw [its]; rfl
  have tupAt : (s.heap.push { cls := .type "tuple", data := .seq #[.int i a, .int j b, .int k c, .int l d] }).IsTuple s.heap.objs.size (intItems arr) :=
    ⟨_, Heap.get?_push_size _ rfl, rfl, 0, by rw [its]⟩
  refine call_max4V (wpAny_pyIter_tuple tupAt ?_)
  have hs : (s.heap.push { cls := .type "tuple", data := .seq #[.int i a, .int j b, .int k c, .int l d] }).objs.size = s.heap.objs.size + 1 :=
    Heap.size_push ..
  refine ⟨_, [_, s.heap.objs.size], [_], _, _, _, _, rfl,
    Walks.tuple (A := A.in1) hh _ s.heap.objs.size (fun z => Nat.lt_irrefl _ (Nat.lt_of_lt_of_eq (Nat.lt_succ_self _) (z.trans hs).symm)) (intItems arr),
    ⟨⟨_, Heap.get?_push_size _ rfl, rfl, rfl⟩, tupAt.push _⟩, fun z hz => ?_, by rw [sz]; decide,
    CmpOf.ints_gt (numAt arr) (fun _ _ => intItems_at), fun v hp tk hP kp => ?_⟩
  · show z < ((s.heap.push _).push _).objs.size
    rw [Heap.size_push, hs]
    simp only [List.mem_cons, List.not_mem_nil, or_false] at hz
    rcases hz with rfl | rfl
    · rw [hs]
      exact Nat.lt_succ_self _
    · exact Nat.lt_succ_of_lt (Nat.lt_succ_self _)
  · have old : ∀ z o, s.heap.get? z = some o → hp.get? z = some o := fun z o e => by
      refine kp z o (fun m => ?_)
        (Heap.get?_push_of_some _ (Heap.get?_push_of_some _ e))
      have lt := Heap.lt_size e
      have := List.mem_singleton.mp m
      rw [hs] at this
      rw [this] at lt
      exact Nat.lt_irrefl _ (Nat.lt_of_succ_lt lt)
    rw [sz] at hP
    obtain ⟨g1, g2⟩ := best_ge (numAt arr) 3
    have n0 : numAt arr 0 = i := by rw [← harr]; rfl
    have n1 : numAt arr 1 = j := by rw [← harr]; rfl
    have n2 : numAt arr 2 = k := by rw [← harr]; rfl
    have n3 : numAt arr 3 = l := by rw [← harr]; rfl
    have e0 := g1 0 (by omega)
    have e1 := g1 1 (by omega)
    have e2 := g1 2 (by omega)
    have e3 := g1 3 (by omega)
    rw [n0] at e0
    rw [n1] at e1
    rw [n2] at e2
    rw [n3] at e3
    have hP' : (intItems arr)[argBest (fun x y => decide (numAt arr x > numAt arr y)) 3]? = some v := hP
    obtain ⟨t, ht⟩ : ∃ t, argBest (fun x y => decide (numAt arr x > numAt arr y)) 3 = t := ⟨_, rfl⟩
    rw [ht] at hP' g2 e0 e1 e2 e3
    rw [its] at hP'
    have cs : t = 0 ∨ t = 1 ∨ t = 2 ∨ t = 3 := by omega
    rcases cs with rfl | rfl | rfl | rfl
    · obtain rfl : Value.int i a = v := Option.some.inj hP'
      rw [n0] at e1 e2 e3
      have := hyp hp tk a old
      rw [show max i (max j (max k l)) = i by omega] at this
      exact this
    · obtain rfl : Value.int j b = v := Option.some.inj hP'
      rw [n1] at e0 e2 e3
      have := hyp hp tk b old
      rw [show max i (max j (max k l)) = j by omega] at this
      exact this
    · obtain rfl : Value.int k c = v := Option.some.inj hP'
      rw [n2] at e0 e1 e3
      have := hyp hp tk c old
      rw [show max i (max j (max k l)) = k by omega] at this
      exact this
    · obtain rfl : Value.int l d = v := Option.some.inj hP'
      rw [n3] at e0 e1 e2
      have := hyp hp tk d old
      rw [show max i (max j (max k l)) = l by omega] at this
      exact this
end
end PySem
namespace G
open PySem PySem.Spec PyProof.Rows L2
theorem call_max4 {X : Cx} (hc : X.calm = true) : CallR X (.builtin "max") (fun xs H Q => ∃ i j k l, xs = [.int i, .int j, .int k, .int l] ∧ Q (.int (max i (max j (max k l)))) H) := by
  intro pins s σ H xs us Q I r h
  obtain ⟨i, j, k, l, rfl, q⟩ := h
  cases r with
  | cons r1 r =>
    cases r with
    | cons r2 r =>
      cases r with
      | cons r3 r =>
        cases r with
        | cons r4 r =>
          cases r
          obtain ⟨t1, rfl⟩ := r1
          obtain ⟨t2, rfl⟩ := r2
          obtain ⟨t3, rfl⟩ := r3
          obtain ⟨t4, rfl⟩ := r4
          exact max4_ints (I.ok.hd hc) fun hp tk tt kk => ⟨.int _, H, I.kept kk, ⟨tt, rfl⟩, q⟩
def v4I (g : Int → Int → Int → Int → Int) : List D → (D → Prop) → Prop := fun ds q => match ds with
  | [.int i, .int j, .int k, .int l] => q (.int (g i j k l))
  | _ => False
theorem sc_4i {g : Int → Int → Int → Int → Int} : SoC 4 (fun xs H Q => ∃ i j k l, xs = [.int i, .int j, .int k, .int l] ∧ Q (.int (g i j k l)) H) (v4I g) := fun H vs T ds Q q r el hf w => by
  unfold v4I at hf
  split at hf
  · cases r with
    | cons r1 r =>
    cases r with
    | cons r2 r =>
    cases r with
    | cons r3 r =>
    cases r with
    | cons r4 r =>
    cases r
    cases r1
    cases r2
    cases r3
    cases r4
    exact ⟨_, _, _, _, rfl, w _ _ (sca_int _) hf⟩
  · exact hf.elim
end G
/-! GAQ: sorted(..) of data. -/
namespace G
open PySem PySem.Spec PyProof.Rows L2
section
variable {P : Program} {w : World} {H : Hp} {h : Heap}
mutual
/-- a tree reads as its data -/
theorem Rep.reads (ok : HOk P w H h) : ∀ (d : D) (S : List Addr) (v : V) (u : Value), Rep H S v d → RelV v u → ∃ as, Reads h u d as
  | .none, _, _, _, r, q => by cases r; cases q; exact ⟨_, .none⟩
  | .bool b, _, _, _, r, q => by cases r; cases q; exact ⟨_, .bool b⟩
  | .int i, _, _, _, r, q => by cases r; obtain ⟨t, rfl⟩ := q; exact ⟨_, .int i t⟩
  | .str x, _, _, _, r, q => by cases r; obtain ⟨t, rfl⟩ := q; exact ⟨_, .str x t⟩
  | .list ds, _, _, _, r, q => by
    cases r with
    | lst e rs =>
      cases q
      obtain ⟨z, its, n, rv, ho⟩ := ok _ _ e
      obtain ⟨as, ra⟩ := Reps.readsA ok ds _ _ its rs rv
      exact ⟨_, .list ho rfl rfl ra⟩
  | .tuple ds, _, _, _, r, q => by
    cases r with
    | tup e rs =>
      cases q
      obtain ⟨z, its, rv, ob, ho, hc, n, hd⟩ := ok _ _ e
      obtain ⟨as, ra⟩ := Reps.readsA ok ds _ _ its rs rv
      exact ⟨_, .tuple ho hc hd ra⟩
  | .dict _, _, _, _, r, _ => by cases r
theorem Reps.readsA (ok : HOk P w H h) : ∀ (ds : List D) (S : List Addr) (vs : List V) (us : List Value), Reps H S vs ds → Vals vs us → ∃ as, ReadsAll h us ds as
  | [], _, _, _, r, q => by cases r; cases q; exact ⟨_, .nil⟩
  | d :: ds, _, _, _, r, q => by
    cases r with
    | cons r1 r2 =>
      cases q with
      | cons q1 q2 =>
        obtain ⟨as, h1⟩ := Rep.reads ok d _ _ _ r1 q1
        obtain ⟨bs, h2⟩ := Reps.readsA ok ds _ _ _ r2 q2
        exact ⟨_, .cons h1 h2⟩
end
end
/-- what may be sorted -/
structure SortOk (ds : List D) : Prop where
  len : ds.length ≤ 10000000
  al : PySem.W.AllAlike ds
  so : PySem.W.Sortable ds
  dp : ∀ d ∈ ds, d.depth ≤ 50
def sortV (vs : List V) (ds : List D) : List (V × D) := (vs.zip ds).mergeSort (PySem.W.dataLe false Prod.snd)
def sortD (ds : List D) : List D := ds.mergeSort (PySem.W.dataLe false id)
theorem sortV_snd {vs : List V} {ds : List D} (h : vs.length = ds.length) : (sortV vs ds).map Prod.snd = sortD ds := by
  unfold sortV sortD
  have e := List.map_mergeSort (r := PySem.W.dataLe false Prod.snd) (s := PySem.W.dataLe false id) (f := (Prod.snd : V × D → D)) (l := vs.zip ds) fun a _ b _ => rfl
  rw [e, List.map_snd_zip (by omega)]
def rSortD (K : PySem.W.Frag) : List V → Hp → VK → Prop := fun xs H Q => ∃ (a : Addr) (vs : List V) (ds : List D) (T : List Addr), xs = [V.ref a] ∧ SqL K H a vs ∧ Reps H T vs ds ∧ SortOk ds ∧ ∀ p, H p = none → Q (.ref p) (upd H p (.lst ((sortV vs ds).map Prod.fst)))
theorem eachZ {h : Heap} {P : Program} {w : World} {H : Hp} (ok : HOk P w H h) : ∀ {ds : List D} {T : List Addr} {vs : List V} {us : List Value}, Reps H T vs ds → Vals vs us → PySem.W.EachIs (fun u (p : V × D) => RelV p.1 u) us (vs.zip ds) ∧ PySem.W.EachIs (fun u (p : V × D) => ∃ as, Reads h u p.2 as) us (vs.zip ds)
  | [], _, _, _, r, q => by cases r; cases q; exact ⟨.nil, .nil⟩
  | d :: ds, _, _, _, r, q => by
    cases r with
    | cons r1 r2 =>
      cases q with
      | cons q1 q2 =>
        obtain ⟨a, b⟩ := eachZ ok r2 q2
        exact ⟨.cons q1 a, .cons (Rep.reads ok _ _ _ _ r1 q1) b⟩
theorem each_vals {ps : List (V × D)} {us : List Value} (e : PySem.W.EachIs (fun u (p : V × D) => RelV p.1 u) us ps) : Vals (ps.map Prod.fst) us := by
  induction e with
  | nil => exact .nil
  | cons a _ ih => exact .cons a ih
theorem cr_sortD {X : Cx} (hu : X.A.units + 64 < cLine) : CallR X (.builtin "sorted") (rSortD X.K) := by
  intro pins s σ H xs us Q I r hh
  obtain ⟨a, vs, ds, T, rfl, hs, rp, ok, q⟩ := hh
  obtain ⟨its, rv, hl, hz⟩ := I.list hs
  obtain rfl := Vals.ref1 r
  have el := rp.length
  have ez : (vs.zip ds).map Prod.snd = ds := by rw [List.map_snd_zip (by omega)]
  obtain ⟨e1, e2⟩ := eachZ I.hok rp rv
  refine PySem.W.sorted_data (enc := Prod.snd) hl.isList e1 e2 (by rw [ez]; exact ok.al) (by rw [ez]; exact ok.so) ?_ (fun b hb => ?_) fun out ho eo => ?_
  · rw [List.length_zip]
    have := szle ok.len
    exact Nat.le_trans (Nat.min_le_right _ _) this
  · have m : b.2 ∈ ds := by
      rw [← ez]
      exact List.mem_map.mpr ⟨b, hb, rfl⟩
    have := ok.dp _ m
    omega
  · obtain ⟨ep, he⟩ := PyProof.Rows.sortedAll_at s.heap its (List.toArray out)
    have rv2 : Vals ((sortV vs ds).map Prod.fst) out := each_vals eo
    have hlen : ((sortV vs ds).map Prod.fst).length ≤ sizeLine := by
      rw [rv2.length, ho, List.length_zip]
      have := szle ok.len
      exact Nat.le_trans (Nat.min_le_right _ _) this
    exact ⟨.ref _, upd H (s.heap.objs.size + 1) (.lst ((sortV vs ds).map Prod.fst)), I.laid (t' := s.toks) (fun _ _ => PyProof.Rows.sortedAll_old) (Nat.le_succ _) ⟨hlen, out, ep, rv2, he⟩, rfl, q _ (I.hok.fresh (Nat.le_succ _))⟩
section
variable {C : Cn} {xc : XC C} {K : PySem.W.Frag} {ts : TA} {ka kb : KE} {n : Nat}
theorem Trs.ofPairs {H : Hp} {Z : Reg} : ∀ {ps : List (V × D)}, (∀ p ∈ ps, Tr H Z [] p.1 p.2) → Trs H Z [] (ps.map Prod.fst) (ps.map Prod.snd)
  | [], _ => .nil
  | p :: ps, h => .cons (S := []) (h p List.mem_cons_self) (Trs.ofPairs fun q m => h q (List.mem_cons_of_mem _ m))
theorem Trs.pairs {H : Hp} {Z : Reg} : ∀ {ds : List D} {vs : List V} {S : List Addr}, Trs H Z S vs ds → S = [] → ∀ p ∈ vs.zip ds, Tr H Z [] p.1 p.2
  | [], _, _, h, _ => by cases h; intro p m; cases m
  | d :: ds, _, _, h, e => by
    cases h with
    | cons h1 h2 =>
      obtain ⟨rfl, rfl⟩ := List.append_eq_nil_iff.mp e
      intro p m
      rcases List.mem_cons.mp m with rfl | m
      · exact h1
      · exact Trs.pairs h2 rfl p m
def kSortD (ka : KE) : KE := fun γ q => ka γ fun γ1 => match γ1.tm with
  | s :: tm => (shr γ1.sl s true).elim False fun ds => SortOk ds ∧ q ⟨γ1.sl, newL (sortD ds) :: tm, γ1.n⟩
  | [] => False
theorem so_sortD (h : SoA xc 1 ts ka) : SoE xc (tCB (rSortD K) ts) (kSortD ka) := fun γ Θ σ H Q q R hk w => h γ Θ σ H _ _ R hk fun γ1 vs H1 el hk1 R1 => by
  match vs, el, R1 with
  | [v], _, R1 =>
    obtain ⟨sl, tm, j⟩ := γ1
    dsimp only at hk1
    split at hk1
    · rename_i s tm
      obtain ⟨ds, e, ok, hq⟩ := elimF hk1
      obtain ⟨a, us, Z, S1, S2, rfl, ha, X, ts⟩ := Rel.shr R1 e
      obtain ⟨T, rp, _⟩ := Trs.rep _ _ _ ts
      have el2 := ts.length
      refine ⟨a, us, ds, T, rfl, SqL.of ha, rp, ok, fun p hp => w _ _ _ hq (Rel.newL X ?_ hp)⟩
      rw [← sortV_snd el2]
      exact Trs.ofPairs fun q m => Trs.pairs ts rfl q ((List.mergeSort_perm _ _).mem_iff.mp m)
    · exact hk1.elim
/-- a comprehension by an invariant, items frozen or owned -/
theorem lc_invB {j : Nat} {kt : KT} {ke : KE} {β : Type} {q : VSt → Prop} {sl T : List Sl} (l : List β) (f : β → D) (P : List β → List D → Int → Prop) (hj : (sl.set j .jk) = sl) (na : noAl j T = true)
    (len : ∀ pre acc n, P pre acc n → acc.length < 10000000)
    (step : ∀ b pre x post acc n (Y X : VSt → Prop), l = pre ++ x :: post → P pre acc n → (∀ s c cd n', con s = some (c, cd) → P (pre ++ [x]) (acc ++ [cd]) n' → Y ⟨sl.set j (.fz (f x)), s :: .ow b (.list acc) :: T, n'⟩) → (∀ n', P (pre ++ [x]) acc n' → X ⟨sl.set j (.fz (f x)), .ow b (.list acc) :: T, n'⟩) →
      kt ⟨sl.set j (.fz (f x)), .ow b (.list acc) :: T, n⟩ fun c γ1 => γ1.tm = .ow b (.list acc) :: T ∧ if c = true then ke γ1 Y else X γ1)
    (fin : ∀ b acc n, P l acc n → q ⟨sl, .ow b (.list acc) :: T, n⟩) : ∀ b acc n, P [] acc n → lcL j kt ke (l.map f) ⟨sl, .ow b (.list acc) :: T, n⟩ q := by
  have main : ∀ (post pre : List β) (b : Bool) (acc : List D) (n : Int), l = pre ++ post → P pre acc n → lcL j kt ke (post.map f) ⟨sl, .ow b (.list acc) :: T, n⟩ q := by
    intro post
    induction post with
    | nil =>
      intro pre b acc n hl hp
      rw [List.append_nil] at hl
      subst hl
      exact fin b acc n hp
    | cons x post ih =>
      intro pre b acc n hl hp
      have hjj : (sl.set j (.fz (f x))).set j .jk = sl := by rw [List.set_set]; exact hj
      refine ⟨noAl_cons na rfl, step b pre x post acc n _ _ hl hp (fun s c cd n' hc hP => ?_) (fun n' hP => ?_)⟩
      · show (con s).elim False _
        rw [hc]
        refine ⟨⟨na, rfl, len _ _ _ hp⟩, ?_⟩
        dsimp only
        rw [hjj]
        exact ih (pre ++ [x]) _ _ n' (by rw [hl]; simp) hP
      · dsimp only
        rw [hjj]
        exact ih (pre ++ [x]) b _ n' (by rw [hl]; simp) hP
  exact fun b acc n h => main l [] b acc n rfl h
/-- what is given an owned tree, and tells True -/
def kCallE (ka : KE) : KE := fun γ q => ka γ fun γ1 => match γ1.tm with
  | .ow true d :: tm => Sh 7 1000000 d ∧ nl d ≤ 10000 ∧ q ⟨γ1.sl, .fz (.bool true) :: tm, γ1.n⟩
  | _ => False
theorem so_callE (h : SoA xc 1 ts ka) : SoE xc (tCall spEat [] E0 ts) (kCallE ka) := fun γ Θ σ H Q q R hk w => h γ Θ σ H _ _ R hk fun γ1 vs H1 el hk1 R1 => by
  match vs, el, R1 with
  | [v], _, R1 =>
    obtain ⟨sl, tm, j⟩ := γ1
    dsimp only at hk1
    split at hk1
    · rename_i d0 tm
      obtain ⟨sh, hn, hq⟩ := hk1
      obtain ⟨S, rp, nd, kk⟩ := Rel.eat R1
      exact ⟨v, _, S, rfl, rp, nd, sh, hn, fun r H' er fr => by
        subst er
        exact w _ _ H' hq ((kk H' fr).push fun Z => .bl true)⟩
    · exact hk1.elim
end
end G
local macro_rules | `(tactic| walk_at "mem") => `(tactic| (repeat (first | exact List.Mem.head _ | apply List.Mem.tail)))
local macro_rules | `(tactic| walk_at "pick") => `(tactic| (repeat (first | exact G.Pick.hd | apply G.Pick.tl)))
local macro_rules | `(tactic| walk_at "lit") => `(tactic| (repeat (first | exact G.lit_int | exact G.litA_nil | exact G.lit_bool | exact G.lit_none | exact G.lit_str | refine G.lit_tup ?_ | refine G.lit_lst ?_ | refine G.litA_cons ?_ ?_)))
local macro_rules | `(tactic| walk_at "up") => `(tactic| (repeat (first | assumption | exact G.Rdb.int _ | apply G.Rdb.upO | apply G.Rdb.upT | apply G.Rdb.upF)))
local macro_rules | `(tactic| walk_at "memu") => `(tactic| (repeat (first | exact List.Mem.head _ | assumption | apply List.Mem.tail)))
local macro_rules | `(tactic| walk_at "picku") => `(tactic| (repeat (first | exact G.Pick.hd | assumption | apply G.Pick.tl)))
local macro_rules | `(tactic| walk_at "ev") => `(tactic| try simp (config := { maxSteps := 2000000 }) only [G.kC, G.kCallS, G.kCallSK, G.kCallPS, G.fzA, G.fzD, G.v4I, G.kSortD, G.kCallE, G.kEz, G.kIns, G.kCallX, G.kCallXK, G.kRaise, G.kTry, G.hdX, G.hdE, G.kXval, G.kFz, G.kCallW, G.kCallIA, G.kgUnl, G.itL, G.kThr, G.datS_sh, G.chg_sh, G.chg_tup, G.chg_lst, G.kSink, G.kLenD, G.kLenSet, G.kRepN, G.kCallTM, G.kDivmod, G.kMaxDef, G.kReprL, G.kLc2, G.vInD, G.vIdxD, G.kTupOf, G.kTupV, G.kIxTake, G.kgFill, G.kListMv, G.kDNew, G.kDNewT, G.topK, G.kDGet, G.kDIn, G.kDPut, G.dgS, G.dpS, G.dlS, G.isDc, G.keyD, G.keysD, G.valM_nil, Option.map_some, Option.isSome_none, Option.isSome_some, G.okS_dc, G.okS_dt, G.noAl_dc, G.noAl_dt, G.kVar, G.kFrz, G.kMov, G.kNil, G.kCons, G.kOp, G.vI, G.vB, G.noC, G.vEq, G.vIn, G.vIsN, G.vEqD, G.kChain, G.kUn, G.vNeg, G.kF, G.vLen, G.v2I, G.v1I, G.v3I, G.vInt, G.vAll, G.vSum, G.vSumT, G.vMaxL, G.vRepr, G.kTest, G.kTAnd, G.kTOr, G.kTNot, G.kYes, G.popB, G.pushB, G.kAndV, G.kOrV, G.kNotV, G.kIf, G.popC, G.kMk, G.look_mkL, G.okS_mkL, G.mkS_lt, G.mkS_lf, G.mkS_tt, G.mkS_tf, G.own_int, G.own_bool, G.own_str, G.own_none, G.own_list, G.own_tup, G.con_own, G.okS_own, G.look_own, G.dq, G.kIx, G.seqD, G.subS_fz, G.subS_ow, G.subS_of, G.subS_al, G.kListOf, G.shr, G.kNo, G.popI, G.kPart, G.kSl, G.kCat, G.kRg2, G.kRg1, G.kListRg, G.kCallT, G.kCallTK, G.kCallP, G.isLst, G.kM, G.vCnt, G.vIdx, G.kApp, G.wrL, G.atP, G.setP, G.kPop, G.kPopAt, G.popK, G.kgSub, G.frzSeq, G.kIt, G.kRng1, G.kRng2, G.kgName, G.okS_fz, G.okS_ow, G.okS_pu, G.okS_al, G.noAl_nil, G.noAl_fz, G.noAl_ow, G.noAl_pu, G.noAl_al, G.noAl_own, G.con_fz, G.con_ow, G.kgNil, G.kgCons, G.kgTup, G.itS, G.kAsg, G.kPar, G.kPar3, G.kAug, G.kDrop, G.kRet, G.kRetN, G.kNever, G.kNext, G.kBreak, G.kCont, G.kSeq, G.kIfS, G.kFor, G.kLc, G.kEnum, G.kZip, G.look_fz, G.look_ow, G.look_al, G.datS_fz, G.datS_ow, G.datS_own, G.datN, G.nolist, G.nolists, G.nolists_ints, G.kLit, G.kRngD, G.kCallI, G.kCallV, G.vBits, G.reS_io, G.reS_ow, G.putS_set, G.datS_io, G.ownF_ow, G.ownF_io, G.edI_rt, G.edI_nx, G.ioD_c, G.giv_ow, G.giv_fz, G.giv_own, G.ioOk, G.cutD_lastI, G.cutD_initI, G.inV_intsD, G.allflat_ints, Option.getD_some, G.edT_rt, G.edP_rt, G.edT_nx, G.edP_nx, G.rtN_fz, G.rtN_ow, G.rtN_own, G.ixD_0, G.ixD_1, G.ixD_2, G.intsOf_map, G.boolsOf_map, G.newL, G.nolists_app, G.flatD, G.vOf,
  List.map_cons, List.map_nil, List.cons_append, List.nil_append, List.append_nil, List.getElem?_cons_zero, List.getElem?_cons_succ, List.getElem?_nil, List.set_cons_zero, List.set_cons_succ, List.getD_cons_zero, List.getD_cons_succ, List.length_cons, List.length_nil, List.length_map, List.all_cons, List.all_nil, List.tail_cons, List.filterMap_cons_some, List.filterMap_nil, Option.elim, Option.bind_some, Option.bind_none, Option.orElse, Option.map_some, Bool.and_true, Bool.true_and, Bool.and_false, Bool.false_and, Bool.not_true, decide_true, Bool.not_false, Bool.false_xor, Bool.true_xor, if_true, if_false, true_and, and_true, true_or, or_true, eq_self, reduceIte, ite_true, ite_false, Bool.false_eq_true, Nat.zero_add, Nat.reduceAdd, implies_true, bne_self_eq_false])
namespace My
open PySem PySem.Spec PyProof.Rows L2 G
theorem bits_of {i : Int} {n : Nat} (h0 : 0 < n) (h : i.natAbs < 2 ^ n) : Builtin.Int.intBits i ≤ n := by
  have := PySem.Flt.log2_lt_of h0 h
  unfold Builtin.Int.intBits
  split <;> omega
-- for: *
/-! ### effects: the mathematics -/
/-- how many places are left, and how many things are needed, if straight places at the end are cut -/
def trim (gs : List Int) : Nat → Int → Nat × Int
  | 0, n => (0, n)
  | k + 1, n => if gs[k]? = some n ∧ (∀ x ∈ gs.take k, x < n) then trim gs k (n - 1) else (k + 1, n)
def leastE (n : Int) (gs : List Int) : Int × List Int := ((trim gs gs.length n).2, gs.take (trim gs gs.length n).1)
theorem trim_le (gs : List Int) : ∀ (k : Nat) (n : Int), (trim gs k n).1 ≤ k
  | 0, _ => Nat.le_refl _
  | k + 1, n => by
    unfold trim
    split
    · exact Nat.le_succ_of_le (trim_le gs k _)
    · exact Nat.le_refl _
/-- an effect, told in its least way or not -/
structure Eff (e : Int × List Int) : Prop where
  nn : 0 ≤ e.1
  ge : ∀ x ∈ e.2, 1 ≤ x
  le : ∀ x ∈ e.2, x ≤ e.1
/-- the greatest of a list and zero -/
def top (gs : List Int) : Int := gs.foldl (fun a x => max a x) 0
theorem top_app (gs : List Int) (x : Int) : top (gs ++ [x]) = max (top gs) x := by unfold top; simp [List.foldl_append]
theorem top_lt {gs : List Int} {n : Int} (h : 0 < n) : top gs < n ↔ ∀ x ∈ gs, x < n := by
  have aux : ∀ (l : List Int) (a : Int), l.foldl (fun a x => max a x) a < n ↔ a < n ∧ ∀ x ∈ l, x < n := by
    intro l
    induction l with
    | nil => intro a; simp
    | cons y l ih =>
      intro a
      rw [List.foldl_cons, ih]
      constructor
      · rintro ⟨h1, h2⟩
        refine ⟨by omega, fun x hx => ?_⟩
        rcases List.mem_cons.mp hx with rfl | hx
        · omega
        · exact h2 x hx
      · rintro ⟨h1, h2⟩
        have := h2 y List.mem_cons_self
        exact ⟨by omega, fun x hx => h2 x (List.mem_cons_of_mem _ hx)⟩
  unfold top
  rw [aux]
  exact ⟨fun z => z.2, fun z => ⟨h, z⟩⟩
/-- the tops of all beginnings -/
def tops (gs : List Int) : List Int := (List.range (gs.length + 1)).map fun k => top (gs.take k)
theorem tops_app (gs : List Int) (x : Int) : tops (gs ++ [x]) = tops gs ++ [max (top gs) x] := by
  unfold tops
  rw [List.length_append, List.length_singleton, List.range_succ, List.map_append]
  congr 1
  · refine List.map_congr_left fun k hk => ?_
    rw [List.mem_range] at hk
    rw [List.take_append_of_le_length (by omega)]
  · rw [List.map_singleton]
    have e : (gs ++ [x]).take (gs.length + 1) = gs ++ [x] := List.take_of_length_le (by simp)
    rw [e, top_app]
theorem tops_len (gs : List Int) : (tops gs).length = gs.length + 1 := by unfold tops; simp
theorem tops_at {gs : List Int} {k : Nat} (h : k ≤ gs.length) : (tops gs)[k]? = some (top (gs.take k)) := by
  unfold tops
  rw [List.getElem?_map, List.getElem?_range (by omega)]
  rfl
-- for: *
/-! ### least ways -/
theorem trim_pre (gs es : List Int) : ∀ (k : Nat) (n : Int), k ≤ gs.length → trim (gs ++ es) k n = trim gs k n
  | 0, _, _ => rfl
  | k + 1, n, h => by
    unfold trim
    rw [List.getElem?_append_left (by omega), List.take_append_of_le_length (by omega), trim_pre gs es k (n - 1) (by omega)]
theorem leastE_step {n : Int} {gs : List Int} (h : ∀ x ∈ gs, x ≤ n) : leastE (n + 1) (gs ++ [n + 1]) = leastE n gs := by
  have e : trim (gs ++ [n + 1]) (gs ++ [n + 1]).length (n + 1) = trim gs gs.length n := by
    rw [List.length_append, List.length_singleton]
    conv => lhs; unfold trim
    have c : (gs ++ [n + 1])[gs.length]? = some (n + 1) ∧ ∀ x ∈ (gs ++ [n + 1]).take gs.length, x < n + 1 := by
      refine ⟨by simp, fun x hx => ?_⟩
      rw [List.take_left] at hx
      have := h x hx
      omega
    rw [if_pos c]
    have e1 : n + 1 - 1 = n := by omega
    rw [e1]
    exact trim_pre gs [n + 1] _ _ (Nat.le_refl _)
  unfold leastE
  rw [e, List.take_append_of_le_length (trim_le gs _ _)]
theorem rg_snoc {a b : Int} (h : a ≤ b) : rg a (b + 1) = rg a b ++ [b] := by
  unfold rg
  have e : (b + 1 - a).toNat = (b - a).toNat + 1 := by omega
  rw [e, List.range_succ, List.map_append, List.map_singleton]
  congr 2
  omega
theorem rg_nil {a b : Int} (h : b ≤ a) : rg a b = [] := by
  unfold rg
  have e : (b - a).toNat = 0 := by omega
  rw [e]
  rfl
theorem leastE_wide {n : Int} {gs : List Int} (h : ∀ x ∈ gs, x ≤ n) : ∀ m : Nat, leastE (n + m) (gs ++ rg (n + 1) (n + m + 1)) = leastE n gs
  | 0 => by
    rw [rg_nil (by omega), List.append_nil]
    simp
  | m + 1 => by
    have e1 : n + ((m + 1 : Nat) : Int) = n + m + 1 := by omega
    rw [e1, rg_snoc (by omega), ← List.append_assoc, leastE_step (fun x hx => ?_), leastE_wide h m]
    rcases List.mem_append.mp hx with hx | hx
    · have := h x hx
      omega
    · have := mem_rg.mp hx
      omega
theorem leastE_wideI {n m : Int} {gs : List Int} (h : ∀ x ∈ gs, x ≤ n) (h0 : 0 ≤ m) : leastE (n + m) (gs ++ rg (n + 1) (n + m + 1)) = leastE n gs := by
  obtain ⟨k, rfl⟩ : ∃ k : Nat, m = (k : Int) := ⟨m.toNat, by omega⟩
  exact leastE_wide h k
/-- what cutting leaves -/
theorem trim_end (gs : List Int) : ∀ (k : Nat) (n : Int), trim gs (trim gs k n).1 (trim gs k n).2 = trim gs k n
  | 0, _ => rfl
  | k + 1, n => by
    by_cases c : gs[k]? = some n ∧ ∀ x ∈ gs.take k, x < n
    · have e : trim gs (k + 1) n = trim gs k (n - 1) := by
        conv => lhs; unfold trim
        rw [if_pos c]
      rw [e]
      exact trim_end gs k (n - 1)
    · have e : trim gs (k + 1) n = (k + 1, n) := by
        conv => lhs; unfold trim
        rw [if_neg c]
      rw [e]
      exact e
theorem trim_take (gs : List Int) (j : Nat) : ∀ (k : Nat) (n : Int), k ≤ j → k ≤ gs.length → trim (gs.take j) k n = trim gs k n := fun k n h1 h2 => by
  have e : gs = gs.take j ++ gs.drop j := (List.take_append_drop j gs).symm
  conv => rhs; rw [e]
  exact (trim_pre _ _ k n (by rw [List.length_take]; omega)).symm
theorem leastE_idem (n : Int) (gs : List Int) : leastE (leastE n gs).1 (leastE n gs).2 = leastE n gs := by
  have h1 := trim_le gs gs.length n
  have e1 : ((leastE n gs).2).length = (trim gs gs.length n).1 := by
    show (gs.take _).length = _
    rw [List.length_take]
    omega
  have e2 : trim (leastE n gs).2 (leastE n gs).2.length (leastE n gs).1 = trim gs gs.length n := by
    rw [e1]
    show trim (gs.take _) _ (trim gs gs.length n).2 = _
    rw [trim_take gs _ _ _ (Nat.le_refl _) h1, trim_end]
  show ((trim (leastE n gs).2 (leastE n gs).2.length (leastE n gs).1).2, (leastE n gs).2.take (trim (leastE n gs).2 (leastE n gs).2.length (leastE n gs).1).1) = _
  rw [e2]
  show ((trim gs gs.length n).2, (gs.take (trim gs gs.length n).1).take (trim gs gs.length n).1) = _
  rw [List.take_take, Nat.min_self]
  rfl
theorem trim_eff (gs : List Int) (hg : ∀ x ∈ gs, 1 ≤ x) : ∀ (k : Nat) (n : Int), k ≤ gs.length → 0 ≤ n → (∀ x ∈ gs.take k, x ≤ n) → 0 ≤ (trim gs k n).2 ∧ (trim gs k n).2 ≤ n ∧ ∀ x ∈ gs.take (trim gs k n).1, x ≤ (trim gs k n).2
  | 0, n, _, h0, _ => ⟨h0, Int.le_refl _, by
    intro x hx
    change x ∈ gs.take 0 at hx
    simp at hx⟩
  | k + 1, n, hk, h0, hl => by
    by_cases c : gs[k]? = some n ∧ ∀ x ∈ gs.take k, x < n
    · have e : trim gs (k + 1) n = trim gs k (n - 1) := by
        conv => lhs; unfold trim
        rw [if_pos c]
      rw [e]
      have n1 := hg n (List.mem_of_getElem? c.1)
      obtain ⟨a, b, d⟩ := trim_eff gs hg k (n - 1) (by omega) (by omega) (fun x hx => by have := c.2 x hx; omega)
      exact ⟨a, by omega, d⟩
    · have e : trim gs (k + 1) n = (k + 1, n) := by
        conv => lhs; unfold trim
        rw [if_neg c]
      rw [e]
      exact ⟨h0, Int.le_refl _, hl⟩
/-- told in its least way -/
def Lst (e : Int × List Int) : Prop := leastE e.1 e.2 = e
structure LE (n : Int) (gs : List Int) (e : Int × List Int) : Prop where
  eff : Eff e
  lst : Lst e
  le : e.1 ≤ n
  len : e.2.length ≤ gs.length
theorem leastE_ok {n : Int} {gs : List Int} (h : Eff (n, gs)) : LE n gs (leastE n gs) := by
  obtain ⟨a, b, c⟩ := trim_eff gs h.ge gs.length n (Nat.le_refl _) h.nn (by rw [List.take_length]; exact h.le)
  refine ⟨⟨a, fun x hx => h.ge x (List.mem_of_mem_take hx), c⟩, leastE_idem n gs, b, ?_⟩
  show (gs.take _).length ≤ _
  rw [List.length_take]
  omega
theorem leastE_two {d : Int} {g : List Int} : leastE (d + 1) (g ++ [d + 1, d + 1]) = (d + 1, g ++ [d + 1, d + 1]) := by
  have e : trim (g ++ [d + 1, d + 1]) (g ++ [d + 1, d + 1]).length (d + 1) = (g.length + 2, d + 1) := by
    have el : (g ++ [d + 1, d + 1]).length = g.length + 1 + 1 := by simp
    rw [el]
    unfold trim
    rw [if_neg]
    rintro ⟨_, h⟩
    have := h (d + 1) (by
      have e2 : g ++ [d + 1, d + 1] = (g ++ [d + 1]) ++ [d + 1] := by simp
      rw [e2, List.take_append_of_le_length (by simp), List.take_of_length_le (by simp)]
      simp)
    omega
  unfold leastE
  rw [e, List.take_of_length_le (by simp)]
theorem wide_eff {n m : Int} {gs : List Int} (ef : Eff (n, gs)) (m0 : 0 ≤ m) : Eff (n + m, gs ++ rg (n + 1) (n + m + 1)) := by
  have nn : 0 ≤ n := ef.nn
  refine ⟨show 0 ≤ n + m by omega, fun x hx => ?_, fun x hx => ?_⟩
  · rcases List.mem_append.mp hx with hx | hx
    · exact ef.ge x hx
    · have := mem_rg.mp hx
      omega
  · rcases List.mem_append.mp hx with hx | hx
    · have h1 : x ≤ n := ef.le x hx
      show x ≤ n + m
      omega
    · have := mem_rg.mp hx
      show x ≤ n + m
      omega
-- for: *
/-! ### doing, and beneath -/
theorem sh_effE {e : Int × List Int} (h : Eff e) (h1 : e.1 ≤ 100000) (h2 : e.2.length ≤ 4000) : Sh 3 1700000 (dE e) := sh_eff (by have := h.nn; omega) (fun x hx => by
  have a1 := h.ge x hx
  have a2 := h.le x hx
  omega) h2
def doE (e : Int × List Int) (h : List Int) : List Int := e.2.map (fun x => h.getD (x - 1).toNat 0) ++ h.drop e.1.toNat
def underE (e : Int × List Int) (c : Int) : Int × List Int := if e.1 = 0 then (0, []) else (e.1 + c, rg 1 (c + 1) ++ e.2.map (fun x => x + c))
theorem rg_at {a b : Int} {k : Nat} (h : a + k < b) : (rg a b)[k]? = some (a + k) := by
  unfold rg
  rw [List.getElem?_map, List.getElem?_range (by omega)]
  rfl
theorem rg_getD {a b : Int} {k : Nat} (h : a + k < b) : (rg a b).getD k 0 = a + k := by
  rw [List.getD_eq_getElem?_getD, rg_at h]
  rfl
theorem doE_rg {n c : Int} {gs : List Int} (ef : Eff (n, gs)) : doE (n, gs) (rg (c + 1) (n + c + 1)) = gs.map (fun x => x + c) := by
  unfold doE
  have e : (rg (c + 1) (n + c + 1)).drop n.toNat = [] := List.drop_of_length_le (by rw [rg_length]; omega)
  rw [e, List.append_nil]
  refine List.map_congr_left fun x hx => ?_
  have h1 : 1 ≤ x := ef.ge x hx
  have h2 : x ≤ n := ef.le x hx
  rw [rg_getD (by omega)]
  omega
theorem rg_app {a b c : Int} (h1 : a ≤ b) (h2 : b ≤ c) : rg a b ++ rg b c = rg a c := by
  refine List.ext_getElem? fun i => ?_
  have l1 := rg_length a b
  have l2 := rg_length b c
  have l3 := rg_length a c
  by_cases hi : i < (rg a b).length
  · rw [List.getElem?_append_left hi, rg_at (by omega), rg_at (by omega)]
  · rw [List.getElem?_append_right (by omega)]
    by_cases hj : i < (rg a c).length
    · rw [rg_at (by omega), rg_at (by omega)]
      congr 1
      omega
    · rw [List.getElem?_eq_none (by omega), List.getElem?_eq_none (by omega)]
theorem rg_plus {a b c : Int} : (rg a b).map (fun x => x + c) = rg (a + c) (b + c) := by
  refine List.ext_getElem? fun i => ?_
  have l1 := rg_length a b
  have l2 := rg_length (a + c) (b + c)
  rw [List.getElem?_map]
  by_cases hi : i < (rg a b).length
  · rw [rg_at (by omega), rg_at (by omega)]
    show some (a + (i : Int) + c) = some _
    congr 1
    omega
  · rw [List.getElem?_eq_none (by omega), List.getElem?_eq_none (by omega)]
    rfl
theorem trim_under {gs : List Int} (hg : ∀ x ∈ gs, 1 ≤ x) {c : Nat} : ∀ (k : Nat) (n : Int), k ≤ gs.length →
    trim (rg 1 (c + 1) ++ gs.map (fun x => x + (c : Int))) (c + k) (n + c) = trim (rg 1 (c + 1) ++ gs.map (fun x => x + (c : Int))) (c + (trim gs k n).1) ((trim gs k n).2 + c)
  | 0, n, _ => rfl
  | k + 1, n, hk => by
    have lr := rg_length 1 ((c : Int) + 1)
    have er : (rg 1 ((c : Int) + 1)).length = c := by omega
    by_cases q : gs[k]? = some n ∧ ∀ x ∈ gs.take k, x < n
    · have e : trim gs (k + 1) n = trim gs k (n - 1) := by
        conv => lhs; unfold trim
        rw [if_pos q]
      rw [e, ← trim_under hg k (n - 1) (by omega)]
      have n1 := hg n (List.mem_of_getElem? q.1)
      have e2 : c + (k + 1) = (c + k) + 1 := by omega
      rw [e2]
      conv => lhs; unfold trim
      rw [if_pos]
      · congr 1
        omega
      · refine ⟨?_, fun x hx => ?_⟩
        · rw [List.getElem?_append_right (by omega), er, Nat.add_sub_cancel_left, List.getElem?_map, q.1]
          rfl
        · rw [List.take_append, er, Nat.add_sub_cancel_left] at hx
          rcases List.mem_append.mp hx with hx | hx
          · have := mem_rg.mp (List.mem_of_mem_take hx)
            omega
          · rw [← List.map_take] at hx
            obtain ⟨y, hy, rfl⟩ := List.mem_map.mp hx
            have := q.2 y hy
            omega
    · have e : trim gs (k + 1) n = (k + 1, n) := by
        conv => lhs; unfold trim
        rw [if_neg q]
      rw [e]
theorem trim_pos {gs : List Int} {c : Nat} (hl : c ≤ gs.length) (h : ∀ k, k < c → gs[k]? = some ((k : Int) + 1)) : ∀ (k : Nat), k ≤ c → trim gs k k = (0, 0)
  | 0, _ => rfl
  | k + 1, hk => by
    unfold trim
    rw [if_pos]
    · have e : ((k + 1 : Nat) : Int) - 1 = (k : Int) := by omega
      rw [e]
      exact trim_pos hl h k (by omega)
    · refine ⟨?_, fun x hx => ?_⟩
      · rw [h k (by omega)]
        congr 1
      · obtain ⟨i, hi, rfl⟩ := List.getElem_of_mem hx
        rw [List.length_take] at hi
        have e := h i (by omega)
        rw [List.getElem_take]
        have e2 := List.getElem?_eq_some_iff.mp e
        obtain ⟨_, e3⟩ := e2
        rw [e3]
        omega
theorem least_under {n c : Int} {gs : List Int} (ef : Eff (n, gs)) (h0 : 0 ≤ c) : leastE (n + c) (rg 1 (c + 1) ++ gs.map (fun x => x + c)) = underE (leastE n gs) c := by
  obtain ⟨m, rfl⟩ : ∃ m : Nat, c = (m : Int) := ⟨c.toNat, by omega⟩
  have ok := leastE_ok ef
  have lr := rg_length 1 ((m : Int) + 1)
  have er : (rg 1 ((m : Int) + 1)).length = m := by omega
  have ht := trim_le gs gs.length n
  have te := trim_end gs gs.length n
  have el : (rg 1 ((m : Int) + 1) ++ gs.map (fun x => x + (m : Int))).length = m + gs.length := by rw [List.length_append, er, List.length_map]
  have e1 := trim_under ef.ge (c := m) gs.length n (Nat.le_refl _)
  unfold leastE
  rw [el, e1]
  have okd : 0 ≤ (trim gs gs.length n).2 := ok.eff.nn
  have okl : ∀ x ∈ gs.take (trim gs gs.length n).1, x ≤ (trim gs gs.length n).2 := ok.eff.le
  have okg : ∀ x ∈ gs.take (trim gs gs.length n).1, 1 ≤ x := ok.eff.ge
  revert ht te okd okl okg
  generalize trim gs gs.length n = r
  obtain ⟨j, d⟩ := r
  intro ht te okd okl okg
  dsimp only at ht te okd okl okg ⊢
  unfold underE
  dsimp only
  by_cases hd : d = 0
  · subst hd
    rw [if_pos rfl]
    have j0 : j = 0 := by
      cases j with
      | zero => rfl
      | succ j =>
        have hm : gs[0] ∈ gs.take (j + 1) := by
          have : 0 < gs.length := by omega
          rw [List.mem_take_iff_getElem]
          exact ⟨0, by omega, rfl⟩
        have a1 := okl _ hm
        have a2 := okg _ hm
        omega
    subst j0
    have e2 := trim_pos (gs := rg 1 ((m : Int) + 1) ++ gs.map (fun x => x + (m : Int))) (c := m) (by rw [el]; omega) (fun k hk => by
      rw [List.getElem?_append_left (by omega), rg_at (by omega)]
      congr 1
      omega) m (Nat.le_refl _)
    have e3 : (0 : Int) + m = m := by omega
    rw [e3, Nat.add_zero, e2]
    rfl
  · rw [if_neg hd]
    have stay : trim (rg 1 ((m : Int) + 1) ++ gs.map (fun x => x + (m : Int))) (m + j) (d + m) = (m + j, d + m) := by
      cases j with
      | zero =>
        cases m with
        | zero => rfl
        | succ m =>
          show trim _ (m + 1) _ = _
          unfold trim
          rw [if_neg]
          rintro ⟨h1, _⟩
          rw [List.getElem?_append_left (by omega), rg_at (by omega)] at h1
          have := Option.some.inj h1
          omega
      | succ j =>
        show trim _ ((m + j) + 1) _ = _
        unfold trim
        rw [if_neg]
        · rfl
        rintro ⟨h1, h2⟩
        unfold trim at te
        by_cases q : gs[j]? = some d ∧ ∀ x ∈ gs.take j, x < d
        · rw [if_pos q] at te
          have := trim_le gs j (d - 1)
          rw [te] at this
          simp at this
          omega
        · refine q ⟨?_, fun x hx => ?_⟩
          · rw [List.getElem?_append_right (by omega), er, Nat.add_sub_cancel_left, List.getElem?_map] at h1
            cases hq : gs[j]? with
            | none => rw [hq] at h1; cases h1
            | some y =>
              rw [hq] at h1
              have e : y + (m : Int) = d + m := Option.some.inj h1
              congr 1
              omega
          · have := h2 (x + m) (by
              rw [List.take_append, er, Nat.add_sub_cancel_left, ← List.map_take]
              exact List.mem_append_right _ (List.mem_map.mpr ⟨x, hx, rfl⟩))
            omega
    rw [stay]
    dsimp only
    rw [List.take_append, er, Nat.add_sub_cancel_left, ← List.map_take, List.take_of_length_le (by omega)]
theorem under_zero {e : Int × List Int} (h : Eff e) : underE e 0 = e := by
  unfold underE
  obtain ⟨d, g⟩ := e
  by_cases hd : d = 0
  · subst hd
    rw [if_pos rfl]
    cases g with
    | nil => rfl
    | cons x g =>
      have h1 : 1 ≤ x := h.ge x List.mem_cons_self
      have h2 : x ≤ 0 := h.le x List.mem_cons_self
      omega
  · rw [if_neg hd, rg_nil (by omega)]
    simp
theorem under_eff {e : Int × List Int} {c : Int} (h : Eff e) (h0 : 0 ≤ c) : Eff (underE e c) := by
  unfold underE
  have hn := h.nn
  split
  · exact ⟨by simp, by simp, by simp⟩
  · refine ⟨by show 0 ≤ e.1 + c; omega, fun x hx => ?_, fun x hx => ?_⟩
    · rcases List.mem_append.mp hx with hx | hx
      · have := mem_rg.mp hx
        omega
      · obtain ⟨y, hy, rfl⟩ := List.mem_map.mp hx
        have := h.ge y hy
        omega
    · show x ≤ e.1 + c
      rcases List.mem_append.mp hx with hx | hx
      · have := mem_rg.mp hx
        omega
      · obtain ⟨y, hy, rfl⟩ := List.mem_map.mp hx
        have := h.le y hy
        omega
theorem under_lst {e : Int × List Int} {c : Int} (h : Eff e) (hl : Lst e) (h0 : 0 ≤ c) : leastE (underE e c).1 (underE e c).2 = underE e c := by
  have h1 := least_under (n := e.1) (gs := e.2) (c := c) h h0
  rw [show leastE e.1 e.2 = e from hl] at h1
  by_cases hd : e.1 = 0
  · have : underE e c = (0, []) := by unfold underE; rw [if_pos hd]
    rw [this]
    rfl
  · have e1 : underE e c = (e.1 + c, rg 1 (c + 1) ++ e.2.map (fun x => x + c)) := by unfold underE; rw [if_neg hd]
    rw [e1] at h1 ⊢
    exact h1
theorem under_under {e : Int × List Int} {p c : Int} (h : Eff e) (h0 : 0 ≤ p) (h1 : 0 ≤ c) : underE (underE e p) c = underE e (p + c) := by
  have hn := h.nn
  by_cases hd : e.1 = 0
  · have e1 : underE e p = (0, []) := by unfold underE; rw [if_pos hd]
    have e2 : underE e (p + c) = (0, []) := by unfold underE; rw [if_pos hd]
    rw [e1, e2]
    rfl
  · have e1 : underE e p = (e.1 + p, rg 1 (p + 1) ++ e.2.map (fun x => x + p)) := by unfold underE; rw [if_neg hd]
    have e2 : underE e (p + c) = (e.1 + (p + c), rg 1 (p + c + 1) ++ e.2.map (fun x => x + (p + c))) := by unfold underE; rw [if_neg hd]
    rw [e1, e2]
    unfold underE
    dsimp only
    rw [if_neg (by omega), List.map_append, rg_plus, List.map_map, ← List.append_assoc]
    have e3 : (1 : Int) + c = c + 1 := by omega
    have e4 : p + 1 + c = p + c + 1 := by omega
    rw [e3, e4, rg_app (by omega) (by omega)]
    congr 1
    · omega
    · congr 1
      refine List.map_congr_left fun x _ => ?_
      show x + p + c = _
      omega
theorem under_bd {e : Int × List Int} {c : Int} (h : Eff e) (h0 : 0 ≤ c) : (underE e c).1 ≤ e.1 + c ∧ ((underE e c).2.length : Int) ≤ c + e.2.length := by
  have hn := h.nn
  unfold underE
  split
  · exact ⟨by show (0 : Int) ≤ _; omega, by show ((0 : Nat) : Int) ≤ _; omega⟩
  · refine ⟨Int.le_refl _, ?_⟩
    show (((rg 1 (c + 1) ++ e.2.map (fun x => x + c)).length : Nat) : Int) ≤ _
    rw [List.length_append, List.length_map, rg_length]
    omega
-- for: *
/-! ### places before, joins -/
def fromE (e : Int × List Int) (r : Int) : Int := if r ≤ (e.2.length : Nat) then e.2.getD (r - 1).toNat 0 else r + e.1 - (e.2.length : Nat)
def upE (e : Int × List Int) (m : Int) : List Int := e.2 ++ rg (e.1 + 1) (e.1 + m + 1)
def moreE (e : Int × List Int) (d : Int) : Int := if 0 < d - (e.2.length : Nat) then d - (e.2.length : Nat) else 0
def cE (e f : Int × List Int) (m : Int) : Int × List Int := (e.1 + m, doE f (upE e m))
def joinE (e f : Int × List Int) : Int × List Int := leastE (cE e f (moreE e f.1)).1 (cE e f (moreE e f.1)).2
theorem from_trim {gs : List Int} {r : Int} : ∀ (k : Nat) (n : Int), k ≤ gs.length → 1 ≤ r → fromE ((trim gs k n).2, gs.take (trim gs k n).1) r = fromE (n, gs.take k) r
  | 0, n, _, _ => rfl
  | k + 1, n, hk, hr => by
    by_cases q : gs[k]? = some n ∧ ∀ x ∈ gs.take k, x < n
    · have e : trim gs (k + 1) n = trim gs k (n - 1) := by
        conv => lhs; unfold trim
        rw [if_pos q]
      rw [e, from_trim k (n - 1) (by omega) hr]
      unfold fromE
      dsimp only
      rw [List.length_take, List.length_take, Nat.min_eq_left (by omega), Nat.min_eq_left (by omega)]
      by_cases h1 : r ≤ (k : Nat)
      · rw [if_pos h1, if_pos (by omega), List.getD_eq_getElem?_getD, List.getD_eq_getElem?_getD, List.getElem?_take_of_lt (by omega), List.getElem?_take_of_lt (by omega)]
      · rw [if_neg h1]
        by_cases h2 : r ≤ ((k + 1 : Nat) : Int)
        · have e2 : (r - 1).toNat = k := by omega
          rw [if_pos h2, List.getD_eq_getElem?_getD, e2, List.getElem?_take_of_lt (by omega), q.1]
          show _ = n
          omega
        · rw [if_neg h2]
          omega
    · have e : trim gs (k + 1) n = (k + 1, n) := by
        conv => lhs; unfold trim
        rw [if_neg q]
      rw [e]
theorem from_least {n r : Int} {gs : List Int} (hr : 1 ≤ r) : fromE (leastE n gs) r = fromE (n, gs) r := by
  have := from_trim (gs := gs) gs.length n (Nat.le_refl _) hr
  rw [List.take_length] at this
  exact this
theorem from_up {e : Int × List Int} {m : Int} {k : Nat} (h : k < e.2.length + m) (hm : 0 ≤ m) : (upE e m).getD k 0 = fromE e (k + 1) := by
  unfold upE fromE
  have lr := rg_length (e.1 + 1) (e.1 + m + 1)
  rw [List.getD_eq_getElem?_getD]
  by_cases h1 : k < e.2.length
  · have e1 : (((k : Nat) : Int) + 1 - 1).toNat = k := by omega
    rw [List.getElem?_append_left h1, if_pos (by omega), e1, List.getD_eq_getElem?_getD]
  · rw [List.getElem?_append_right (by omega), rg_at (by omega), if_neg (by omega)]
    show _ + _ = _
    omega
theorem up_len {e : Int × List Int} {m : Int} (hm : 0 ≤ m) : (((upE e m).length : Nat) : Int) = e.2.length + m := by
  unfold upE
  have lr := rg_length (e.1 + 1) (e.1 + m + 1)
  rw [List.length_append]
  omega
theorem cE_len {e f : Int × List Int} {m : Int} (hf : Eff f) (hm : 0 ≤ m) (hd : f.1 ≤ e.2.length + m) : (((cE e f m).2.length : Nat) : Int) = f.2.length + (e.2.length + m - f.1) := by
  have ul := up_len (e := e) hm
  have := hf.nn
  show ((doE f (upE e m)).length : Int) = _
  unfold doE
  rw [List.length_append, List.length_map, List.length_drop]
  omega
theorem from_c {e f : Int × List Int} {m r : Int} (hf : Eff f) (hm : 0 ≤ m) (hd : f.1 ≤ e.2.length + m) (hr : 1 ≤ r) : fromE (cE e f m) r = fromE e (fromE f r) := by
  have ul := up_len (e := e) hm
  have cl := cE_len (e := e) hf hm hd
  have hf0 := hf.nn
  have key : ∀ s : Int, 1 ≤ s → s ≤ e.2.length + m → (upE e m).getD (s - 1).toNat 0 = fromE e s := fun s h1 h2 => by
    rw [from_up (k := (s - 1).toNat) (by omega) hm]
    congr 1
    omega
  conv => lhs; unfold fromE
  by_cases h1 : r ≤ (f.2.length : Nat)
  · have e1 : fromE f r = f.2.getD (r - 1).toNat 0 := by unfold fromE; rw [if_pos h1]
    have hi : (r - 1).toNat < f.2.length := by omega
    have em : f.2[(r - 1).toNat]? = some f.2[(r - 1).toNat] := List.getElem?_eq_getElem hi
    have e2 : f.2.getD (r - 1).toNat 0 = f.2[(r - 1).toNat] := by rw [List.getD_eq_getElem?_getD, em]; rfl
    have mm := List.mem_of_getElem? em
    have a1 := hf.ge _ mm
    have a2 := hf.le _ mm
    rw [e1, e2, if_pos (by omega), ← key _ a1 (by omega)]
    show (doE f (upE e m)).getD _ _ = _
    unfold doE
    rw [List.getD_eq_getElem?_getD, List.getElem?_append_left (by rw [List.length_map]; exact hi), List.getElem?_map, em]
    rfl
  · have e1 : fromE f r = r + f.1 - (f.2.length : Nat) := by unfold fromE; rw [if_neg h1]
    rw [e1]
    by_cases h2 : r ≤ ((cE e f m).2.length : Nat)
    · rw [if_pos h2, ← key _ (by omega) (by omega)]
      show (doE f (upE e m)).getD _ _ = _
      unfold doE
      rw [List.getD_eq_getElem?_getD, List.getElem?_append_right (by rw [List.length_map]; omega), List.getElem?_drop, List.length_map, List.getD_eq_getElem?_getD]
      congr 2
      omega
    · rw [if_neg h2]
      unfold fromE
      rw [if_neg (by omega)]
      show r + (e.1 + m) - _ = _
      omega
theorem more_ok {e : Int × List Int} {d : Int} : 0 ≤ moreE e d ∧ d ≤ e.2.length + moreE e d := by
  unfold moreE
  split <;> omega
theorem up_mem {e : Int × List Int} {m x : Int} (he : Eff e) (hx : x ∈ upE e m) : 1 ≤ x ∧ x ≤ e.1 + (if 0 < m then m else 0) := by
  have := he.nn
  rcases List.mem_append.mp hx with hx | hx
  · have a1 := he.ge x hx
    have a2 := he.le x hx
    split <;> omega
  · have a := mem_rg.mp hx
    split <;> omega
theorem cE_eff {e f : Int × List Int} {m : Int} (he : Eff e) (hf : Eff f) (hm : 0 ≤ m) (hd : f.1 ≤ e.2.length + m) : Eff (cE e f m) := by
  have hen := he.nn
  have ul := up_len (e := e) hm
  have all : ∀ x ∈ (cE e f m).2, 1 ≤ x ∧ x ≤ e.1 + m := fun x hx => by
    rcases List.mem_append.mp hx with hx | hx
    · obtain ⟨y, hy, rfl⟩ := List.mem_map.mp hx
      have a1 := hf.ge y hy
      have a2 := hf.le y hy
      have em : (upE e m)[(y - 1).toNat]? = some (upE e m)[(y - 1).toNat] := List.getElem?_eq_getElem (by omega)
      have := up_mem he (List.mem_of_getElem? em)
      rw [List.getD_eq_getElem?_getD, em]
      show _ ≤ (upE e m)[(y - 1).toNat] ∧ (upE e m)[(y - 1).toNat] ≤ _
      revert this
      split <;> omega
    · have := up_mem he (List.mem_of_mem_drop hx)
      revert this
      split <;> omega
  exact ⟨by show 0 ≤ e.1 + m; omega, fun x hx => (all x hx).1, fun x hx => (all x hx).2⟩
theorem join_eff {e f : Int × List Int} (he : Eff e) (hf : Eff f) : Eff (joinE e f) := (leastE_ok (cE_eff he hf more_ok.1 more_ok.2)).eff
theorem join_lst {e f : Int × List Int} : Lst (joinE e f) := leastE_idem _ _
theorem from_join {e f : Int × List Int} {r : Int} (hf : Eff f) (hr : 1 ≤ r) : fromE (joinE e f) r = fromE e (fromE f r) := by
  unfold joinE
  rw [from_least hr]
  exact from_c hf more_ok.1 more_ok.2 hr
theorem from_ge {e : Int × List Int} {r : Int} (he : Eff e) (hr : 1 ≤ r) : 1 ≤ fromE e r := by
  have := he.nn
  unfold fromE
  split
  · have em : e.2[(r - 1).toNat]? = some e.2[(r - 1).toNat] := List.getElem?_eq_getElem (by omega)
    rw [List.getD_eq_getElem?_getD, em]
    exact he.ge _ (List.mem_of_getElem? em)
  · omega
theorem from_le {e : Int × List Int} {r : Int} (he : Eff e) (hr : 1 ≤ r) : fromE e r ≤ r + e.1 := by
  have := he.nn
  unfold fromE
  split
  · have em : e.2[(r - 1).toNat]? = some e.2[(r - 1).toNat] := List.getElem?_eq_getElem (by omega)
    have := he.le _ (List.mem_of_getElem? em)
    rw [List.getD_eq_getElem?_getD, em]
    show e.2[(r - 1).toNat] ≤ _
    omega
  · omega
/-- two least ways of the same shift are one -/
theorem canon_lt {e f : Int × List Int} (he : Eff e) (hf : Eff f) (lf : Lst f) (h : ∀ r, 1 ≤ r → fromE e r = fromE f r) : f.2.length ≤ e.2.length := by
  by_cases c : f.2.length ≤ e.2.length
  · exact c
  exfalso
  have big := h (e.2.length + f.2.length + 1) (by omega)
  unfold fromE at big
  rw [if_neg (by omega), if_neg (by omega)] at big
  have at_ : ∀ j : Nat, j < f.2.length → e.2.length ≤ j → f.2[j]? = some ((j : Int) + 1 + e.1 - (e.2.length : Nat)) := fun j hj hk => by
    have q := h (j + 1) (by omega)
    unfold fromE at q
    have e1 : ((j : Int) + 1 - 1).toNat = j := by omega
    rw [if_neg (by omega), if_pos (by omega), e1, List.getD_eq_getElem?_getD] at q
    have em : f.2[j]? = some f.2[j] := List.getElem?_eq_getElem hj
    rw [em] at q ⊢
    have q2 : _ = f.2[j] := q
    rw [← q2]
  obtain ⟨k, ek⟩ : ∃ k, f.2.length = k + 1 := ⟨f.2.length - 1, by omega⟩
  have cut : trim f.2 (k + 1) f.1 = trim f.2 k (f.1 - 1) := by
    conv => lhs; unfold trim
    rw [if_pos]
    refine ⟨?_, fun x hx => ?_⟩
    · rw [at_ k (by omega) (by omega)]
      congr 1
      omega
    · obtain ⟨j, hj, rfl⟩ := List.getElem_of_mem hx
      rw [List.length_take] at hj
      rw [List.getElem_take]
      have em : f.2[j]? = some f.2[j] := List.getElem?_eq_getElem (by omega)
      by_cases hk : e.2.length ≤ j
      · have q := at_ j (by omega) hk
        rw [em] at q
        have q2 := Option.some.inj q
        omega
      · have q := h (j + 1) (by omega)
        unfold fromE at q
        have e1 : ((j : Int) + 1 - 1).toNat = j := by omega
        have em2 : e.2[j]? = some e.2[j] := List.getElem?_eq_getElem (by omega)
        rw [if_pos (by omega), if_pos (by omega), e1, List.getD_eq_getElem?_getD, List.getD_eq_getElem?_getD, em, em2] at q
        have q2 : e.2[j] = f.2[j] := q
        have := he.le _ (List.mem_of_getElem? em2)
        omega
  have l1 := trim_le f.2 k (f.1 - 1)
  have l2 : (leastE f.1 f.2).2.length = f.2.length := by rw [show leastE f.1 f.2 = f from lf]
  unfold leastE at l2
  dsimp only at l2
  rw [List.length_take, ek, cut] at l2
  omega
theorem canon {e f : Int × List Int} (he : Eff e) (hf : Eff f) (le : Lst e) (lf : Lst f) (h : ∀ r, 1 ≤ r → fromE e r = fromE f r) : e = f := by
  have a1 := canon_lt he hf lf h
  have a2 := canon_lt hf he le fun r hr => (h r hr).symm
  have big := h (e.2.length + f.2.length + 1) (by omega)
  unfold fromE at big
  rw [if_neg (by omega), if_neg (by omega)] at big
  obtain ⟨n, gs⟩ := e
  obtain ⟨d, ls⟩ := f
  dsimp only at *
  have en : n = d := by omega
  subst en
  congr 1
  refine List.ext_getElem? fun j => ?_
  by_cases hj : j < gs.length
  · have q := h (j + 1) (by omega)
    unfold fromE at q
    dsimp only at q
    have e1 : ((j : Int) + 1 - 1).toNat = j := by omega
    have em : gs[j]? = some gs[j] := List.getElem?_eq_getElem hj
    have em2 : ls[j]? = some ls[j] := List.getElem?_eq_getElem (by omega)
    rw [if_pos (by omega), if_pos (by omega), e1, List.getD_eq_getElem?_getD, List.getD_eq_getElem?_getD, em, em2] at q
    rw [em, em2]
    exact congrArg some q
  · rw [List.getElem?_eq_none (by omega), List.getElem?_eq_none (by omega)]
theorem canon_least {e f : Int × List Int} (he : Eff e) (hf : Eff f) (h : ∀ r, 1 ≤ r → fromE e r = fromE f r) : leastE e.1 e.2 = leastE f.1 f.2 :=
  canon (leastE_ok he).eff (leastE_ok hf).eff (leastE_idem _ _) (leastE_idem _ _) fun r hr => by
    rw [from_least hr, from_least hr]
    exact h r hr
-- for: *
/-! ### lost and copied -/
def lostE (e : Int × List Int) : List Int := (rg 1 (e.1 + 1)).filter fun r => !decide (r ∈ e.2)
def copE (e : Int × List Int) : List Int := (rg 1 (e.1 + 1)).filter fun r => decide (1 < (e.2.count r : Nat))
theorem doE_self {n : Int} {gs : List Int} (ef : Eff (n, gs)) : doE (n, gs) (rg 1 (n + 4)) = gs ++ rg (n + 1) (n + 4) := by
  have n0 : 0 ≤ n := ef.nn
  unfold doE
  have e1 : (rg 1 (n + 4)).drop n.toNat = rg (n + 1) (n + 4) := by
    have l := rg_length 1 (n + 1)
    rw [← rg_app (a := 1) (b := n + 1) (c := n + 4) (by omega) (by omega), List.drop_append_of_le_length (by omega), List.drop_of_length_le (by omega), List.nil_append]
  dsimp only
  rw [e1]
  congr 1
  conv => rhs; rw [← List.map_id gs]
  refine List.map_congr_left fun x hx => ?_
  have h1 : 1 ≤ x := ef.ge x hx
  have h2 : x ≤ n := ef.le x hx
  rw [rg_getD (by omega)]
  show _ = x
  omega
theorem rg_cons {a b : Int} (h : a < b) : rg a b = a :: rg (a + 1) b := by
  have e := rg_app (a := a) (b := a + 1) (c := b) (by omega) (by omega)
  rw [← e]
  have e2 : rg a (a + 1) = [a] := by
    have e3 : (a + 1 - a).toNat = 1 := by omega
    unfold rg
    rw [e3]
    simp
  rw [e2]
  rfl
theorem trim_rest {gs : List Int} {M : Int} : ∀ (k : Nat) (n : Int), n < M → k ≤ gs.length → gs.take k ++ rg (n + 1) M = gs.take (trim gs k n).1 ++ rg ((trim gs k n).2 + 1) M
  | 0, n, _, _ => rfl
  | k + 1, n, h, hk => by
    by_cases q : gs[k]? = some n ∧ ∀ x ∈ gs.take k, x < n
    · have e : trim gs (k + 1) n = trim gs k (n - 1) := by
        conv => lhs; unfold trim
        rw [if_pos q]
      rw [e, ← trim_rest k (n - 1) (by omega) (by omega), List.take_add_one, q.1, List.append_assoc]
      have e2 : n - 1 + 1 = n := by omega
      rw [e2, rg_cons h]
      rfl
    · have e : trim gs (k + 1) n = (k + 1, n) := by
        conv => lhs; unfold trim
        rw [if_neg q]
      rw [e]
theorem least_rest {n M : Int} {gs : List Int} (h : n < M) : gs ++ rg (n + 1) M = (leastE n gs).2 ++ rg ((leastE n gs).1 + 1) M := by
  have := trim_rest (gs := gs) (M := M) gs.length n h (Nat.le_refl _)
  rw [List.take_length] at this
  exact this
theorem rg_count {a r : Int} : ∀ m : Nat, (rg a (a + m)).count r ≤ 1
  | 0 => by
    rw [rg_nil (by omega)]
    simp
  | m + 1 => by
    have e : a + ((m + 1 : Nat) : Int) = a + m + 1 := by omega
    rw [e, rg_snoc (by omega), List.count_append]
    by_cases h : r = a + m
    · have e0 : (rg a (a + m)).count r = 0 := List.count_eq_zero_of_not_mem fun z => by
        have := mem_rg.mp z
        omega
      have := List.count_le_length (a := r) (l := [a + (m : Int)])
      rw [e0]
      simpa using this
    · have e0 : [a + (m : Int)].count r = 0 := List.count_eq_zero_of_not_mem fun z => h (List.mem_singleton.mp z)
      rw [e0]
      exact rg_count m
theorem rg_count1 {a b r : Int} (h : a ≤ b) : (rg a b).count r ≤ 1 := by
  obtain ⟨m, rfl⟩ : ∃ m : Nat, b = a + m := ⟨(b - a).toNat, by omega⟩
  exact rg_count m
theorem filt {d M : Int} {P P' : Int → Bool} (h0 : 0 ≤ d) (hd : d < M) (h1 : ∀ r, d < r → r < M → P r = false) (h2 : ∀ r, 1 ≤ r → r ≤ d → P r = P' r) : (rg 1 M).filter P = (rg 1 (d + 1)).filter P' := by
  rw [← rg_app (a := 1) (b := d + 1) (c := M) (by omega) (by omega), List.filter_append]
  have e2 : (rg (d + 1) M).filter P = [] := by
    rw [List.filter_eq_nil_iff]
    intro r hr
    have := mem_rg.mp hr
    rw [h1 r (by omega) (by omega)]
    simp
  rw [e2, List.append_nil]
  refine List.filter_congr fun r hr => ?_
  have := mem_rg.mp hr
  exact h2 r (by omega) (by omega)
theorem gone_eq {n : Int} {gs : List Int} (ef : Eff (n, gs)) : ((rg 1 (n + 4)).filter fun r => !decide (r ∈ doE (n, gs) (rg 1 (n + 4)))) = lostE (leastE n gs) := by
  have lk := leastE_ok ef
  have a1 : (leastE n gs).1 ≤ n := lk.le
  have a0 := lk.eff.nn
  rw [doE_self ef, least_rest (by omega)]
  refine filt a0 (by omega) (fun r h1 h2 => ?_) (fun r h1 h2 => ?_)
  · rw [decide_eq_true (List.mem_append_right _ (mem_rg.mpr ⟨by omega, h2⟩))]
    rfl
  · congr 1
    refine decide_eq_decide.mpr ⟨fun h => ?_, fun h => List.mem_append_left _ h⟩
    rcases List.mem_append.mp h with h | h
    · exact h
    · have := mem_rg.mp h
      omega
theorem twice_eq {n : Int} {gs : List Int} (ef : Eff (n, gs)) : ((rg 1 (n + 4)).filter fun r => decide (1 < ((doE (n, gs) (rg 1 (n + 4))).count r : Nat))) = copE (leastE n gs) := by
  have lk := leastE_ok ef
  have a1 : (leastE n gs).1 ≤ n := lk.le
  have a0 := lk.eff.nn
  rw [doE_self ef, least_rest (by omega)]
  refine filt a0 (by omega) (fun r h1 h2 => ?_) (fun r h1 h2 => ?_)
  · have e1 : (leastE n gs).2.count r = 0 := List.count_eq_zero_of_not_mem fun h => by
      have := lk.eff.le r h
      omega
    have e2 : (rg ((leastE n gs).1 + 1) (n + 4)).count r ≤ 1 := rg_count1 (by omega)
    rw [List.count_append, e1]
    exact decide_eq_false (by omega)
  · have e1 : (rg ((leastE n gs).1 + 1) (n + 4)).count r = 0 := List.count_eq_zero_of_not_mem fun h => by
      have := mem_rg.mp h
      omega
    rw [List.count_append, e1]
    rfl
-- for: *
/-! ### equal effects -/
theorem eqv_dE (e f : Int × List Int) : PyData.eqv (dE e) (dE f) = decide (e = f) := by
  obtain ⟨n, g⟩ := e
  obtain ⟨m, h⟩ := f
  show PyData.eqv (.tuple [.int n, dI g]) (.tuple [.int m, dI h]) = _
  simp only [PyData.eqv, PyData.eqvAll]
  have := eqv_ints g h
  simp only [PyData.eqv] at this
  simp [this, Prod.ext_iff, Bool.decide_and]
  rfl
theorem shaped_dE (e : Int × List Int) : SeqAt.shaped (dE e) = true := by
  unfold SeqAt.shaped
  simp [PyData.canLay0, PyData.canLayAll0, PyData.depth, PyData.depthAll, canLay_ints, depth_ints]
/-- the first place that tells two effects apart -/
def difE (e f : Int × List Int) (r : Int) : Bool := !decide (fromE e r = fromE f r)
def mxE (e f : Int × List Int) : Int := if ((f.2.length : Nat) : Int) > (e.2.length : Nat) then ((f.2.length : Nat) : Int) else (e.2.length : Nat)
def optD : Option Int → D
  | some r => .int r
  | none => .none
def partD (e f : Int × List Int) : D := optD ((rg 1 (mxE e f + 2)).find? (difE e f))
theorem find_at {P : Int → Bool} {a b r : Int} (h1 : a ≤ r) (h2 : r < b) (hr : P r = true) (hn : ∀ x, a ≤ x → x < r → P x = false) : (rg a b).find? P = some r := by
  rw [← rg_app (a := a) (b := r) (c := b) h1 (by omega), rg_cons h2, List.find?_append, List.find?_eq_none.mpr fun x hx => by
    have := mem_rg.mp hx
    rw [hn x (by omega) (by omega)]
    simp]
  simp [List.find?_cons, hr]
theorem find_no {P : Int → Bool} {a b : Int} (hn : ∀ x, a ≤ x → x < b → P x = false) : (rg a b).find? P = none := by
  rw [List.find?_eq_none]
  intro x hx
  have := mem_rg.mp hx
  rw [hn x (by omega) (by omega)]
  simp
theorem eqv_iiT (a b : Int) : PyData.eqv (.tuple [.int a, .int b]) (.tuple [.int a, .int b]) = true := by
  simp [PyData.eqv, PyData.eqvAll]
theorem shaped_ii (a b : Int) : SeqAt.shaped (.tuple [.int a, .int b]) = true := by
  unfold SeqAt.shaped
  simp [PyData.canLay0, PyData.canLayAll0, PyData.depth, PyData.depthAll]
-- for: power_of _law_ng_walk _law_ng_trio spot_after walked_places comes_again undo redo _law_sx_effect _law_ps_done
/-! ### an effect done so many times -/
def powE (e : Int × List Int) : Nat → Int × List Int
  | 0 => (0, [])
  | k + 1 => joinE (powE e k) e
theorem eff0 : Eff ((0, []) : Int × List Int) := ⟨by decide, by simp, by simp⟩
theorem lst0 : Lst ((0, []) : Int × List Int) := rfl
theorem pow_eff {e : Int × List Int} (h : Eff e) : ∀ k, Eff (powE e k)
  | 0 => eff0
  | k + 1 => join_eff (pow_eff h k) h
theorem pow_lst {e : Int × List Int} : ∀ k, Lst (powE e k)
  | 0 => lst0
  | k + 1 => join_lst
theorem from0 {r : Int} (hr : 1 ≤ r) : fromE (0, []) r = r := by
  unfold fromE
  rw [if_neg (by simp; omega)]
  simp
/-- the place function, so many times -/
def itE (e : Int × List Int) : Nat → Int → Int
  | 0, r => r
  | k + 1, r => itE e k (fromE e r)
theorem it_ge {e : Int × List Int} (h : Eff e) : ∀ (k : Nat) {r : Int}, 1 ≤ r → 1 ≤ itE e k r
  | 0, r, hr => hr
  | k + 1, r, hr => it_ge h k (from_ge h hr)
theorem it_add {e : Int × List Int} : ∀ (j k : Nat) (r : Int), itE e (j + k) r = itE e j (itE e k r)
  | j, 0, r => rfl
  | j, k + 1, r => by
    show itE e (j + k) (fromE e r) = itE e j (itE e k (fromE e r))
    exact it_add j k _
theorem from_pow {e : Int × List Int} (h : Eff e) : ∀ (k : Nat) {r : Int}, 1 ≤ r → fromE (powE e k) r = itE e k r
  | 0, r, hr => from0 hr
  | k + 1, r, hr => by
    show fromE (joinE (powE e k) e) r = itE e k (fromE e r)
    rw [from_join h hr, from_pow h k (from_ge h hr)]
/-- the power is known by its places -/
theorem pow_of {e f : Int × List Int} {k : Nat} (h : Eff e) (hf : Eff f) (lf : Lst f) (hp : ∀ r, 1 ≤ r → fromE f r = itE e k r) : f = powE e k :=
  canon hf (pow_eff h k) lf (pow_lst k) fun r hr => (hp r hr).trans (from_pow h k hr).symm
theorem pow_add {e : Int × List Int} (h : Eff e) (j k : Nat) : joinE (powE e j) (powE e k) = powE e (j + k) :=
  pow_of h (join_eff (pow_eff h j) (pow_eff h k)) join_lst fun r hr => by
    rw [from_join (pow_eff h k) hr, from_pow h k hr, from_pow h j (it_ge h k hr), it_add]
theorem join_bd {e f : Int × List Int} (he : Eff e) (hf : Eff f) : (joinE e f).1 ≤ e.1 + f.1 ∧ (joinE e f).2.length ≤ f.2.length + e.2.length := by
  have c := cE_eff (m := moreE e f.1) he hf more_ok.1 more_ok.2
  have l := leastE_ok c
  have h1 := l.le
  have h2 := l.len
  have h3 := cE_len (e := e) (f := f) (m := moreE e f.1) hf more_ok.1 more_ok.2
  have hm : moreE e f.1 ≤ f.1 := by
    have := hf.nn
    unfold moreE
    split <;> omega
  have g1 : (joinE e f).1 ≤ (cE e f (moreE e f.1)).1 := h1
  have g2 : (joinE e f).2.length ≤ (cE e f (moreE e f.1)).2.length := h2
  have g3 : (cE e f (moreE e f.1)).1 = e.1 + moreE e f.1 := rfl
  exact ⟨by omega, by omega⟩
theorem pow_bd {e : Int × List Int} (h : Eff e) : ∀ k : Nat, (powE e k).1 ≤ k * e.1 ∧ (powE e k).2.length ≤ k * e.2.length
  | 0 => ⟨by simp [powE], by simp [powE]⟩
  | k + 1 => by
    have ih := pow_bd h k
    have jb := join_bd (pow_eff h k) h
    refine ⟨?_, ?_⟩
    · show (joinE (powE e k) e).1 ≤ _
      have : ((k + 1 : Nat) : Int) * e.1 = k * e.1 + e.1 := by rw [Int.natCast_add, Int.add_mul]; simp
      omega
    · show (joinE (powE e k) e).2.length ≤ _
      have : (k + 1) * e.2.length = k * e.2.length + e.2.length := by rw [Nat.add_mul, Nat.one_mul]
      omega
theorem it_least {n : Int} {gs : List Int} (ef : Eff (n, gs)) : ∀ (k : Nat) {r : Int}, 1 ≤ r → itE (leastE n gs) k r = itE (n, gs) k r
  | 0, r, hr => rfl
  | k + 1, r, hr => by
    show itE (leastE n gs) k (fromE (leastE n gs) r) = itE (n, gs) k (fromE (n, gs) r)
    rw [from_least hr, it_least ef k (from_ge ef hr)]
theorem cmulB_of {i j : Int} (h1 : i.natAbs < 2 ^ 200) (h2 : j.natAbs < 2 ^ 200) : CMulB i j := by
  have a := bits_of (i := i) (n := 200) (by decide) h1
  have b := bits_of (i := j) (n := 200) (by decide) h2
  unfold CMulB
  omega
-- for: spot_after walked_places comes_again undo redo _law_ng_trio _law_sx_effect _law_ps_done
/-- how many steps bring the high one down to the low one -/
def stepsD (h l s : Int) : Int := if 0 < -((l - h) / s) then -((l - h) / s) else 0
/-! ### the place function, many times -/
theorem it_succ {e : Int × List Int} (k : Nat) (r : Int) : itE e (k + 1) r = fromE e (itE e k r) := by
  rw [Nat.add_comm, it_add 1 k r]
  rfl
theorem from_hi {e : Int × List Int} {r : Int} (h : (e.2.length : Int) < r) : fromE e r = r + (e.1 - e.2.length) := by
  unfold fromE
  rw [if_neg (by omega)]
  omega
theorem from_lo {e : Int × List Int} {r : Int} (h : r ≤ (e.2.length : Int)) : fromE e r = e.2.getD (r - 1).toNat 0 := by
  unfold fromE
  rw [if_pos h]
theorem from_low {e : Int × List Int} (ef : Eff e) {r : Int} (h1 : 1 ≤ r) (h : r ≤ (e.2.length : Int)) : fromE e r ≤ e.1 := by
  rw [from_lo h, List.getD_eq_getElem?_getD, List.getElem?_eq_getElem (by omega)]
  exact ef.le _ (List.getElem_mem _)
/-- straight on, while it lies above -/
theorem it_lin {e : Int × List Int} : ∀ (s : Nat) (r : Int), (∀ j : Nat, j < s → (e.2.length : Int) < r + j * (e.1 - e.2.length)) → itE e s r = r + s * (e.1 - e.2.length)
  | 0, r, _ => by simp [itE]
  | s + 1, r, h => by
    have h0 := h 0 (by omega)
    rw [Int.natCast_zero, Int.zero_mul, Int.add_zero] at h0
    show itE e s (fromE e r) = _
    have ed : ∀ j : Nat, ((j + 1 : Nat) : Int) * (e.1 - e.2.length) = (e.1 - e.2.length) + j * (e.1 - e.2.length) := fun j => by
      rw [Int.natCast_add, Int.add_mul]
      simp
      omega
    rw [from_hi h0, it_lin s _ fun j hj => ?_]
    · rw [ed]
      omega
    · have := h (j + 1) (by omega)
      rw [ed] at this
      omega
theorem it_up {e : Int × List Int} (hs : (e.2.length : Int) ≤ e.1) (s : Nat) {r : Int} (hr : (e.2.length : Int) < r) : itE e s r = r + s * (e.1 - e.2.length) :=
  it_lin s r fun j _ => by
    have : (0 : Int) ≤ j * (e.1 - e.2.length) := Int.mul_nonneg (by omega) (by omega)
    omega
/-- what comes again comes again -/
theorem it_per {e : Int × List Int} {r : Int} {i p : Nat} (h : itE e (i + p) r = itE e i r) : ∀ m : Nat, itE e (i + m + p) r = itE e (i + m) r := fun m => by
  have e1 : i + m + p = m + (i + p) := by omega
  have e2 : i + m = m + i := by omega
  rw [e1, it_add m (i + p), h, ← it_add m i, e2]
theorem it_perk {e : Int × List Int} {r : Int} {i p : Nat} (h : itE e (i + p) r = itE e i r) (m : Nat) : ∀ q : Nat, itE e (i + m + q * p) r = itE e (i + m) r
  | 0 => by rw [Nat.zero_mul, Nat.add_zero]
  | q + 1 => by
    have e1 : i + m + (q + 1) * p = i + (m + q * p) + p := by rw [Nat.add_mul, Nat.one_mul]; omega
    rw [e1, it_per h]
    have e2 : i + (m + q * p) = i + m + q * p := by omega
    rw [e2, it_perk h m q]
theorem it_mod {e : Int × List Int} {r : Int} {i p : Nat} (h : itE e (i + p) r = itE e i r) (m : Nat) : itE e (i + m) r = itE e (i + m % p) r := by
  have e1 : i + m = i + m % p + m / p * p := by
    have := Nat.mod_add_div m p
    rw [Nat.mul_comm] at this
    omega
  exact (congrArg (fun z => itE e z r) e1).trans (it_perk h _ _)
theorem it_bd {e : Int × List Int} (h : Eff e) : ∀ (k : Nat) {r : Int}, 1 ≤ r → itE e k r ≤ r + k * e.1
  | 0, r, hr => by simp [itE]
  | k + 1, r, hr => by
    have a := it_bd h k (from_ge h hr)
    have b := from_le h hr
    have c : ((k + 1 : Nat) : Int) * e.1 = k * e.1 + e.1 := by rw [Int.natCast_add, Int.add_mul]; simp
    show itE e k (fromE e r) ≤ _
    omega
theorem sh_it {e : Int × List Int} (h : Eff e) (he : e.1 ≤ 1000) {k : Nat} (hk : (k : Int) < 2 ^ 120) {r : Int} (hr : 1 ≤ r) (hr2 : r < 2 ^ 140) : Sh 1 205 (.int (itE e k r)) := by
  refine sh_int ?_
  have a := it_ge h k hr
  have b := it_bd h k hr
  have c : (k : Int) * e.1 ≤ k * 1000 := Int.mul_le_mul_of_nonneg_left he (by omega)
  omega
/-! ### no more unlike numbers than there is room for -/
theorem nodup_bd : ∀ (N : Nat) (l : List Int), l.Nodup → (∀ x ∈ l, 1 ≤ x ∧ x ≤ (N : Int)) → l.length ≤ N
  | 0, [], _, _ => Nat.le_refl _
  | 0, x :: l, _, h => by
    have := h x (by simp)
    omega
  | N + 1, l, nd, h => by
    have h2 := nodup_bd N (l.erase ((N + 1 : Nat) : Int)) (nd.erase _) fun x hx => by
      have a := h x (List.mem_of_mem_erase hx)
      have b := (nd.mem_erase_iff.mp hx).1
      omega
    have h3 := List.le_length_erase (a := ((N + 1 : Nat) : Int)) (l := l)
    omega
theorem rg_nodup (a b : Int) : (rg a b).Nodup := by
  unfold rg
  refine List.pairwise_map.mpr (List.Pairwise.imp_of_mem (fun {x y} _ _ hxy e => ?_) List.pairwise_lt_range)
  omega
theorem pigeon {N : Nat} {f : Nat → Int} (h : ∀ i : Nat, i ≤ N → 1 ≤ f i ∧ f i ≤ (N : Int)) : ∃ i j : Nat, i < j ∧ j ≤ N ∧ f i = f j := by
  apply Classical.byContradiction
  intro no
  have nd : ((List.range (N + 1)).map f).Nodup := by
    refine List.pairwise_map.mpr (List.Pairwise.imp_of_mem (fun {a b} ha hb hab e => ?_) List.pairwise_lt_range)
    exact no ⟨a, b, hab, by have := List.mem_range.mp hb; omega, e⟩
  have := nodup_bd N _ nd fun x hx => by
    obtain ⟨i, hi, rfl⟩ := List.mem_map.mp hx
    exact h i (by have := List.mem_range.mp hi; omega)
  rw [List.length_map, List.length_range] at this
  omega
/-! ### a dict of what was seen -/
def mkD (X : Nat → Int) (V : Nat → Int) (t : Nat) : List (Key × D) := (List.range t).map fun j => (Sum.inl (X j), PyData.int (V j))
section
variable {X V : Nat → Int} {t : Nat} {p : Int} {d : D}
theorem mkD_succ : mkD X V (t + 1) = mkD X V t ++ [(Sum.inl (X t), .int (V t))] := by
  unfold mkD
  rw [List.range_succ, List.map_append]
  rfl
theorem mkD_len : (mkD X V t).length = t := by
  unfold mkD
  rw [List.length_map, List.length_range]
theorem valM_mem {κ α : Type} [DecidableEq κ] {m : List (κ × α)} {k : κ} {d : α} : valM m k = some d → (k, d) ∈ m := by
  induction m with
  | nil => intro h; cases h
  | cons q m ih =>
    intro h
    rw [valM_cons] at h
    split at h
    · rename_i hq
      cases h
      subst hq
      exact List.mem_cons_self
    · exact List.mem_cons_of_mem _ (ih h)
theorem mkD_some (h : valM (mkD X V t) (Sum.inl p) = some d) : ∃ j : Nat, j < t ∧ X j = p ∧ d = .int (V j) := by
  have := valM_mem h
  unfold mkD at this
  obtain ⟨j, hj, e⟩ := List.mem_map.mp this
  cases e
  exact ⟨j, List.mem_range.mp hj, rfl, rfl⟩
theorem mkD_none (h : valM (mkD X V t) (Sum.inl p) = none) : ∀ j : Nat, j < t → X j ≠ p := fun j hj e => by
  refine valM_none_mem.mp h (Sum.inl (X j), .int (V j)) ?_ (by rw [e])
  unfold mkD
  exact List.mem_map.mpr ⟨j, List.mem_range.mpr hj, rfl⟩
theorem mkD_put (h : valM (mkD X V t) (Sum.inl (X t)) = none) : putM (mkD X V t) (Sum.inl (X t)) (.int (V t)) = mkD X V (t + 1) := by
  rw [putM_new h, mkD_succ]
theorem rng_nodup (nd : ((List.range t).map X).Nodup) (h : ∀ j : Nat, j < t → X j ≠ X t) : ((List.range (t + 1)).map X).Nodup := by
  rw [List.range_succ, List.map_append]
  refine List.nodup_append.mpr ⟨nd, by simp, fun a ha b hb e => ?_⟩
  obtain ⟨j, hj, rfl⟩ := List.mem_map.mp ha
  simp at hb
  exact h j (List.mem_range.mp hj) (e.trans hb)
theorem rng_len {N : Nat} (nd : ((List.range t).map X).Nodup) (h : ∀ j : Nat, j < t → 1 ≤ X j ∧ X j ≤ (N : Int)) : t ≤ N := by
  have := nodup_bd N _ nd fun x hx => by
    obtain ⟨j, hj, rfl⟩ := List.mem_map.mp hx
    exact h j (List.mem_range.mp hj)
  rwa [List.length_map, List.length_range] at this
end
theorem rg_mid {a b x : Int} {pre post : List Int} (h : rg a b = pre ++ x :: post) : x = a + pre.length ∧ a + (pre.length : Int) < b := by
  have hl := congrArg List.length h
  rw [rg_length, List.length_append, List.length_cons] at hl
  have lt : a + (pre.length : Int) < b := by omega
  have e := rg_at lt
  rw [h, List.getElem?_append_right (Nat.le_refl _), Nat.sub_self] at e
  simp at e
  exact ⟨e, lt⟩
-- for: undo redo _law_ps_done
/-! ### taken back, from behind and from ahead -/
def Surj (e : Int × List Int) : Prop := ∀ s, 1 ≤ s → ∃ r, 1 ≤ r ∧ fromE e r = s
def Inj (e : Int × List Int) : Prop := ∀ r r', 1 ≤ r → 1 ≤ r' → fromE e r = fromE e r' → r = r'
section
variable {e : Int × List Int}
theorem lo14 (ef : Eff e) {r : Int} (h1 : 1 ≤ r) (h : r ≤ (e.2.length : Int)) : fromE e r = e.2.getD (r - 1).toNat 0 ∧ 1 ≤ fromE e r ∧ fromE e r ≤ e.1 := by
  have hm : e.2.getD (r - 1).toNat 0 ∈ e.2 := by
    rw [List.getD_eq_getElem?_getD, List.getElem?_eq_getElem (by omega)]
    exact List.getElem_mem _
  have eq : fromE e r = e.2.getD (r - 1).toNat 0 := by
    unfold fromE
    rw [if_pos h]
  rw [eq]
  exact ⟨rfl, ef.ge _ hm, ef.le _ hm⟩
theorem hi14 {r : Int} (h : (e.2.length : Int) < r) : fromE e r = r + (e.1 - e.2.length) := by
  unfold fromE
  rw [if_neg (by omega)]
  omega
theorem lost_surj (ef : Eff e) : lostE e = [] ↔ Surj e := by
  unfold lostE
  rw [List.filter_eq_nil_iff]
  constructor
  · intro h s hs
    by_cases c : s ≤ e.1
    · have := h s (mem_rg.mpr ⟨hs, by omega⟩)
      have hm : s ∈ e.2 := by simpa using this
      obtain ⟨i, hi, eq⟩ := List.getElem_of_mem hm
      refine ⟨(i : Int) + 1, by omega, ?_⟩
      rw [(lo14 ef (by omega) (by omega)).1, List.getD_eq_getElem?_getD, show ((i : Int) + 1 - 1).toNat = i by omega, List.getElem?_eq_getElem hi]
      exact eq
    · exact ⟨s - (e.1 - e.2.length), by omega, by rw [hi14 (by omega)]; omega⟩
  · intro h s hs
    have hs := mem_rg.mp hs
    obtain ⟨r, h1, h2⟩ := h s hs.1
    by_cases c : r ≤ (e.2.length : Int)
    · have := (lo14 ef h1 c).1
      have hm : s ∈ e.2 := by
        rw [← h2, this, List.getD_eq_getElem?_getD, List.getElem?_eq_getElem (by omega)]
        exact List.getElem_mem _
      simpa using hm
    · rw [hi14 (by omega)] at h2
      omega
theorem nodup_inj (ef : Eff e) : e.2.Nodup ↔ Inj e := by
  constructor
  · intro nd r r' h1 h2 h
    have nd := List.pairwise_iff_getElem.mp nd
    by_cases c : r ≤ (e.2.length : Int)
    · by_cases c' : r' ≤ (e.2.length : Int)
      · rw [(lo14 ef h1 c).1, (lo14 ef h2 c').1, List.getD_eq_getElem?_getD, List.getD_eq_getElem?_getD, List.getElem?_eq_getElem (by omega), List.getElem?_eq_getElem (by omega)] at h
        simp only [Option.getD_some] at h
        rcases Int.lt_trichotomy r r' with q | q | q
        · exact absurd h (nd _ _ (by omega) (by omega) (by omega))
        · exact q
        · exact absurd h.symm (nd _ _ (by omega) (by omega) (by omega))
      · have a := (lo14 ef h1 c).2
        rw [hi14 (e := e) (r := r') (by omega)] at h
        omega
    · by_cases c' : r' ≤ (e.2.length : Int)
      · have a := (lo14 ef h2 c').2
        rw [hi14 (e := e) (r := r) (by omega)] at h
        omega
      · rw [hi14 (by omega), hi14 (by omega)] at h
        omega
  · intro inj
    refine List.pairwise_iff_getElem.mpr fun i j hi hj hij h => ?_
    have a := (lo14 ef (r := (i : Int) + 1) (by omega) (by omega)).1
    have b := (lo14 ef (r := (j : Int) + 1) (by omega) (by omega)).1
    rw [List.getD_eq_getElem?_getD, show ((i : Int) + 1 - 1).toNat = i by omega, List.getElem?_eq_getElem hi] at a
    rw [List.getD_eq_getElem?_getD, show ((j : Int) + 1 - 1).toNat = j by omega, List.getElem?_eq_getElem hj] at b
    have := inj ((i : Int) + 1) ((j : Int) + 1) (by omega) (by omega) (by rw [a, b]; simpa using h)
    omega
theorem cop_nodup (ef : Eff e) : copE e = [] ↔ e.2.Nodup := by
  unfold copE
  rw [List.filter_eq_nil_iff, List.nodup_iff_count]
  constructor
  · intro h s
    by_cases c : s ∈ e.2
    · have := h s (mem_rg.mpr ⟨ef.ge s c, by have := ef.le s c; omega⟩)
      simpa using this
    · rw [List.count_eq_zero.mpr c]
      omega
  · intro h s _
    simpa using h s
/-- so many unlike places -/
theorem set_lost (ef : Eff e) {out : List Int} (nd : out.Nodup) (hm : ∀ k, k ∈ out ↔ k ∈ e.2) : (out.length : Int) < e.1 ↔ lostE e ≠ [] := by
  have n0 := ef.nn
  constructor
  · intro h hl
    have all : ∀ r ∈ rg 1 (e.1 + 1), r ∈ out := fun r hr => by
      unfold lostE at hl
      rw [List.filter_eq_nil_iff] at hl
      have := hl r hr
      exact (hm r).mpr (by simpa using this)
    have h1 := (rg_nodup 1 (e.1 + 1)).length_le_of_subset all
    rw [rg_length] at h1
    omega
  · intro hl
    obtain ⟨r, hr⟩ := List.exists_mem_of_ne_nil _ hl
    unfold lostE at hr
    obtain ⟨h1, h2⟩ := List.mem_filter.mp hr
    have h1 := mem_rg.mp h1
    have nd2 : (r :: out).Nodup := List.nodup_cons.mpr ⟨fun z => by simp [(hm r).mp z] at h2, nd⟩
    have := nodup_bd e.1.toNat _ nd2 fun x hx => by
      rcases List.mem_cons.mp hx with rfl | hx
      · exact ⟨h1.1, by omega⟩
      · have := (hm x).mp hx
        have a := ef.ge x this
        have b := ef.le x this
        exact ⟨a, by omega⟩
    rw [List.length_cons] at this
    omega
theorem set_nodup {out : List Int} (nd : out.Nodup) (hm : ∀ k, k ∈ out ↔ k ∈ e.2) : out.length < e.2.length ↔ ¬ e.2.Nodup := by
  constructor
  · intro h hn
    have := ((List.perm_ext_iff_of_nodup nd hn).mpr hm).length_eq
    omega
  · intro h
    obtain ⟨x, hx⟩ : ∃ x, 1 < e.2.count x := by
      apply Classical.byContradiction
      intro no
      exact h (List.nodup_iff_count.mpr fun a => by
        apply Classical.byContradiction
        intro na
        exact no ⟨a, by omega⟩)
    have hxm : x ∈ e.2 := List.count_pos_iff.mp (by omega)
    have sub : ∀ k ∈ out, k ∈ e.2.erase x := fun k hk => by
      by_cases q : k = x
      · subst q
        refine List.count_pos_iff.mp ?_
        rw [List.count_erase_self]
        omega
      · exact (List.mem_erase_of_ne q).mpr ((hm k).mp hk)
    have := nd.length_le_of_subset sub
    rw [List.length_erase_of_mem hxm] at this
    have := List.length_pos_of_mem hxm
    omega
end
/-! ### undo -/
def zU (gs : List Int) (sh : Nat) : Nat → Nat
  | 0 => 0
  | k + 1 => if gs[k + sh]? = some ((k : Int) + 1) then zU gs sh k else k + 1
def ixs (gs : List Int) (z : Nat) : List Int := (rg 1 ((z : Int) + 1)).map fun s => (gs.idxOf s : Int) + 1
def undoE (e : Int × List Int) : Int × List Int := ((zU e.2 (e.2.length - e.1.toNat) e.1.toNat : Int) + (e.2.length - e.1), ixs e.2 (zU e.2 (e.2.length - e.1.toNat) e.1.toNat))
def undoD (e : Int × List Int) : D := if lostE e = [] then dE (undoE e) else .none
theorem zU_le (gs : List Int) (sh : Nat) : ∀ k, zU gs sh k ≤ k
  | 0 => Nat.le_refl _
  | k + 1 => by
    unfold zU
    split
    · exact Nat.le_succ_of_le (zU_le gs sh k)
    · exact Nat.le_refl _
theorem zU_up (gs : List Int) (sh : Nat) : ∀ k j, zU gs sh k ≤ j → j < k → gs[j + sh]? = some ((j : Int) + 1)
  | 0, j, _, h => absurd h (by omega)
  | k + 1, j, h1, h2 => by
    unfold zU at h1
    split at h1
    · rename_i q
      by_cases c : j < k
      · exact zU_up gs sh k j h1 c
      · rw [show j = k by omega]
        exact q
    · omega
theorem ixs_len {gs : List Int} {z : Nat} : (ixs gs z).length = z := by
  unfold ixs
  rw [List.length_map, rg_length]
  omega
theorem ixs_at {gs : List Int} {z : Nat} {s : Int} (h1 : 1 ≤ s) (h2 : s ≤ z) : (ixs gs z).getD (s - 1).toNat 0 = (gs.idxOf s : Int) + 1 := by
  unfold ixs
  rw [List.getD_eq_getElem?_getD, List.getElem?_map, rg_at (by omega)]
  simp only [Option.map_some, Option.getD_some]
  rw [show 1 + (((s - 1).toNat : Nat) : Int) = s by omega]
section
variable {e : Int × List Int}
theorem idx_le14 {gs : List Int} {s : Int} {i : Nat} (h : gs[i]? = some s) : gs.idxOf s ≤ i := by
  apply Classical.byContradiction
  intro no
  exact idxOf_min gs s i (by omega) h
theorem mem_of_lost (hl : lostE e = []) {s : Int} (h1 : 1 ≤ s) (h2 : s ≤ e.1) : s ∈ e.2 := by
  unfold lostE at hl
  rw [List.filter_eq_nil_iff] at hl
  have := hl s (mem_rg.mpr ⟨h1, by omega⟩)
  simpa using this
theorem len_of_lost (ef : Eff e) (hl : lostE e = []) : e.1 ≤ e.2.length := by
  have n0 := ef.nn
  have := (rg_nodup 1 (e.1 + 1)).length_le_of_subset fun r hr => mem_of_lost hl (mem_rg.mp hr).1 (by have := (mem_rg.mp hr).2; omega)
  rw [rg_length] at this
  omega
theorem undo_ok (ef : Eff e) (hl : lostE e = []) : Eff (undoE e) ∧ (∀ r, 1 ≤ r → fromE e (fromE (undoE e) r) = r) ∧ (undoE e).1 ≤ e.2.length ∧ (undoE e).2.length ≤ e.1.toNat := by
  have n0 := ef.nn
  have hle := len_of_lost ef hl
  obtain ⟨z, hz⟩ : ∃ z, zU e.2 (e.2.length - e.1.toNat) e.1.toNat = z := ⟨_, rfl⟩
  have zl := zU_le e.2 (e.2.length - e.1.toNat) e.1.toNat
  have zu := zU_up e.2 (e.2.length - e.1.toNat) e.1.toNat
  rw [hz] at zl zu
  have hu : undoE e = ((z : Int) + (e.2.length - e.1), ixs e.2 z) := by unfold undoE; rw [hz]
  rw [hu]
  -- the first place of a thing that is not straight
  have ix : ∀ s : Int, 1 ≤ s → s ≤ z → e.2.idxOf s < e.2.length ∧ e.2[e.2.idxOf s]? = some s ∧ (e.2.idxOf s : Int) + 1 ≤ z + (e.2.length - e.1) := fun s h1 h2 => by
    have hm := mem_of_lost hl h1 (show s ≤ e.1 by omega)
    have lt := List.idxOf_lt_length_of_mem hm
    have at_ : e.2[e.2.idxOf s]? = some s := by rw [List.getElem?_eq_getElem lt, List.getElem_idxOf lt]
    refine ⟨lt, at_, ?_⟩
    apply Classical.byContradiction
    intro no
    have := zu (e.2.idxOf s - (e.2.length - e.1.toNat)) (by omega) (by omega)
    rw [show e.2.idxOf s - (e.2.length - e.1.toNat) + (e.2.length - e.1.toNat) = e.2.idxOf s by omega, at_] at this
    have := Option.some.inj this
    omega
  refine ⟨⟨by dsimp only; omega, fun x hx => ?_, fun x hx => ?_⟩, fun r hr => ?_, by dsimp only; omega, by dsimp only; rw [ixs_len]; exact zl⟩
  · obtain ⟨s, hs, rfl⟩ := List.mem_map.mp hx
    omega
  · obtain ⟨s, hs, rfl⟩ := List.mem_map.mp hx
    have hs := mem_rg.mp hs
    exact (ix s hs.1 (by omega)).2.2
  · by_cases c : r ≤ z
    · have e1 : fromE ((z : Int) + (e.2.length - e.1), ixs e.2 z) r = (e.2.idxOf r : Int) + 1 := by
        unfold fromE
        dsimp only
        rw [if_pos (by rw [ixs_len]; exact c), ixs_at hr c]
      obtain ⟨h1, h2, h3⟩ := ix r hr c
      rw [e1, (lo14 ef (by omega) (by omega)).1, List.getD_eq_getElem?_getD, show ((e.2.idxOf r : Int) + 1 - 1).toNat = e.2.idxOf r by omega, h2]
      rfl
    · have e1 : fromE ((z : Int) + (e.2.length - e.1), ixs e.2 z) r = r + (e.2.length - e.1) := by
        unfold fromE
        dsimp only
        rw [if_neg (by rw [ixs_len]; omega), ixs_len]
        omega
      rw [e1]
      by_cases d : r ≤ e.1
      · have := zu (r - 1).toNat (by omega) (by omega)
        rw [(lo14 ef (by omega) (by omega)).1, List.getD_eq_getElem?_getD, show (r + ((e.2.length : Int) - e.1) - 1).toNat = (r - 1).toNat + (e.2.length - e.1.toNat) by omega, this]
        simp
        omega
      · rw [hi14 (by omega)]
        omega
/-! ### redo -/
def redoE (e : Int × List Int) : Int × List Int := if e.2 = [] then (if e.1 = 0 then (0, []) else (1, List.replicate (e.1.toNat + 1) 1)) else (e.2.length, (rg 1 (e.1 + 1)).map fun s => if s ∈ e.2 then (e.2.idxOf s : Int) + 1 else 1)
def redoD (e : Int × List Int) : D := if e.2.Nodup then dE (redoE e) else .none
theorem redo_ok (ef : Eff e) (hn : e.2.Nodup) : Eff (redoE e) ∧ (∀ r, 1 ≤ r → fromE (redoE e) (fromE e r) = r) ∧ (redoE e).1 ≤ e.2.length + 1 ∧ (redoE e).2.length ≤ e.1.toNat + 1 := by
  have n0 := ef.nn
  obtain ⟨n, gs⟩ := e
  dsimp only at n0 hn
  unfold redoE
  dsimp only
  by_cases c : gs = []
  · subst c
    rw [if_pos rfl]
    have fr : ∀ r : Int, 1 ≤ r → fromE (n, []) r = r + n := fun r hr => by rw [hi14 (e := (n, [])) (by simp; omega)]; simp
    by_cases d : n = 0
    · subst d
      rw [if_pos rfl]
      refine ⟨eff0, fun r hr => ?_, by simp, by simp⟩
      rw [fr r hr, from0 (by omega)]
      omega
    · rw [if_neg d]
      refine ⟨⟨show (0 : Int) ≤ 1 by decide, fun x hx => by rw [List.eq_of_mem_replicate hx]; decide, fun x hx => by rw [List.eq_of_mem_replicate hx]; exact Int.le_refl 1⟩, fun r hr => ?_, by simp, by simp⟩
      rw [fr r hr]
      by_cases q : r + n ≤ ((List.replicate (n.toNat + 1) (1 : Int)).length : Nat)
      · have hlr : (List.replicate (n.toNat + 1) (1 : Int)).length = n.toNat + 1 := List.length_replicate
        rw [hlr] at q
        have : r = 1 := by omega
        subst this
        unfold fromE
        dsimp only
        rw [if_pos (by rw [hlr]; omega), List.getD_eq_getElem?_getD, List.getElem?_replicate, if_pos (by omega)]
        rfl
      · rw [hi14 (by dsimp only; omega)]
        dsimp only
        rw [List.length_replicate]
        omega
  · rw [if_neg c]
    have lr := rg_length 1 (n + 1)
    have idx : ∀ s ∈ gs, gs.idxOf s < gs.length ∧ gs[gs.idxOf s]? = some s := fun s hs => by
      have lt := List.idxOf_lt_length_of_mem hs
      exact ⟨lt, by rw [List.getElem?_eq_getElem lt, List.getElem_idxOf lt]⟩
    have lp : 0 < gs.length := List.length_pos_iff.mpr c
    refine ⟨⟨by dsimp only; omega, fun x hx => ?_, fun x hx => ?_⟩, fun r hr => ?_, by dsimp only; omega, by dsimp only; rw [List.length_map, lr]; omega⟩
    · obtain ⟨s, hs, rfl⟩ := List.mem_map.mp hx
      split <;> omega
    · obtain ⟨s, hs, rfl⟩ := List.mem_map.mp hx
      dsimp only
      split
      · rename_i hm
        have := (idx s hm).1
        omega
      · omega
    · by_cases q : r ≤ (gs.length : Int)
      · obtain ⟨h1, h2, h3⟩ := lo14 ef hr q
        obtain ⟨s, hs⟩ : ∃ s, fromE (n, gs) r = s := ⟨_, rfl⟩
        rw [hs] at h1 h2 h3 ⊢
        dsimp only at h1 h3
        have hat : gs[(r - 1).toNat]? = some s := by
          rw [List.getD_eq_getElem?_getD, List.getElem?_eq_getElem (by omega)] at h1
          rw [List.getElem?_eq_getElem (by omega)]
          rw [h1]
          rfl
        have hm : s ∈ gs := List.mem_of_getElem? hat
        unfold fromE
        dsimp only
        rw [if_pos (by rw [List.length_map, lr]; omega), List.getD_eq_getElem?_getD, List.getElem?_map, rg_at (by omega)]
        simp only [Option.map_some, Option.getD_some]
        rw [show 1 + (((s - 1).toNat : Nat) : Int) = s by omega, if_pos hm]
        obtain ⟨g1, g2⟩ := idx s hm
        have nd := List.pairwise_iff_getElem.mp hn
        have : gs.idxOf s = (r - 1).toNat := by
          have hi : gs.idxOf s ≤ (r - 1).toNat := idx_le14 hat
          apply Classical.byContradiction
          intro no
          have e1 := (List.getElem?_eq_some_iff.mp g2).2
          have e2 := (List.getElem?_eq_some_iff.mp hat).2
          exact nd (gs.idxOf s) (r - 1).toNat g1 (by omega) (by omega) (e1.trans e2.symm)
        omega
      · rw [hi14 (e := (n, gs)) (by dsimp only; omega), hi14 (by dsimp only; rw [List.length_map, lr]; omega)]
        dsimp only
        rw [List.length_map, lr]
        omega
end
-- for: _law_ps_one_right _law_ps_done _law_ps_redo_due
/-! ### undo and redo hang together -/
section
variable {e f g : Int × List Int}
/-- nothing is done -/
def IdP (a b : Int × List Int) : Prop := ∀ r, 1 ≤ r → fromE a (fromE b r) = r
theorem join_id (ha : Eff e) (hb : Eff f) : joinE e f = (0, []) ↔ IdP e f := by
  constructor
  · intro h r hr
    rw [← from_join hb hr, h, from0 hr]
  · intro h
    exact canon (join_eff ha hb) eff0 join_lst lst0 fun r hr => by rw [from_join hb hr, h r hr, from0 hr]
theorem surj_of_id (hb : Eff f) (h : IdP e f) : Surj e := fun s hs => ⟨fromE f s, from_ge hb hs, h s hs⟩
theorem inj_of_id (h : IdP e f) : Inj f := fun r r' h1 h2 eq => by rw [← h r h1, ← h r' h2, eq]
theorem from_lst {n r : Int} {gs : List Int} (hr : 1 ≤ r) : fromE (leastE n gs) r = fromE (n, gs) r := from_least hr
theorem surj_least {n : Int} {gs : List Int} : Surj (leastE n gs) ↔ Surj (n, gs) :=
  ⟨fun h s hs => let ⟨r, h1, h2⟩ := h s hs; ⟨r, h1, by rw [← from_least h1]; exact h2⟩, fun h s hs => let ⟨r, h1, h2⟩ := h s hs; ⟨r, h1, by rw [from_least h1]; exact h2⟩⟩
theorem inj_least {n : Int} {gs : List Int} : Inj (leastE n gs) ↔ Inj (n, gs) :=
  ⟨fun h r r' h1 h2 q => h r r' h1 h2 (by rw [from_least h1, from_least h2]; exact q), fun h r r' h1 h2 q => h r r' h1 h2 (by rw [← from_least (n := n) (gs := gs) h1, ← from_least (n := n) (gs := gs) h2]; exact q)⟩
theorem surj_join (ha : Eff e) (hb : Eff f) (h : Surj (joinE e f)) : Surj e := fun s hs => by
  obtain ⟨r, h1, h2⟩ := h s hs
  rw [from_join hb h1] at h2
  exact ⟨_, from_ge hb h1, h2⟩
theorem surj_comp (ha : Eff e) (hb : Eff f) (h : Surj e) (k : Surj f) : Surj (joinE e f) := fun s hs => by
  obtain ⟨r, h1, h2⟩ := h s hs
  obtain ⟨t, t1, t2⟩ := k r h1
  exact ⟨t, t1, by rw [from_join hb t1, t2, h2]⟩
theorem inj_join (ha : Eff e) (hb : Eff f) (h : Inj (joinE e f)) : Inj f := fun r r' h1 h2 q => h r r' h1 h2 (by rw [from_join hb h1, from_join hb h2, q])
theorem inj_comp (ha : Eff e) (hb : Eff f) (h : Inj e) (k : Inj f) : Inj (joinE e f) := fun r r' h1 h2 q => by
  rw [from_join hb h1, from_join hb h2] at q
  exact k r r' h1 h2 (h _ _ (from_ge hb h1) (from_ge hb h2) q)
theorem from_least2 {n r : Int} {gs : List Int} (hr : 1 ≤ r) : fromE (leastE n gs) r = fromE (n, gs) r := from_least hr
theorem id_least {n m : Int} {gs hs : List Int} (hb : Eff (m, hs)) : IdP (leastE n gs) (leastE m hs) ↔ IdP (n, gs) (m, hs) := by
  constructor
  · intro h r hr
    have := h r hr
    rw [from_least hr, from_least (from_ge hb hr)] at this
    exact this
  · intro h r hr
    have := h r hr
    rw [from_least hr, from_least (from_ge hb hr)]
    exact this
theorem from_underE (ef : Eff e) {c r : Int} (c0 : 0 ≤ c) (hr : 1 ≤ r) : fromE (underE e c) r = if r ≤ c then r else fromE e (r - c) + c := by
  have n0 := ef.nn
  unfold underE
  by_cases z : e.1 = 0
  · have g0 : e.2 = [] := by
      cases h : e.2 with
      | nil => rfl
      | cons x l =>
        have a := ef.ge x (by rw [h]; simp)
        have b := ef.le x (by rw [h]; simp)
        omega
    rw [if_pos z, from0 hr]
    split
    · rfl
    · rw [hi14 (by rw [g0]; simp; omega), g0, z]
      simp
  · rw [if_neg z]
    have lr := rg_length 1 (c + 1)
    unfold fromE
    dsimp only
    rw [List.length_append, List.length_map, lr]
    by_cases q : r ≤ c
    · rw [if_pos (by omega), if_pos q, List.getD_eq_getElem?_getD, List.getElem?_append_left (by omega), rg_at (by omega)]
      simp
      omega
    · rw [if_neg q]
      by_cases d : r - c ≤ (e.2.length : Int)
      · rw [if_pos (by omega), if_pos d, List.getD_eq_getElem?_getD, List.getElem?_append_right (by omega), List.getElem?_map, lr, show (r - 1).toNat - (c + 1 - 1).toNat = (r - c - 1).toNat by omega, List.getElem?_eq_getElem (by omega), List.getD_eq_getElem?_getD, List.getElem?_eq_getElem (by omega)]
        rfl
      · rw [if_neg (by omega), if_neg d]
        omega
theorem id_under (he : Eff e) (hf : Eff f) (h : IdP e f) {c : Int} (c0 : 0 ≤ c) : IdP (underE e c) (underE f c) := fun r hr => by
  rw [from_underE hf c0 hr]
  split
  · rename_i q
    rw [from_underE he c0 hr, if_pos q]
  · rename_i q
    have := from_ge hf (show 1 ≤ r - c by omega)
    rw [from_underE he c0 (by omega), if_neg (by omega), show fromE f (r - c) + c - c = fromE f (r - c) by omega, h _ (by omega)]
    omega
/-- of an effect with both: they are one, in its least way -/
theorem both_ok (ef : Eff e) (lf : Lst e) (hl : lostE e = []) (hn : e.2.Nodup) : undoE e = redoE e ∧ Lst (undoE e) ∧ e.1 = e.2.length := by
  have n0 := ef.nn
  obtain ⟨n, gs⟩ := e
  dsimp only at n0 hn
  have hle : n ≤ gs.length := len_of_lost ef hl
  have hge : (gs.length : Int) ≤ n := by
    have := nodup_bd n.toNat gs hn fun x hx => by
      have a := ef.ge x hx
      have b : x ≤ n := ef.le x hx
      exact ⟨a, by omega⟩
    omega
  have hnn : n = gs.length := by omega
  have sh : gs.length - n.toNat = 0 := by omega
  -- it is not straight at the end
  have zz : zU gs 0 n.toNat = n.toNat := by
    cases h : n.toNat with
    | zero => rfl
    | succ k =>
      unfold zU
      rw [if_neg]
      intro q
      rw [Nat.add_zero] at q
      have tr : trim gs gs.length n = trim gs k (n - 1) := by
        have cond : gs[k]? = some n ∧ ∀ x ∈ gs.take k, x < n := by
          refine ⟨by rw [q]; congr 1; omega, fun x hx => ?_⟩
          obtain ⟨i, hi, eq⟩ := List.getElem_of_mem hx
          rw [List.length_take] at hi
          rw [List.getElem_take] at eq
          have b : x ≤ n := ef.le x (by rw [← eq]; exact List.getElem_mem _)
          have : x ≠ n := fun z => by
            have nd := List.pairwise_iff_getElem.mp hn i k (by omega) (by omega) (by omega)
            have e2 := (List.getElem?_eq_some_iff.mp q).2
            exact nd (by rw [eq, e2]; omega)
          omega
        rw [show gs.length = k + 1 by omega]
        show (if gs[k]? = some n ∧ (∀ x ∈ gs.take k, x < n) then trim gs k (n - 1) else (k + 1, n)) = _
        rw [if_pos cond]
      have le := trim_le gs k (n - 1)
      have : (leastE n gs).2 = gs := congrArg Prod.snd (show leastE n gs = (n, gs) from lf)
      unfold leastE at this
      rw [tr] at this
      have := congrArg List.length this
      rw [List.length_take] at this
      omega
  have u : undoE (n, gs) = (n, ixs gs n.toNat) := by
    unfold undoE
    dsimp only
    rw [sh, zz]
    congr 1
    omega
  refine ⟨?_, ?_, hnn⟩
  · rw [u]
    unfold redoE ixs
    dsimp only
    rw [show ((n.toNat : Nat) : Int) = n by omega]
    by_cases c : gs = []
    · subst c
      rw [if_pos rfl, if_pos (by simpa using hnn)]
      have : n = 0 := by simpa using hnn
      subst this
      rfl
    · rw [if_neg c, ← hnn]
      congr 1
      refine List.map_congr_left fun s hs => ?_
      have hs := mem_rg.mp hs
      rw [if_pos (mem_of_lost hl hs.1 (show s ≤ n by omega))]
  · rw [u]
    show leastE n (ixs gs n.toNat) = _
    unfold leastE
    have li : (ixs gs n.toNat).length = n.toNat := ixs_len
    have tr : trim (ixs gs n.toNat) n.toNat n = (n.toNat, n) := by
      cases h : n.toNat with
      | zero => unfold trim; rfl
      | succ k =>
        have cond : ¬((ixs gs (k + 1))[k]? = some n ∧ ∀ x ∈ (ixs gs (k + 1)).take k, x < n) := by
          rintro ⟨q, _⟩
          have at_ := ixs_at (gs := gs) (z := k + 1) (s := n) (by omega) (by omega)
          rw [List.getD_eq_getElem?_getD, show (n - 1).toNat = k by omega, q] at at_
          simp only [Option.getD_some] at at_
          have hm := mem_of_lost hl (show 1 ≤ n by omega) (show n ≤ n by omega)
          have lt := List.idxOf_lt_length_of_mem hm
          have g := List.getElem_idxOf lt
          have zu := zz
          rw [h] at zu
          unfold zU at zu
          have : gs[k + 0]? = some ((k : Int) + 1) := by
            rw [Nat.add_zero, List.getElem?_eq_getElem (by omega)]
            congr 1
            have e1 : gs.idxOf n = k := by omega
            have e2 : gs[k]? = some n := by rw [← e1, List.getElem?_eq_getElem lt, g]
            have := (List.getElem?_eq_some_iff.mp e2).2
            rw [this]
            omega
          rw [if_pos this] at zu
          have := zU_le gs 0 k
          omega
        unfold trim
        rw [if_neg cond]
    rw [li, tr]
    dsimp only
    rw [List.take_of_length_le (by omega)]
end
abbrev lk (e : Int × List Int) : Int × List Int := leastE e.1 e.2
theorem lk_eff {e : Int × List Int} (h : Eff e) : Eff (lk e) := (leastE_ok (n := e.1) (gs := e.2) h).eff
theorem lk_lst {e : Int × List Int} (h : Eff e) : Lst (lk e) := (leastE_ok (n := e.1) (gs := e.2) h).lst
theorem lk_bd {e : Int × List Int} (h : Eff e) : (lk e).1 ≤ e.1 ∧ (lk e).2.length ≤ e.2.length := ⟨(leastE_ok (n := e.1) (gs := e.2) h).le, (leastE_ok (n := e.1) (gs := e.2) h).len⟩
theorem lk_from {e : Int × List Int} {r : Int} (hr : 1 ≤ r) : fromE (lk e) r = fromE e r := from_least (n := e.1) (gs := e.2) hr
theorem lk_id {e f : Int × List Int} (hb : Eff f) (h : IdP e f) : IdP (lk e) (lk f) := (id_least (n := e.1) (gs := e.2) (m := f.1) (hs := f.2) hb).mpr h
theorem lk_surj {e : Int × List Int} : Surj (lk e) ↔ Surj e := surj_least (n := e.1) (gs := e.2)
theorem lk_inj {e : Int × List Int} : Inj (lk e) ↔ Inj e := inj_least (n := e.1) (gs := e.2)
theorem undo_cases {e : Int × List Int} (ef : Eff e) : (Surj e ∧ undoD e = dE (undoE e) ∧ Eff (undoE e) ∧ IdP e (undoE e) ∧ (undoE e).1 ≤ e.2.length ∧ (undoE e).2.length ≤ e.1.toNat) ∨ (¬ Surj e ∧ undoD e = .none) := by
  by_cases h : lostE e = []
  · obtain ⟨a, b, c, d⟩ := undo_ok ef h
    exact .inl ⟨(lost_surj ef).mp h, by unfold undoD; rw [if_pos h], a, b, c, d⟩
  · exact .inr ⟨fun z => h ((lost_surj ef).mpr z), by unfold undoD; rw [if_neg h]⟩
theorem redo_cases {e : Int × List Int} (ef : Eff e) : (Inj e ∧ redoD e = dE (redoE e) ∧ Eff (redoE e) ∧ IdP (redoE e) e ∧ (redoE e).1 ≤ e.2.length + 1 ∧ (redoE e).2.length ≤ e.1.toNat + 1) ∨ (¬ Inj e ∧ redoD e = .none) := by
  by_cases h : e.2.Nodup
  · obtain ⟨a, b, c, d⟩ := redo_ok ef h
    exact .inl ⟨(nodup_inj ef).mp h, by unfold redoD; rw [if_pos h], a, b, c, d⟩
  · exact .inr ⟨fun z => h ((nodup_inj ef).mpr z), by unfold redoD; rw [if_neg h]⟩
theorem id_joins {a b c d : Int × List Int} (hb : Eff b) (hc : Eff c) (hd : Eff d) (h1 : IdP a d) (h2 : IdP b c) : IdP (joinE a b) (joinE c d) := fun r hr => by
  have := from_ge hd hr
  rw [from_join hd hr, from_join hb (from_ge hc this), h2 _ this, h1 r hr]
theorem eqv_id (e : Int × List Int) : PyData.eqv (dE e) (.tuple [.int 0, .list []]) = decide (e = (0, [])) := eqv_dE e (0, [])
theorem eqv_id' (a : Int) (l : List Int) : PyData.eqv (.tuple [.int a, .list (l.map PyData.int)]) (.tuple [.int 0, .list []]) = decide ((a, l) = (0, [])) := eqv_dE (a, l) (0, [])
theorem sh_id : SeqAt.shaped (.tuple [.int 0, .list []]) = true := shaped_dE (0, [])
theorem lay_one {e : Int × List Int} : PyData.canLay0 (dE e) = true := SeqAt.canLay_of_shaped (shaped_dE e)
theorem tame_none : tame .none := ⟨rfl, by decide⟩
theorem lay_nn : PyData.canLayAll0 [.none, .none] = true := rfl
theorem lay_ne {e : Int × List Int} : PyData.canLayAll0 [.none, dE e] = true := by
  rw [PyData.canLayAll0, PyData.canLayAll0, lay_one]
  rfl
theorem lay_en {e : Int × List Int} : PyData.canLayAll0 [dE e, .none] = true := by
  rw [PyData.canLayAll0, lay_one]
  rfl
theorem lay_ee {e f : Int × List Int} : PyData.canLayAll0 [dE e, dE f] = true := by
  rw [PyData.canLayAll0, PyData.canLayAll0, lay_one, lay_one]
  rfl
theorem any_nn : ([.none, .none] : List D).any (fun e => PyData.eqv e .none) = true := rfl
theorem any_ne {e : Int × List Int} : ([.none, dE e] : List D).any (fun e => PyData.eqv e .none) = true := rfl
theorem any_en {e : Int × List Int} : ([dE e, .none] : List D).any (fun e => PyData.eqv e .none) = true := rfl
theorem any_ee {e f : Int × List Int} : ([dE e, dE f] : List D).any (fun e => PyData.eqv e .none) = false := rfl
/-- both, or not: what stands in such a list -/
def TwoD (P Q : Prop) (a b : Int × List Int) (x y : D) : Prop := (P ∧ Q ∧ x = dE a ∧ y = dE b) ∨ (¬ (P ∧ Q) ∧ PyData.canLayAll0 [x, y] = true ∧ ([x, y] : List D).any (fun e => PyData.eqv e .none) = true)
theorem two_undo {f g : Int × List Int} (F : Eff f) (G : Eff g) : TwoD (Surj f) (Surj g) (undoE f) (undoE g) (undoD f) (undoD g) := by
  rcases undo_cases F with ⟨a, b, _⟩ | ⟨a, b⟩ <;> rcases undo_cases G with ⟨c, d, _⟩ | ⟨c, d⟩ <;> rw [b, d]
  · exact .inl ⟨a, c, rfl, rfl⟩
  · exact .inr ⟨fun z => c z.2, lay_en, any_en⟩
  · exact .inr ⟨fun z => a z.1, lay_ne, any_ne⟩
  · exact .inr ⟨fun z => a z.1, lay_nn, any_nn⟩
theorem two_redo {f g : Int × List Int} (F : Eff f) (G : Eff g) : TwoD (Inj f) (Inj g) (redoE f) (redoE g) (redoD f) (redoD g) := by
  rcases redo_cases F with ⟨a, b, _⟩ | ⟨a, b⟩ <;> rcases redo_cases G with ⟨c, d, _⟩ | ⟨c, d⟩ <;> rw [b, d]
  · exact .inl ⟨a, c, rfl, rfl⟩
  · exact .inr ⟨fun z => c z.2, lay_en, any_en⟩
  · exact .inr ⟨fun z => a z.1, lay_ne, any_ne⟩
  · exact .inr ⟨fun z => a z.1, lay_nn, any_nn⟩
/-- whether something is told -/
theorem told_undo {f : Int × List Int} (F : Eff f) : (Surj f ∧ ∃ u, undoD f = dE u) ∨ (¬ Surj f ∧ undoD f = .none) := by
  rcases undo_cases F with ⟨a, b, _⟩ | ⟨a, b⟩
  · exact .inl ⟨a, _, b⟩
  · exact .inr ⟨a, b⟩
theorem told_redo {f : Int × List Int} (F : Eff f) : (Inj f ∧ ∃ u, redoD f = dE u) ∨ (¬ Inj f ∧ redoD f = .none) := by
  rcases redo_cases F with ⟨a, b, _⟩ | ⟨a, b⟩
  · exact .inl ⟨a, _, b⟩
  · exact .inr ⟨a, b⟩
theorem comm_iff {a b : Int × List Int} (ha : Eff a) (hb : Eff b) : joinE a b = joinE b a ↔ ∀ r, 1 ≤ r → fromE a (fromE b r) = fromE b (fromE a r) := by
  constructor
  · intro h r hr
    rw [← from_join hb hr, h, from_join ha hr]
  · intro h
    exact canon (join_eff ha hb) (join_eff hb ha) join_lst join_lst fun r hr => by rw [from_join hb hr, from_join ha hr, h r hr]
theorem comm_inv {f u g : Int × List Int} (hf : Eff f) (hu : Eff u) (hg : Eff g) (h1 : IdP f u) (h2 : IdP u f) : (joinE f g = joinE g f) ↔ (joinE u g = joinE g u) := by
  rw [comm_iff hf hg, comm_iff hu hg]
  constructor
  · intro h r hr
    have a := h (fromE u r) (from_ge hu hr)
    rw [h1 r hr] at a
    rw [← a, h2 _ (from_ge hg (from_ge hu hr))]
  · intro h r hr
    have a := h (fromE f r) (from_ge hf hr)
    rw [h2 r hr] at a
    rw [← a, h1 _ (from_ge hg (from_ge hf hr))]
-- for: _law_sx_do shifted _law_ps_heap
/-! ### lists of texts -/
abbrev dS (ss : List Str) : D := .list (ss.map PyData.str)
theorem nolists_strs : ∀ ss : List Str, nolists (ss.map PyData.str) = true
  | [] => rfl
  | s :: ss => by simp [nolists, nolist, nolists_strs ss]
theorem depth_strs : ∀ ss : List Str, PyData.depthAll (ss.map PyData.str) = 0
  | [] => rfl
  | s :: ss => by simp [PyData.depthAll, PyData.depth, depth_strs ss]
theorem lay_strs : ∀ ss : List Str, (∀ s ∈ ss, PyData.strOk s = true) → PyData.canLayAll0 (ss.map PyData.str) = true
  | [], _ => rfl
  | s :: ss, h => by simp [PyData.canLayAll0, PyData.canLay0, lay_strs ss fun x hx => h x (List.mem_cons_of_mem _ hx), h s List.mem_cons_self]
theorem shaped_strs {ss : List Str} (h : ∀ s ∈ ss, PyData.strOk s = true) : SeqAt.shaped (dS ss) = true := by
  unfold SeqAt.shaped
  simp [PyData.canLay0, PyData.depth, lay_strs ss h, depth_strs]
theorem eqv_strs : ∀ xs ys : List Str, PyData.eqv (dS xs) (dS ys) = decide (xs = ys) := by
  have aux : ∀ xs ys : List Str, PyData.eqvAll (xs.map PyData.str) (ys.map PyData.str) = decide (xs = ys) := by
    intro xs
    induction xs with
    | nil =>
      intro ys
      cases ys with
      | nil => simp [PyData.eqvAll]
      | cons y ys => simp [PyData.eqvAll]
    | cons x xs ih =>
      intro ys
      cases ys with
      | nil => simp [PyData.eqvAll]
      | cons y ys =>
        simp only [List.map_cons, PyData.eqvAll, PyData.eqv, ih]
        by_cases h : x = y
        · subst h
          simp
        · have h2 : (x == y) = false := beq_eq_false_iff_ne.mpr h
          rw [h2]
          simp [h]
  intro xs ys
  show PyData.eqv (.list (xs.map PyData.str)) (.list (ys.map PyData.str)) = _
  simp only [PyData.eqv]
  exact aux xs ys
theorem ixD_strs {ss : List Str} {i : Int} {f : Nat → D → Prop} (h0 : 0 ≤ i) (h1 : i < ss.length) (h : ∀ s, s ∈ ss → ss.getD i.toNat s = s → ss[i.toNat]? = some s → f i.toNat (.str s)) : ixD (ss.map PyData.str) i f := by
  refine ixD_any h0 (by rw [List.length_map]; exact h1) fun x hx => ?_
  rw [List.getElem?_map] at hx
  cases q : ss[i.toNat]? with
  | none => rw [q] at hx; cases hx
  | some s =>
    rw [q] at hx
    cases hx
    exact h s (List.mem_of_getElem? q) (by rw [List.getD_eq_getElem?_getD, q]; rfl) q
/-- the pile behind an effect -/
def doS (e : Int × List Int) (ss : List Str) : List Str := e.2.filterMap (fun r => ss[(r - 1).toNat]?) ++ ss.drop e.1.toNat
def fitP (e : Int × List Int) (p : List Str × List Str) : Bool := decide (e.1 ≤ p.1.length) && decide (doS e p.1 = p.2)
abbrev pairD (p : List Str × List Str) : D := .tuple [dS p.1, dS p.2]
theorem doS_mem {e : Int × List Int} {ss : List Str} {s : Str} (h : s ∈ doS e ss) : s ∈ ss := by
  unfold doS at h
  rcases List.mem_append.mp h with h | h
  · obtain ⟨r, _, hr⟩ := List.mem_filterMap.mp h
    exact List.mem_of_getElem? hr
  · exact (List.drop_subset _ _) h
theorem doS_len {e : Int × List Int} {ss : List Str} : (doS e ss).length ≤ e.2.length + ss.length := by
  unfold doS
  rw [List.length_append, List.length_drop]
  have := List.length_filterMap_le (fun r => ss[(r - 1).toNat]?) e.2
  omega
/-- the texts that come up -/
def TxL : List Str := ["a", "b", "c", "ab", "~", "A", "", "a b", "aa"]
theorem sh_tx {s : Str} (h : s ∈ TxL) : Sh 1 205 (.str s) := by
  have : ∀ s ∈ TxL, PyData.showable (.str s) = true ∧ PyData.depth (.str s) ≤ 1 ∧ G.wd (.str s) ≤ 205 := by decide +kernel
  obtain ⟨a, b, c⟩ := this s h
  exact ⟨a, b, c⟩
theorem ok_tx {s : Str} (h : s ∈ TxL) : PyData.strOk s = true := by
  have : ∀ s ∈ TxL, PyData.strOk s = true := by decide +kernel
  exact this s h
theorem sh_strs {ss : List Str} {n : Nat} (h : ∀ s ∈ ss, s ∈ TxL) (hn : ss.length ≤ n) : Sh 2 (207 * n + 3) (dS ss) := by
  refine sh_list (k := 1) (B := 205) (fun d m => ?_) (by rw [List.length_map]; exact hn)
  obtain ⟨x, hx, rfl⟩ := List.mem_map.mp m
  exact sh_tx (h x hx)
theorem sh_pair {p : List Str × List Str} (h1 : ∀ s ∈ p.1, s ∈ TxL) (h2 : ∀ s ∈ p.2, s ∈ TxL) (l1 : p.1.length ≤ 40) (l2 : p.2.length ≤ 40) : Sh 3 20000 (pairD p) := by
  refine (sh_tuple (k := 2) (B := 8283) (n := 2) (fun d m => ?_) (by simp)).mono (by omega) (by omega)
  rcases List.mem_cons.mp m with rfl | m
  · exact sh_strs (n := 40) h1 l1
  rcases List.mem_cons.mp m with rfl | m
  · exact sh_strs (n := 40) h2 l2
  · cases m
-- for: _law_ps_done _law_ps_redo_due _law_ps_undo_due
/-! effects put together, and what they do to piles of texts -/
section
variable {e f g : Int × List Int}
theorem join_assoc (he : Eff e) (hf : Eff f) (hg : Eff g) : joinE (joinE e f) g = joinE e (joinE f g) :=
  canon (join_eff (join_eff he hf) hg) (join_eff he (join_eff hf hg)) join_lst join_lst fun r hr => by
    rw [from_join hg hr, from_join hf (from_ge hg hr), from_join (join_eff hf hg) hr, from_join hg hr]
theorem join_under (he : Eff e) (hf : Eff f) {c : Int} (c0 : 0 ≤ c) : joinE (underE e c) (underE f c) = underE (joinE e f) c :=
  canon (join_eff (under_eff he c0) (under_eff hf c0)) (under_eff (join_eff he hf) c0) join_lst (under_lst (join_eff he hf) join_lst c0) fun r hr => by
    rw [from_join (under_eff hf c0) hr, from_underE hf c0 hr, from_underE (join_eff he hf) c0 hr]
    by_cases h : r ≤ c
    · rw [if_pos h, if_pos h, from_underE he c0 hr, if_pos h]
    · have h1 := from_ge (e := f) (r := r - c) hf (by omega)
      rw [if_neg h, if_neg h, from_underE he c0 (by omega), if_neg (by omega), from_join hf (by omega), show fromE f (r - c) + c - c = fromE f (r - c) by omega]
theorem fm_all {α β : Type} {h : α → Option β} : ∀ {l : List α}, (∀ x ∈ l, (h x).isSome = true) → (l.filterMap h).length = l.length ∧ ∀ k : Nat, (l.filterMap h)[k]? = (l[k]?).bind h
  | [], _ => ⟨rfl, fun k => by simp⟩
  | x :: l, hl => by
    obtain ⟨a, b⟩ := fm_all (l := l) fun y hy => hl y (List.mem_cons_of_mem _ hy)
    obtain ⟨y, hy⟩ := Option.isSome_iff_exists.mp (hl x List.mem_cons_self)
    rw [List.filterMap_cons_some hy]
    refine ⟨by simp [a], fun k => ?_⟩
    cases k with
    | zero => simp [hy]
    | succ k => simpa using b k
theorem fm_ok (he : Eff e) {ss : List Str} (h : e.1 ≤ ss.length) : ∀ r ∈ e.2, (ss[(r - 1).toNat]?).isSome = true := fun r hr => by
  have a := he.ge r hr
  have b := he.le r hr
  rw [List.getElem?_eq_getElem (by omega)]
  rfl
theorem doS_len2 (he : Eff e) {ss : List Str} (h : e.1 ≤ ss.length) : ((doS e ss).length : Int) = ss.length - e.1 + e.2.length := by
  have n0 := he.nn
  unfold doS
  rw [List.length_append, List.length_drop, (fm_all (fm_ok he h)).1]
  omega
theorem doS_at (he : Eff e) {ss : List Str} (h : e.1 ≤ ss.length) (k : Nat) : (doS e ss)[k]? = ss[(fromE e ((k : Int) + 1) - 1).toNat]? := by
  have n0 := he.nn
  obtain ⟨a, b⟩ := fm_all (fm_ok he h)
  unfold doS
  by_cases hk : k < e.2.length
  · rw [List.getElem?_append_left (by omega), b k, List.getElem?_eq_getElem hk]
    obtain ⟨q, _⟩ := lo14 he (r := (k : Int) + 1) (by omega) (by omega)
    rw [q, show ((k : Int) + 1 - 1).toNat = k by omega, List.getD_eq_getElem?_getD, List.getElem?_eq_getElem hk]
    rfl
  · rw [List.getElem?_append_right (by omega), a, List.getElem?_drop, hi14 (by omega)]
    congr 1
    omega
theorem doS_join (he : Eff e) (hf : Eff f) {ss : List Str} (h1 : e.1 ≤ ss.length) (h2 : f.1 ≤ (doS e ss).length) : (joinE e f).1 ≤ ss.length ∧ doS (joinE e f) ss = doS f (doS e ss) := by
  have l1 := doS_len2 he h1
  have m := more_ok (e := e) (d := f.1)
  have le := leastE_ok (n := (cE e f (moreE e f.1)).1) (gs := (cE e f (moreE e f.1)).2) (cE_eff he hf m.1 m.2)
  have q1 : (joinE e f).1 ≤ e.1 + moreE e f.1 := le.le
  have q2 : (joinE e f).1 ≤ ss.length := by
    unfold moreE at q1
    split at q1 <;> omega
  refine ⟨q2, List.ext_getElem? fun k => ?_⟩
  have g1 := from_ge (e := f) (r := (k : Int) + 1) hf (by omega)
  rw [doS_at (join_eff he hf) q2, doS_at hf h2, doS_at he h1, from_join hf (by omega), show (((fromE f ((k : Int) + 1) - 1).toNat : Nat) : Int) + 1 = fromE f ((k : Int) + 1) by omega]
end
-- for: _law_ps_redo_due
/-! ### redone: the fewest needs, the least list -/
/-- all lists of so many numbers from 1 to top -/
def allL (top : Int) : Nat → List (List Int)
  | 0 => [[]]
  | k + 1 => (allL top k).flatMap fun row => (rg 1 (top + 1)).map fun r => row ++ [r]
theorem mem_allL {top : Int} : ∀ {k : Nat} {x : List Int}, x ∈ allL top k ↔ x.length = k ∧ ∀ y ∈ x, 1 ≤ y ∧ y ≤ top
  | 0, x => by
    unfold allL
    rw [List.mem_singleton]
    constructor
    · rintro rfl
      exact ⟨rfl, fun y m => nomatch m⟩
    · rintro ⟨h, _⟩
      exact List.length_eq_zero_iff.mp h
  | k + 1, x => by
    unfold allL
    rw [List.mem_flatMap]
    constructor
    · rintro ⟨row, hr, hx⟩
      obtain ⟨r, hm, rfl⟩ := List.mem_map.mp hx
      have h := mem_allL.mp hr
      have hb := mem_rg.mp hm
      refine ⟨by rw [List.length_append, List.length_singleton, h.1], fun y hy => ?_⟩
      rcases List.mem_append.mp hy with hy | hy
      · exact h.2 y hy
      · obtain rfl := List.mem_singleton.mp hy
        omega
    · rintro ⟨h1, h2⟩
      have hne : x ≠ [] := fun z => by rw [z] at h1; cases h1
      refine ⟨x.dropLast, mem_allL.mpr ⟨by rw [List.length_dropLast]; omega, fun y hy => h2 y ((List.dropLast_sublist x).subset hy)⟩, List.mem_map.mpr ⟨x.getLast hne, ?_, List.dropLast_concat_getLast hne⟩⟩
      have := h2 _ (List.getLast_mem hne)
      exact mem_rg.mpr ⟨by omega, by omega⟩
/-- item by item not greater: not greater -/
theorem le_of_items : ∀ {x y : List Int}, x.length = y.length → (∀ i : Nat, i < x.length → x.getD i 0 ≤ y.getD i 0) → x ≤ y
  | [], y, _, _ => by
    exact List.nil_le y
  | a :: x, [], h, _ => by simp at h
  | a :: x, b :: y, h, k => by
    have h0 := k 0 (by simp)
    simp at h0
    have ht := le_of_items (x := x) (y := y) (by simpa using h) fun i hi => by simpa using k (i + 1) (by simp; omega)
    rw [List.cons_le_cons_iff]
    by_cases e : a = b
    · exact .inr ⟨e, ht⟩
    · exact .inl (by omega)
theorem from_row {top : Int} {row : List Int} {s : Int} (h1 : 1 ≤ s) (h : s ≤ row.length) : fromE (top, row) s = row.getD (s - 1).toNat 0 := by
  unfold fromE
  rw [if_pos h]
theorem from_beyond {top : Int} {row : List Int} {s : Int} (h : (row.length : Int) < s) : fromE (top, row) s = s + (top - row.length) := by
  unfold fromE
  rw [if_neg (by dsimp only; omega)]
  dsimp only
  omega
theorem lst_end {n : Int} {gs : List Int} (ef : Eff (n, gs)) (l : Lst (n, gs)) (nd : gs.Nodup) {k : Nat} (hk : gs.length = k + 1) : gs[k]? ≠ some n := fun z => by
  unfold Lst leastE at l
  dsimp only at l
  rw [hk] at l
  unfold trim at l
  have hk2 : k < gs.length := by omega
  have cond : ∀ x ∈ gs.take k, x < n := fun x hx => by
    have h1 : x ≤ n := ef.le x (List.mem_of_mem_take hx)
    have h2 : x ≠ n := fun e => by
      subst e
      obtain ⟨j, hj, ej⟩ := List.mem_iff_getElem.mp hx
      rw [List.length_take] at hj
      rw [List.getElem_take] at ej
      obtain ⟨_, ez⟩ := List.getElem?_eq_some_iff.mp z
      have := (List.getElem_inj nd).mp (ej.trans ez.symm)
      omega
    omega
  rw [if_pos ⟨z, cond⟩] at l
  have h1 := congrArg (fun e => e.2.length) l
  dsimp only at h1
  rw [List.length_take] at h1
  have := trim_le gs k (n - 1)
  omega
section
variable {e : Int × List Int}
/-- the size of the lists to be looked at -/
def szR (e : Int × List Int) (top : Int) : Int := top + e.1 - e.2.length
theorem redo_pos (hp : e.2 ≠ []) : redoE e = ((e.2.length : Int), (rg 1 (e.1 + 1)).map fun s => if s ∈ e.2 then (e.2.idxOf s : Int) + 1 else 1) := by
  unfold redoE
  rw [if_neg hp]
/-- fewer needs do not do -/
theorem redo_few (ef : Eff e) (l : Lst e) (nd : e.2.Nodup) {top : Int} (t0 : 0 ≤ top) (ht : top < (redoE e).1) {row : List Int} (hr : row ∈ allL top (szR e top).toNat) : ¬ IdP (top, row) e := fun id => by
  obtain ⟨h1, h2⟩ := mem_allL.mp hr
  have e0 := ef.nn
  cases q : e.2 with
  | nil =>
    unfold redoE at ht
    rw [if_pos q] at ht
    split at ht
    · dsimp only at ht; omega
    · rename_i n0
      dsimp only at ht
      unfold szR at h1
      rw [q] at h1
      simp at h1
      cases hrow : row with
      | nil => rw [hrow] at h1; simp at h1; omega
      | cons x xs =>
        have := h2 x (by rw [hrow]; exact List.mem_cons_self)
        omega
  | cons x xs =>
    have hne : e.2 ≠ [] := by rw [q]; simp
    rw [redo_pos hne] at ht
    dsimp only at ht
    have m1 := List.length_pos_iff.mpr hne
    obtain ⟨m, hm⟩ : ∃ m, e.2.length = m + 1 := ⟨e.2.length - 1, by omega⟩
    have id := id (e.2.length : Int) (by omega)
    have eg : e.2[m]? = some e.2[m] := List.getElem?_eq_getElem (by omega)
    have hs : fromE e (e.2.length : Int) = e.2[m] := by
      unfold fromE
      rw [if_pos (Int.le_refl _), List.getD_eq_getElem?_getD, show ((e.2.length : Int) - 1).toNat = m by omega, eg]
      rfl
    have s1 := ef.ge e.2[m] (List.getElem_mem _)
    have s2 := ef.le e.2[m] (List.getElem_mem _)
    have s3 : e.2[m] ≠ e.1 := fun z => lst_end (n := e.1) (gs := e.2) ef l nd hm (by rw [eg, z])
    rw [hs] at id
    unfold szR at h1
    by_cases c : e.2[m] ≤ (row.length : Int)
    · rw [from_row s1 c, List.getD_eq_getElem?_getD, List.getElem?_eq_getElem (by omega)] at id
      have g := (h2 row[(e.2[m] - 1).toNat] (List.getElem_mem _)).2
      have id2 : row[(e.2[m] - 1).toNat] = (e.2.length : Int) := id
      omega
    · rw [from_beyond (by omega)] at id
      omega
/-- those of as many needs: it is one, the least one -/
theorem redo_mem (ef : Eff e) : (redoE e).2 ∈ allL (redoE e).1 (szR e (redoE e).1).toNat := by
  have e0 := ef.nn
  rw [mem_allL]
  by_cases q : e.2 = []
  · unfold redoE szR
    rw [if_pos q]
    by_cases n0 : e.1 = 0
    · rw [if_pos n0]
      dsimp only
      rw [q, n0]
      exact ⟨rfl, fun y m => nomatch m⟩
    · rw [if_neg n0]
      dsimp only
      rw [q]
      refine ⟨by rw [List.length_replicate]; simp; omega, fun y hy => ?_⟩
      have := List.eq_of_mem_replicate hy
      omega
  · rw [redo_pos q]
    dsimp only
    unfold szR
    refine ⟨by rw [List.length_map, rg_length]; omega, fun y hy => ?_⟩
    obtain ⟨s, _, rfl⟩ := List.mem_map.mp hy
    have := List.length_pos_iff.mpr q
    split
    · rename_i hm
      have := List.idxOf_lt_length_of_mem hm
      omega
    · omega
theorem redo_le (ef : Eff e) {row : List Int} (hr : row ∈ allL (redoE e).1 (szR e (redoE e).1).toNat) (id : IdP ((redoE e).1, row) e) : (redoE e).2 ≤ row := by
  have e0 := ef.nn
  have hr0 := mem_allL.mp (redo_mem ef)
  obtain ⟨h1, h2⟩ := mem_allL.mp hr
  refine le_of_items (by rw [hr0.1, h1]) fun i hi => ?_
  have hi2 : i < row.length := by omega
  have r1 := h2 row[i] (List.getElem_mem _)
  by_cases q : e.2 = []
  · have : (redoE e).2.getD i 0 = 1 := by
      unfold redoE at hi ⊢
      rw [if_pos q] at hi ⊢
      split at hi
      · simp at hi
      · rename_i n0
        rw [if_neg n0]
        dsimp only at hi ⊢
        rw [List.getD_eq_getElem?_getD, List.getElem?_eq_getElem hi]
        simp
    rw [this, List.getD_eq_getElem?_getD, List.getElem?_eq_getElem hi2]
    simp
    omega
  · have len : row.length = e.1.toNat := by
      rw [h1, redo_pos q]
      unfold szR
      dsimp only
      omega
    rw [redo_pos q] at id ⊢
    dsimp only at id ⊢
    have hv : ((rg 1 (e.1 + 1)).map fun s => if s ∈ e.2 then (e.2.idxOf s : Int) + 1 else 1).getD i 0 = if (1 + (i : Int)) ∈ e.2 then (e.2.idxOf (1 + (i : Int)) : Int) + 1 else 1 := by
      rw [List.getD_eq_getElem?_getD, List.getElem?_map]
      have : (rg 1 (e.1 + 1))[i]? = some (1 + (i : Int)) := by
        unfold rg
        rw [List.getElem?_map, List.getElem?_range (by omega)]
        rfl
      rw [this]
      rfl
    rw [hv]
    have rv : row.getD i 0 = row[i] := by rw [List.getD_eq_getElem?_getD, List.getElem?_eq_getElem hi2]; rfl
    rw [rv]
    split
    · rename_i hm
      have lt := List.idxOf_lt_length_of_mem hm
      have id := id ((e.2.idxOf (1 + (i : Int)) : Int) + 1) (by omega)
      have hs : fromE e ((e.2.idxOf (1 + (i : Int)) : Int) + 1) = 1 + i := by
        unfold fromE
        rw [if_pos (by omega), List.getD_eq_getElem?_getD, show ((e.2.idxOf (1 + (i : Int)) : Int) + 1 - 1).toNat = e.2.idxOf (1 + (i : Int)) by omega, List.getElem?_eq_getElem lt]
        simp
      rw [hs, from_row (by omega) (by omega), show (1 + (i : Int) - 1).toNat = i by omega, rv] at id
      omega
    · omega
end
theorem idp_least {top : Int} {row : List Int} {e : Int × List Int} (ee : Eff e) : IdP (leastE top row) e ↔ IdP (top, row) e := by
  unfold IdP
  constructor
  · intro h r hr
    have q := h r hr
    rw [from_least (from_ge ee hr)] at q
    exact q
  · intro h r hr
    rw [from_least (from_ge ee hr)]
    exact h r hr
theorem redo_nn {e : Int × List Int} (ef : Eff e) : ((([] : List Int).length : Nat) : Int) ≤ (redoE e).1 := by
  unfold redoE
  split
  · split
    · exact Int.le_refl _
    · exact (by decide : (0 : Int) ≤ 1)
  · dsimp only
    simp
theorem redo_top {e : Int × List Int} : (redoE e).1 ≤ (e.2.length : Int) + 1 := by
  unfold redoE
  split
  · split
    · dsimp only; omega
    · dsimp only; omega
  · dsimp only; omega
theorem lay_rows : ∀ F : List (List Int), PyData.canLayAll0 (F.map dI) = true
  | [] => by simp [PyData.canLayAll0]
  | x :: F => by simp [PyData.canLayAll0, PyData.canLay0, canLay_ints, lay_rows F]
theorem depth_rows : ∀ F : List (List Int), PyData.depthAll (F.map dI) ≤ 1
  | [] => by simp [PyData.depthAll]
  | x :: F => by
    have := depth_rows F
    simp [PyData.depthAll, PyData.depth, depth_ints]
    omega
theorem shaped_rows (F : List (List Int)) : SeqAt.shaped (.list (F.map dI)) = true := by
  have := depth_rows F
  unfold SeqAt.shaped
  simp [PyData.canLay0, PyData.depth, lay_rows]
  omega
theorem eqv_rows0 (F : List (List Int)) : PyData.eqv (.list (F.map dI)) (.list []) = decide (F = []) := by
  cases F with
  | nil => simp [PyData.eqv, PyData.eqvAll]
  | cons x F => simp [PyData.eqv, PyData.eqvAll]
theorem al_rows (F : List (List Int)) : SortOk (F.map dI) ↔ F.length ≤ 10000000 := by
  constructor
  · intro h
    have := h.len
    rw [List.length_map] at this
    exact this
  · intro h
    refine ⟨by rw [List.length_map]; exact h, PySem.W.AllAlike.of (enc := dI) fun b b' => ?_, PySem.W.Sortable.others (enc := dI) fun b => ⟨(fun z => nomatch z), fun xs z => nomatch z⟩, fun d hd => ?_⟩
    · show PySem.W.alikeAll (b.map PyData.int) (b'.map PyData.int) = true
      exact PySem.W.alike_ints b b'
    · obtain ⟨x, _, rfl⟩ := List.mem_map.mp hd
      simp [PyData.depth, depth_ints]
/-- the first of the sorted rows is the least -/
theorem sort_rows {F : List (List Int)} {x : List Int} (hx : x ∈ F) (hl : ∀ y ∈ F, x ≤ y) : ∃ r, sortD (F.map dI) = dI x :: r := by
  unfold sortD
  have e := List.map_mergeSort (r := PySem.W.dataLe false fun b : List Int => dI b) (s := PySem.W.dataLe false id) (f := dI) (l := F) fun a _ b _ => rfl
  rw [← e]
  have ed : (PySem.W.dataLe false fun b : List Int => dI b) = fun p q => decide (p ≤ q) := PySem.W.dataLe_rows (fun b : List Int => b)
  rw [ed]
  have hp := List.mergeSort_perm F fun p q => decide (p ≤ q)
  have hs : (F.mergeSort fun p q => decide (p ≤ q)).Pairwise fun p q => decide (p ≤ q) = true := List.pairwise_mergeSort (le := fun p q : List Int => decide (p ≤ q)) (fun a b c h1 h2 => decide_eq_true (List.le_trans (of_decide_eq_true h1) (of_decide_eq_true h2))) (fun a b => by
    rcases List.le_total a b with h | h
    · rw [decide_eq_true h]; rfl
    · rw [decide_eq_true h, Bool.or_true]) F
  cases q : F.mergeSort fun p q => decide (p ≤ q) with
  | nil =>
    rw [q] at hp
    have := hp.mem_iff.mpr hx
    cases this
  | cons y r =>
    rw [q] at hp hs
    have hy : y ∈ F := hp.mem_iff.mp List.mem_cons_self
    have h1 := hl y hy
    have h2 : y ≤ x := by
      rcases List.mem_cons.mp (hp.mem_iff.mpr hx) with z | z
      · rw [z]; exact List.le_refl _
      · exact of_decide_eq_true ((List.pairwise_cons.mp hs).1 x z)
    have : x = y := List.le_antisymm h1 h2
    subst this
    exact ⟨r.map dI, rfl⟩
def topS (i : Nat) : Stmt := PySem.Challenge.pw_pileshifts_k09_redone_ahead.main.body.getD i (.Pass ⟨0, 0, 0, 0⟩)
abbrev s_is_effect : Stmt := topS 5
abbrev N_is_effect : List Str := ["one", "needs", "gives", "spot"]
theorem sc_is_effect : FnScope N_is_effect ["one"] (defScope s_is_effect) := ⟨rfl, rfl, rfl, by decide +kernel, rfl, by decide +kernel, by decide +kernel⟩
abbrev s_least_of : Stmt := topS 6
abbrev N_least_of : List Str := ["needs", "gives", "tops", "spot", "size"]
theorem sc_least_of : FnScope N_least_of ["needs", "gives"] (defScope s_least_of) := ⟨rfl, rfl, rfl, by decide +kernel, rfl, by decide +kernel, by decide +kernel⟩
abbrev s_checked : Stmt := topS 7
abbrev N_checked : List Str := ["one", "needs", "gives"]
theorem sc_checked : FnScope N_checked ["one"] (defScope s_checked) := ⟨rfl, rfl, rfl, by decide +kernel, rfl, by decide +kernel, by decide +kernel⟩
abbrev s_join_of : Stmt := topS 8
abbrev N_join_of : List Str := ["one", "other", "needs", "gives", "deep", "later", "more", "upper", "spot"]
theorem sc_join_of : FnScope N_join_of ["one", "other"] (defScope s_join_of) := ⟨rfl, rfl, rfl, by decide +kernel, rfl, by decide +kernel, by decide +kernel⟩
abbrev s_shifted : Stmt := topS 9
abbrev N_shifted : List Str := ["one", "pile", "needs", "gives", "spot"]
theorem sc_shifted : FnScope N_shifted ["one", "pile"] (defScope s_shifted) := ⟨rfl, rfl, rfl, by decide +kernel, rfl, by decide +kernel, by decide +kernel⟩
abbrev s_joined : Stmt := topS 10
abbrev N_joined : List Str := ["one", "other", "first"]
theorem sc_joined : FnScope N_joined ["one", "other"] (defScope s_joined) := ⟨rfl, rfl, rfl, by decide +kernel, rfl, by decide +kernel, by decide +kernel⟩
abbrev s_done : Stmt := topS 11
abbrev N_done : List Str := ["one", "pile", "found"]
theorem sc_done : FnScope N_done ["one", "pile"] (defScope s_done) := ⟨rfl, rfl, rfl, by decide +kernel, rfl, by decide +kernel, by decide +kernel⟩
abbrev s_redo : Stmt := topS 12
abbrev N_redo : List Str := ["one", "needs", "gives", "spot"]
theorem sc_redo : FnScope N_redo ["one"] (defScope s_redo) := ⟨rfl, rfl, rfl, by decide +kernel, rfl, by decide +kernel, by decide +kernel⟩
abbrev s__law_coin : Stmt := topS 14
abbrev N__law_coin : List Str := ["_law_purse", "_law_many", "_law_drawn", "_law_stirred"]
theorem sc__law_coin : FnScope N__law_coin ["_law_purse", "_law_many"] (defScope s__law_coin) := ⟨rfl, rfl, rfl, by decide +kernel, rfl, by decide +kernel, by decide +kernel⟩
abbrev s__law_copied : Stmt := topS 15
abbrev N__law_copied : List Str := ["_law_thing", "_law_one"]
theorem sc__law_copied : FnScope N__law_copied ["_law_thing"] (defScope s__law_copied) := ⟨rfl, rfl, rfl, by decide +kernel, rfl, by decide +kernel, by decide +kernel⟩
abbrev s__law_ps_sack : Stmt := topS 16
abbrev N__law_ps_sack : List Str := ["_law_script", "_law_rank", "_law_cell"]
theorem sc__law_ps_sack : FnScope N__law_ps_sack ["_law_script", "_law_rank"] (defScope s__law_ps_sack) := ⟨rfl, rfl, rfl, by decide +kernel, rfl, by decide +kernel, by decide +kernel⟩
abbrev s__law_ps_least : Stmt := topS 17
abbrev N__law_ps_least : List Str := ["_law_takes", "_law_puts", "_law_size", "_law_turn"]
theorem sc__law_ps_least : FnScope N__law_ps_least ["_law_takes", "_law_puts"] (defScope s__law_ps_least) := ⟨rfl, rfl, rfl, by decide +kernel, rfl, by decide +kernel, by decide +kernel⟩
abbrev s__law_ps_order : Stmt := topS 18
abbrev N__law_ps_order : List Str := ["_law_sack", "_law_takes", "_law_pool", "_law_puts", "_law_turn"]
theorem sc__law_ps_order : FnScope N__law_ps_order ["_law_sack", "_law_takes"] (defScope s__law_ps_order) := ⟨rfl, rfl, rfl, by decide +kernel, rfl, by decide +kernel, by decide +kernel⟩
abbrev s__law_ps_drawn : Stmt := topS 19
abbrev N__law_ps_drawn : List Str := ["_law_sack", "_law_deep", "_law_most", "_law_sort_here", "_law_takes", "_law_menu", "_law_fx", "_law_puts", "_law_rank", "_law_upper", "_law_size", "_law_turn"]
theorem sc__law_ps_drawn : FnScope N__law_ps_drawn ["_law_sack", "_law_deep", "_law_most"] (defScope s__law_ps_drawn) := ⟨rfl, rfl, rfl, by decide +kernel, rfl, by decide +kernel, by decide +kernel⟩
abbrev s__law_ps_wider : Stmt := topS 20
abbrev N__law_ps_wider : List Str := ["_law_sack", "_law_fx", "_law_deep", "_law_most", "_law_more"]
theorem sc__law_ps_wider : FnScope N__law_ps_wider ["_law_sack", "_law_fx", "_law_deep", "_law_most"] (defScope s__law_ps_wider) := ⟨rfl, rfl, rfl, by decide +kernel, rfl, by decide +kernel, by decide +kernel⟩
abbrev s__law_ps_do : Stmt := topS 21
abbrev N__law_ps_do : List Str := ["_law_fx", "_law_heap", "_law_rank"]
theorem sc__law_ps_do : FnScope N__law_ps_do ["_law_fx", "_law_heap"] (defScope s__law_ps_do) := ⟨rfl, rfl, rfl, by decide +kernel, rfl, by decide +kernel, by decide +kernel⟩
abbrev s__law_ps_both : Stmt := topS 22
abbrev N__law_ps_both : List Str := ["_law_fx", "_law_gx", "_law_deep"]
theorem sc__law_ps_both : FnScope N__law_ps_both ["_law_fx", "_law_gx"] (defScope s__law_ps_both) := ⟨rfl, rfl, rfl, by decide +kernel, rfl, by decide +kernel, by decide +kernel⟩
abbrev s__law_ps_same : Stmt := topS 23
abbrev N__law_ps_same : List Str := ["_law_told", "_law_due"]
theorem sc__law_ps_same : FnScope N__law_ps_same ["_law_told", "_law_due"] (defScope s__law_ps_same) := ⟨rfl, rfl, rfl, by decide +kernel, rfl, by decide +kernel, by decide +kernel⟩
abbrev s__law_ps_spoil : Stmt := topS 24
abbrev N__law_ps_spoil : List Str := ["_law_thing", "_law_tally", "_law_inner"]
theorem sc__law_ps_spoil : FnScope N__law_ps_spoil ["_law_thing", "_law_tally"] (defScope s__law_ps_spoil) := ⟨rfl, rfl, rfl, by decide +kernel, rfl, by decide +kernel, by decide +kernel⟩
abbrev s__law_ps_alone : Stmt := topS 25
abbrev N__law_ps_alone : List Str := ["_law_told", "_law_mirror"]
theorem sc__law_ps_alone : FnScope N__law_ps_alone ["_law_told"] (defScope s__law_ps_alone) := ⟨rfl, rfl, rfl, by decide +kernel, rfl, by decide +kernel, by decide +kernel⟩
abbrev s__law_ps_bounds : Stmt := topS 26
abbrev N__law_ps_bounds : List Str := ["_law_sack"]
theorem sc__law_ps_bounds : FnScope N__law_ps_bounds ["_law_sack"] (defScope s__law_ps_bounds) := ⟨rfl, rfl, rfl, by decide +kernel, rfl, by decide +kernel, by decide +kernel⟩
abbrev s__law_ps_text : Stmt := topS 27
abbrev N__law_ps_text : List Str := ["_law_sack", "_law_signs", "_law_turn"]
theorem sc__law_ps_text : FnScope N__law_ps_text ["_law_sack"] (defScope s__law_ps_text) := ⟨rfl, rfl, rfl, by decide +kernel, rfl, by decide +kernel, by decide +kernel⟩
abbrev s__law_ps_heap : Stmt := topS 28
abbrev N__law_ps_heap : List Str := ["_law_sack", "_law_size", "_law_sort_here", "_law_turn", "_law_rank"]
theorem sc__law_ps_heap : FnScope N__law_ps_heap ["_law_sack", "_law_size"] (defScope s__law_ps_heap) := ⟨rfl, rfl, rfl, by decide +kernel, rfl, by decide +kernel, by decide +kernel⟩
abbrev s__law_ps_once : Stmt := topS 29
abbrev N__law_ps_once : List Str := ["_law_sack", "_law_deep", "_law_most", "_law_takes", "_law_puts"]
theorem sc__law_ps_once : FnScope N__law_ps_once ["_law_sack", "_law_deep", "_law_most"] (defScope s__law_ps_once) := ⟨rfl, rfl, rfl, by decide +kernel, rfl, by decide +kernel, by decide +kernel⟩
abbrev s__law_ps_lists : Stmt := topS 30
abbrev N__law_ps_lists : List Str := ["_law_top", "_law_size", "_law_rows", "_law_turn", "_law_longer", "_law_row", "_law_rank"]
theorem sc__law_ps_lists : FnScope N__law_ps_lists ["_law_top", "_law_size"] (defScope s__law_ps_lists) := ⟨rfl, rfl, rfl, by decide +kernel, rfl, by decide +kernel, by decide +kernel⟩
abbrev s__law_ps_redo_due : Stmt := topS 31
abbrev N__law_ps_redo_due : List Str := ["_law_alone", "_law_takes", "_law_puts", "_law_top", "_law_size", "_law_rows", "_law_fit", "_law_ahead_here", "_law_rank", "_law_row"]
theorem sc__law_ps_redo_due : FnScope N__law_ps_redo_due ["_law_alone"] (defScope s__law_ps_redo_due) := ⟨rfl, rfl, rfl, by decide +kernel, rfl, by decide +kernel, by decide +kernel⟩
abbrev s__law_ps_right : Stmt := topS 32
abbrev N__law_ps_right : List Str := ["_law_sack", "_law_deep", "_law_most", "_law_fx", "_law_wide_one", "_law_kept", "_law_alone", "_law_due", "_law_found", "_law_ahead_here", "_law_heap"]
theorem sc__law_ps_right : FnScope N__law_ps_right ["_law_sack"] (defScope s__law_ps_right) := ⟨rfl, rfl, rfl, by decide +kernel, rfl, by decide +kernel, by decide +kernel⟩
abbrev s_law : Stmt := topS 33
abbrev N_law : List Str := ["_law_script", "_law_rank"]
theorem sc_law : FnScope N_law ["_law_script"] (defScope s_law) := ⟨rfl, rfl, rfl, by decide +kernel, rfl, by decide +kernel, by decide +kernel⟩
structure Prog (K : PySem.W.Frag) (mg : Str → Option Value) where
  blt : Blt mg
  f_is_effect : Addr
  fd_is_effect : FuncData
  d_is_effect : DefAt K mg "is_effect" s_is_effect f_is_effect fd_is_effect ["one"]
  f_least_of : Addr
  fd_least_of : FuncData
  d_least_of : DefAt K mg "least_of" s_least_of f_least_of fd_least_of ["needs", "gives"]
  f_checked : Addr
  fd_checked : FuncData
  d_checked : DefAt K mg "checked" s_checked f_checked fd_checked ["one"]
  f_join_of : Addr
  fd_join_of : FuncData
  d_join_of : DefAt K mg "join_of" s_join_of f_join_of fd_join_of ["one", "other"]
  f_shifted : Addr
  fd_shifted : FuncData
  d_shifted : DefAt K mg "shifted" s_shifted f_shifted fd_shifted ["one", "pile"]
  f_joined : Addr
  fd_joined : FuncData
  d_joined : DefAt K mg "joined" s_joined f_joined fd_joined ["one", "other"]
  f_done : Addr
  fd_done : FuncData
  d_done : DefAt K mg "done" s_done f_done fd_done ["one", "pile"]
  f_redo : Addr
  fd_redo : FuncData
  d_redo : DefAt K mg "redo" s_redo f_redo fd_redo ["one"]
  f__law_coin : Addr
  fd__law_coin : FuncData
  d__law_coin : DefAt K mg "_law_coin" s__law_coin f__law_coin fd__law_coin ["_law_purse", "_law_many"]
  f__law_copied : Addr
  fd__law_copied : FuncData
  d__law_copied : DefAt K mg "_law_copied" s__law_copied f__law_copied fd__law_copied ["_law_thing"]
  f__law_ps_sack : Addr
  fd__law_ps_sack : FuncData
  d__law_ps_sack : DefAt K mg "_law_ps_sack" s__law_ps_sack f__law_ps_sack fd__law_ps_sack ["_law_script", "_law_rank"]
  f__law_ps_least : Addr
  fd__law_ps_least : FuncData
  d__law_ps_least : DefAt K mg "_law_ps_least" s__law_ps_least f__law_ps_least fd__law_ps_least ["_law_takes", "_law_puts"]
  f__law_ps_order : Addr
  fd__law_ps_order : FuncData
  d__law_ps_order : DefAt K mg "_law_ps_order" s__law_ps_order f__law_ps_order fd__law_ps_order ["_law_sack", "_law_takes"]
  f__law_ps_drawn : Addr
  fd__law_ps_drawn : FuncData
  d__law_ps_drawn : DefAt K mg "_law_ps_drawn" s__law_ps_drawn f__law_ps_drawn fd__law_ps_drawn ["_law_sack", "_law_deep", "_law_most"]
  f__law_ps_wider : Addr
  fd__law_ps_wider : FuncData
  d__law_ps_wider : DefAt K mg "_law_ps_wider" s__law_ps_wider f__law_ps_wider fd__law_ps_wider ["_law_sack", "_law_fx", "_law_deep", "_law_most"]
  f__law_ps_do : Addr
  fd__law_ps_do : FuncData
  d__law_ps_do : DefAt K mg "_law_ps_do" s__law_ps_do f__law_ps_do fd__law_ps_do ["_law_fx", "_law_heap"]
  f__law_ps_both : Addr
  fd__law_ps_both : FuncData
  d__law_ps_both : DefAt K mg "_law_ps_both" s__law_ps_both f__law_ps_both fd__law_ps_both ["_law_fx", "_law_gx"]
  f__law_ps_same : Addr
  fd__law_ps_same : FuncData
  d__law_ps_same : DefAt K mg "_law_ps_same" s__law_ps_same f__law_ps_same fd__law_ps_same ["_law_told", "_law_due"]
  f__law_ps_spoil : Addr
  fd__law_ps_spoil : FuncData
  d__law_ps_spoil : DefAt K mg "_law_ps_spoil" s__law_ps_spoil f__law_ps_spoil fd__law_ps_spoil ["_law_thing", "_law_tally"]
  f__law_ps_alone : Addr
  fd__law_ps_alone : FuncData
  d__law_ps_alone : DefAt K mg "_law_ps_alone" s__law_ps_alone f__law_ps_alone fd__law_ps_alone ["_law_told"]
  f__law_ps_bounds : Addr
  fd__law_ps_bounds : FuncData
  d__law_ps_bounds : DefAt K mg "_law_ps_bounds" s__law_ps_bounds f__law_ps_bounds fd__law_ps_bounds ["_law_sack"]
  f__law_ps_text : Addr
  fd__law_ps_text : FuncData
  d__law_ps_text : DefAt K mg "_law_ps_text" s__law_ps_text f__law_ps_text fd__law_ps_text ["_law_sack"]
  f__law_ps_heap : Addr
  fd__law_ps_heap : FuncData
  d__law_ps_heap : DefAt K mg "_law_ps_heap" s__law_ps_heap f__law_ps_heap fd__law_ps_heap ["_law_sack", "_law_size"]
  f__law_ps_once : Addr
  fd__law_ps_once : FuncData
  d__law_ps_once : DefAt K mg "_law_ps_once" s__law_ps_once f__law_ps_once fd__law_ps_once ["_law_sack", "_law_deep", "_law_most"]
  f__law_ps_lists : Addr
  fd__law_ps_lists : FuncData
  d__law_ps_lists : DefAt K mg "_law_ps_lists" s__law_ps_lists f__law_ps_lists fd__law_ps_lists ["_law_top", "_law_size"]
  f__law_ps_redo_due : Addr
  fd__law_ps_redo_due : FuncData
  d__law_ps_redo_due : DefAt K mg "_law_ps_redo_due" s__law_ps_redo_due f__law_ps_redo_due fd__law_ps_redo_due ["_law_alone"]
  f__law_ps_right : Addr
  fd__law_ps_right : FuncData
  d__law_ps_right : DefAt K mg "_law_ps_right" s__law_ps_right f__law_ps_right fd__law_ps_right ["_law_sack"]
  f_law : Addr
  fd_law : FuncData
  d_law : DefAt K mg "law" s_law f_law fd_law ["_law_script"]
section
variable {P : Program} {w : World} {K : PySem.W.Frag} {mg : Str → Option Value} {base : Heap}
/-! ### is_effect -/
def w_is_effect : Tw := fun ds Q => ∃ n gs, ds = [.tuple [.int n, dI gs]] ∧ gs.length ≤ 1000000 ∧ Q (.bool (decide (0 ≤ n) && gs.all fun x => decide (1 ≤ x) && decide (x ≤ n)))
theorem ok_is_effect (p : Prog K mg) : FnG P w K mg base CX0 1 p.f_is_effect p.fd_is_effect ["one"] (spT w_is_effect) := by
  refine okG p.d_is_effect.F sc_is_effect (fun vs H Q E h => ?_) (fun cdv A outer s H vs Q E hg hr h => ?_)
  · obtain ⟨S, ds, G, r, ⟨n, gs, rfl, _⟩, _⟩ := h
    exact r.length
  · obtain ⟨S, ds, G, r, ⟨n, gs, rfl, len, q⟩, k⟩ := h
    obtain ⟨v, rfl, hS⟩ := enter1 r
    obtain ⟨t, v1, v2, rfl, hS⟩ := hS.ftup2 (by walk_at "mem")
    obtain rfl := hS.fint (by walk_at "mem")
    obtain ⟨a, rfl, ha⟩ := hS.rints (.fz (by walk_at "mem"))
    refine ⟨_, (pss_cons (ps_asg (pv 0) (pg_tup rfl (pgs_cons (pg_name (i := 1) sc_is_effect.nd rfl (Or.inr rfl)) (pgs_cons (pg_name (i := 2) sc_is_effect.nd rfl (Or.inl rfl)) pgs_nil))))
      (pss_one (ps_ret (pe_and (pe_cmpR op_ge (pv 1) pe_int (nomark _)) (pe_one (pe_callB (cr_all rfl) (by rfl) p.blt.all (by decide +kernel) (pa_cons (pe_lc (own := [("spot", 3)]) (g := gName 3) (tt := tYes) rfl sc_is_effect.nd (pi_list (pv 2)) (blkOk_by (N := N_is_effect) (sc := defScope s_is_effect) (by decide +kernel)) (fun _ _ _ _ _ => pg_name (i := 3) sc_is_effect.nd rfl (Or.inl rfl)) (fun _ _ _ _ _ => pts_nil) (fun _ _ _ _ _ => (pe_chain op_le op_le pe_int (pv 3) (pv 1)))) pa_nil))))))), ?_⟩
    refine ⟨_, rfl, t, _, rfl, SqT.of (hS.tp (by walk_at "mem")), rfl, _, _, rfl, _, _, rfl, rfl, ?_⟩
    refine ⟨_, rfl, _, _, rfl, rfl, _, rfl, ?_⟩
    by_cases h0 : 0 ≤ n
    · rw [decide_eq_true h0] at q ⊢
      refine iteT ?_
      refine ⟨_, rfl, a, rfl, ⟨_, SqL.of ha⟩, fun D hD => ?_⟩
      refine lc_ints (fun pre H1 => Same H H1 ∧ H1 D = some (.lst ((pre.map fun x => decide (1 ≤ x) && decide (x ≤ n)).map V.bl))) ⟨same_upd hD, upd_same⟩ (fun pre H1 h => h.1 _ _ ha) (fun pre x post H1 e h => ?_) (fun H1 h => ?_)
      · refine ⟨rfl, _, rfl, _, _, rfl, rfl, _, rfl, ?_⟩
        have fin : ∀ b : Bool, b = (decide (1 ≤ x) && decide (x ≤ n)) → ∃ acc, H1 D = some (.lst acc) ∧ acc.length < sizeLine ∧ (fun (pre : List Int) (H1 : Hp) => Same H H1 ∧ H1 D = some (.lst ((pre.map fun x => decide (1 ≤ x) && decide (x ≤ n)).map V.bl))) (pre ++ [x]) (upd H1 D (.lst (acc ++ [V.bl b]))) := fun b eb => by
          subst e
          refine ⟨_, h.2, szlt (by simp at len ⊢; omega), fun c o eo => ?_, ?_⟩
          · rw [upd_ne (ne_of_none eo hD)]
            exact h.1 _ _ eo
          · rw [upd_same, eb]
            simp
        refine iteB (fun h1 => ?_) (fun h1 => ?_)
        · refine ⟨_, rfl, _, _, rfl, rfl, ?_⟩
          exact fin _ (by rw [h1]; rfl)
        · exact fin _ (by rw [h1]; rfl)
      · refine ⟨D, _, rfl, SqL.of h.2, ?_⟩
        have e2 : ((gs.map fun x => decide (1 ≤ x) && decide (x ≤ n)).all id) = gs.all fun x => decide (1 ≤ x) && decide (x ≤ n) := by
          rw [List.all_map]
          rfl
        rw [e2]
        exact k _ _ _ q h.1 ⟨[], .bl _, by simp, by simp⟩
    · rw [decide_eq_false h0] at q ⊢
      exact iteF (k _ _ _ q (Same.refl _) ⟨[], .bl _, by simp, by simp⟩)
/-! ### least_of -/
def w_least_of : Tw := fun ds Q => ∃ n gs, ds = [.int n, dI gs] ∧ (∀ x ∈ gs, 1 ≤ x) ∧ gs.length ≤ 1000000 ∧ Q (dE (leastE n gs))
theorem ok_least_of (p : Prog K mg) : FnG P w K mg base CX0 1 p.f_least_of p.fd_least_of ["needs", "gives"] (spT w_least_of) := by
  refine okG p.d_least_of.F sc_least_of (fun vs H Q E h => ?_) (fun cdv A outer s H vs Q E hg hr h => ?_)
  · obtain ⟨S, ds, G, r, ⟨n, gs, rfl, _⟩, _⟩ := h
    exact r.length
  · obtain ⟨S, ds, G, r, ⟨n, gs, rfl, pos, len, q⟩, kk⟩ := h
    obtain ⟨v1, v2, rfl, hS⟩ := enter2 r
    obtain rfl := hS.fint (by walk_at "mem")
    obtain ⟨a, rfl, ha⟩ := hS.rints (.fz (by walk_at "mem"))
    refine ⟨_, (pss_cons (ps_set (i := 2) sc_least_of.nd rfl (Or.inl rfl) (pe_lst (pa_cons pe_int pa_nil)))
      (pss_cons (ps_for PassesOwn.never rfl (pi_list (pv 1)) (pg_name (i := 3) sc_least_of.nd rfl (Or.inl rfl))
      (pss_one (ps_expr (pe_bm PySem.F.plainAttrs_list PySem.F.slot_list_append PySem.F.type_list_append mt_append (pv 2) (pa_cons (pe_callB (call_max2 rfl) (by rfl) p.blt.max (by decide +kernel) (pa_cons (pe_ix ix_list (pv 2) (pe_un un_neg pe_int) (fun _ _ => rfl)) (pa_cons (pv 3) pa_nil))) pa_nil)))))
      (pss_cons (ps_set (i := 4) sc_least_of.nd rfl (Or.inl rfl) (pe_callB call_len_seq (by rfl) p.blt.len PySem.boot_len (pa_cons (pv 1) pa_nil)))
      (pss_cons (ps_while PassesOwn.never (PW.pt (pw_and (pt_cmpR op_gt (pv 4) pe_int (nomark _)) (pw_and (pt_cmpR op_eq (pe_ix ix_list (pv 1) (pe_op op_sub (pv 4) pe_int) (fun _ _ => rfl)) (pv 0) (nomark _)) (pw_and1 (pt_cmpR op_lt (pe_ix ix_list (pv 2) (pe_op op_sub (pv 4) pe_int) (fun _ _ => rfl)) (pv 0) (nomark _))))))
      (pss_one (ps_par (i := 4) (j := 0) rfl sc_least_of.nd rfl rfl (by decide) rfl rfl (pa_cons (pe_op op_sub (pv 4) pe_int) (pa_cons (pe_op op_sub (pv 0) pe_int) pa_nil)) (by rfl))))
      (pss_one (ps_ret (pe_tup (pa_cons (pv 0) (pa_cons (pe_callTy call_list_of (by rfl) p.blt.list (by decide +kernel) (pa_cons (pe_slice sl_list (pv 1) po_none (po_some (pv 4))) pa_nil)) pa_nil))))))))), ?_⟩
    -- tops = [0]
    refine ⟨szle (by simp), fun t ht => ?_⟩
    have hS1 := hS.mkInts (ns := [0]) ht
    have hat : H a = some (.lst (gs.map V.int)) := ha
    -- the loop over gives
    refine ⟨_, rfl, a, rfl, ⟨_, SqL.of (same_upd ht _ _ ha)⟩, for_ints (ns := gs) (fun pre σ H1 => ∃ y3 y4, σ = [some (.int n), some (.ref a), some (.ref t), y3, y4] ∧ St H .none .none [(.int n, .int n), (.ref a, dI gs)] [(.ref t, dI (tops pre))] [] H1) ⟨none, none, rfl, hS1⟩ (fun pre σ H1 h => ?_) (fun pre x post σ H1 e h => ?_) (fun σ H1 h => ?_)⟩
    · obtain ⟨_, _, _, h⟩ := h
      obtain ⟨a', e, h'⟩ := h.rints (v := .ref a) (.fz (by walk_at "mem"))
      cases e
      exact h'
    · obtain ⟨y3, y4, rfl, h⟩ := h
      obtain ⟨ht1, k⟩ := h.putInts
      have hl : (tops pre).length = pre.length + 1 := tops_len pre
      have hlast : (tops pre)[pre.length]? = some (top pre) := by
        rw [tops_at (Nat.le_refl _), List.take_length]
      have hlastI : atI ((tops pre).map V.int) (-1) = some (.int (top pre)) := by
        unfold atI
        have e1 : ixN ((tops pre).map V.int).length (-1) = some pre.length := by
          unfold ixN
          rw [ints_len, hl, if_neg (by decide), if_pos (by omega)]
          congr 1
          omega
        rw [e1]
        exact ints_at hlast
      refine ⟨_, rfl, .inl ⟨rfl, _, SqL.of ht1⟩, _, rfl, _, rfl, _, _, _, _, rfl, rfl, SqL.of ht1, hlastI, _, rfl, _, _, rfl, t, _, _, rfl, rfl, ht1, szlt ?_, ?_⟩
      · rw [ints_len, hl]
        subst e
        simp at len
        omega
      · refine ⟨some (.int x), y4, rfl, ?_⟩
        have k' := k (tops (pre ++ [x]))
        rw [tops_app] at k'
        rw [tops_app]
        have e2 : (if x > top pre then x else top pre) = max (top pre) x := by omega
        rw [e2]
        simpa using k'
    · obtain ⟨y3, y4, rfl, h⟩ := h
      obtain ⟨ht1, _⟩ := h.putInts
      obtain ⟨a', e, ha1⟩ := h.rints (v := .ref a) (.fz (by walk_at "mem"))
      cases e
      -- size = len(gives)
      refine ⟨_, rfl, a, _, rfl, .inl (SqL.of ha1), ?_⟩
      rw [ints_len]
      -- the while
      refine ⟨fun m σ H2 => H2 = H1 ∧ ∃ n', σ = [some (.int n'), some (.ref a), some (.ref t), y3, some (.int (m : Int))] ∧ m ≤ gs.length ∧ trim gs gs.length n = trim gs m n', ⟨gs.length, rfl, n, rfl, Nat.le_refl _, rfl⟩, fun m σ H2 h2 => ?_⟩
      obtain ⟨rfl, n', rfl, hm, et⟩ := h2
      refine ⟨_, rfl, _, _, rfl, rfl, _, rfl, ?_⟩
      -- the way out: (needs, list(gives[:size]))
      have out : trim gs m n' = (m, n') → tRet (tTup (tCons (tVar 0) (tCons (tCB (fun xs H Q => ∃ p ys, xs = [.ref p] ∧ (SqL K H p ys ∨ SqT K H p ys) ∧ ∀ l, H l = none → Q (.ref l) (upd H l (.lst ys))) (tCons (tSl (rSlL K) (tVar 1) tNoPart (tPart (tVar 4))) tNil)) tNil))) ⟨fun _ H' => Q .non H', Q, fun _ _ => False, fun _ _ => False⟩ [some (.int n'), some (.ref a), some (.ref t), y3, some (.int (m : Int))] H2 := fun eo => by
        have eL : leastE n gs = (n', gs.take m) := by
          unfold leastE
          rw [et, eo]
        rw [eL] at q
        refine ⟨_, rfl, _, rfl, _, rfl, _, rfl, a, _, rfl, SqL.of ha1, fun c hc => ?_⟩
        rw [cutV_to, ← List.map_take]
        have hS2 := h.mkInts (ns := gs.take m) hc
        obtain ⟨hc1, _⟩ := hS2.putInts
        refine ⟨c, _, rfl, .inl (SqL.of hc1), fun l hl => ?_⟩
        have hS3 := hS2.mkInts (ns := gs.take m) hl
        refine ⟨szle (by simp), fun u hu => ?_⟩
        have hS4 := (hS3.mkTup hu).take (.tp2 (List.Mem.head _) (.int n') (.own .hd))
        obtain ⟨sm, nw⟩ := hS4.leave
        exact kk _ _ _ q sm nw
      cases m with
      | zero =>
        refine iteF ?_
        refine iteF (out ?_)
        rfl
      | succ k =>
        have hk : gs[k]? = some gs[k] := List.getElem?_eq_getElem (by omega)
        rw [decide_eq_true (show (0 : Int) < ((k + 1 : Nat) : Int) by omega)]
        refine iteT ?_
        have ei : ((k + 1 : Nat) : Int) - 1 = (k : Int) := by omega
        refine ⟨_, rfl, _, rfl, _, _, rfl, rfl, _, _, _, _, rfl, rfl, SqL.of ha1, at_nat ei (ints_at hk), _, rfl, rfl, _, rfl, ?_⟩
        rw [dec_eq_int]
        have g1 : 1 ≤ gs[k] := pos _ (List.getElem_mem ..)
        by_cases e1 : gs[k] = n'
        · rw [decide_eq_true e1]
          refine iteT ?_
          have htop : (tops gs)[k]? = some (top (gs.take k)) := tops_at (by omega)
          refine ⟨_, rfl, _, rfl, _, _, rfl, rfl, _, _, _, _, rfl, rfl, SqL.of ht1, at_nat ei (ints_at htop), _, rfl, _, _, rfl, rfl, _, rfl, ?_⟩
          by_cases e2 : top (gs.take k) < n'
          · rw [decide_eq_true e2]
            refine iteT ⟨fun σ' H' => ∃ m', m' < k + 1 ∧ (H' = H2 ∧ ∃ n', σ' = [some (.int n'), some (.ref a), some (.ref t), y3, some (.int (m' : Int))] ∧ m' ≤ gs.length ∧ trim gs gs.length n = trim gs m' n'), fun σ' H' z => z, ?_⟩
            refine ⟨_, rfl, _, _, rfl, rfl, _, rfl, _, _, rfl, rfl, _, _, rfl, k, by omega, rfl, n' - 1, ?_, by omega, ?_⟩
            · exact congrArg (fun z => [some (V.int (n' - 1)), some (V.ref a), some (V.ref t), y3, some (V.int z)]) ei
            · rw [et]
              conv => lhs; unfold trim
              rw [if_pos ⟨by rw [hk, e1], (top_lt (by omega)).mp e2⟩]
          · rw [decide_eq_false e2]
            refine iteF (out ?_)
            unfold trim
            rw [if_neg fun z => e2 ((top_lt (by omega)).mpr z.2)]
        · rw [decide_eq_false e1]
          refine iteF (iteF (out ?_))
          unfold trim
          rw [if_neg fun z => e1 (by rw [hk] at z; exact Option.some.inj z.1)]
/-! ### checked -/
def w_checked : Tw := fun ds Q => ∃ n gs, ds = [.tuple [.int n, dI gs]] ∧ Eff (n, gs) ∧ gs.length ≤ 1000000 ∧ Q (dE (leastE n gs))
theorem ok_checked (p : Prog K mg) : FnG P w K mg base CX0 2 p.f_checked p.fd_checked ["one"] (spT w_checked) := by
  refine okG p.d_checked.F sc_checked (fun vs H Q E h => ?_) (fun cdv A outer s H vs Q E hg hr h => ?_)
  · obtain ⟨S, ds, G, r, ⟨n, gs, rfl, _⟩, _⟩ := h
    exact r.length
  · obtain ⟨S, ds, G, r, ⟨n, gs, rfl, ef, len, q⟩, k⟩ := h
    obtain ⟨v, rfl, hS⟩ := enter1 r
    obtain ⟨t, v1, v2, rfl, hS⟩ := hS.ftup2 (by walk_at "mem")
    obtain rfl := hS.fint (by walk_at "mem")
    refine ⟨_, (pss_cons (ps_asg (pv 0) (pg_tup rfl (pgs_cons (pg_name (i := 1) sc_checked.nd rfl (Or.inl rfl)) (pgs_cons (pg_name (i := 2) sc_checked.nd rfl (Or.inl rfl)) pgs_nil))))
      (pss_cons (ps_if (pt_not (pt_val (pe_callG ((ok_is_effect p).mono (by decide)) hg hr (by rfl) p.d_is_effect.gl p.d_is_effect.kp p.d_is_effect.bd pass0 (pa_cons (pv 0) pa_nil))))
      (pss_one ps_never) pss_nil)
      (pss_one (ps_ret (pe_callG ((ok_least_of p).mono (by decide)) hg hr (by rfl) p.d_least_of.gl p.d_least_of.kp p.d_least_of.bd pass0 (pa_cons (pv 1) (pa_cons (pv 2) pa_nil))))))), ?_⟩
    refine ⟨_, rfl, t, _, rfl, SqT.of (hS.tp (by walk_at "mem")), rfl, _, _, rfl, _, _, rfl, rfl, ?_⟩
    -- if not is_effect(one)
    refine ⟨_, rfl, hS.call (vs := [.ref t]) (.cons (.fz (by walk_at "mem")) .nil) ⟨n, gs, rfl, len, fun v' H1 h1 => ?_⟩⟩
    obtain ⟨rfl, h1⟩ := h1.bool
    have et : (decide (0 ≤ n) && gs.all fun x => decide (1 ≤ x) && decide (x ≤ n)) = true := by
      rw [Bool.and_eq_true, decide_eq_true_eq, List.all_eq_true]
      refine ⟨ef.nn, fun x hx => ?_⟩
      rw [Bool.and_eq_true, decide_eq_true_eq, decide_eq_true_eq]
      exact ⟨ef.ge x hx, ef.le x hx⟩
    rw [et]
    refine ⟨_, rfl, iteF ?_⟩
    -- return least_of(needs, gives)
    refine ⟨_, rfl, _, rfl, h1.call (vs := [.int n, v2]) (.cons (.int n) (.cons (.fz (by walk_at "mem")) .nil)) ⟨n, gs, rfl, ef.ge, len, fun v' H2 h2 => ?_⟩⟩
    obtain ⟨sm, nw⟩ := h2.leave
    exact k _ _ _ q sm nw
/-! ### join_of -/
def w_join_of : Tw := fun ds Q => ∃ n gs d ls, ds = [.tuple [.int n, dI gs], .tuple [.int d, dI ls]] ∧ Eff (n, gs) ∧ Eff (d, ls) ∧ n ≤ 10000 ∧ d ≤ 10000 ∧ gs.length ≤ 10000 ∧ ls.length ≤ 10000 ∧ Q (dE (joinE (n, gs) (d, ls)))
theorem ok_join_of (p : Prog K mg) : FnG P w K mg base CX0 2 p.f_join_of p.fd_join_of ["one", "other"] (spT w_join_of) := by
  refine okG p.d_join_of.F sc_join_of (fun vs H Q E h => ?_) (fun cdv A outer s H vs Q E hg hr h => ?_)
  · obtain ⟨S, ds, Gq, r, ⟨n, gs, d, ls, rfl, _⟩, _⟩ := h
    exact r.length
  · obtain ⟨S, ds, Gq, r, ⟨n, gs, d, ls, rfl, ef, eg, n1, d1, l1, l2, q⟩, k⟩ := h
    obtain ⟨v1, v2, rfl, hS⟩ := enter2 r
    have n0 : 0 ≤ n := ef.nn
    have d0 : 0 ≤ d := eg.nn
    obtain ⟨t, w1, w2, rfl, h1⟩ := hS.ftup2 (v := v1) (by walk_at "mem")
    obtain rfl := h1.fint (v := w1) (by walk_at "mem")
    obtain ⟨a, rfl, ha⟩ := h1.rints (v := w2) (ns := gs) (.fz (by walk_at "mem"))
    obtain ⟨t2, w1, w2, rfl, h2⟩ := h1.ftup2 (v := v2) (by walk_at "mem")
    obtain rfl := h2.fint (v := w1) (by walk_at "mem")
    obtain ⟨b, rfl, hb⟩ := h2.rints (v := w2) (ns := ls) (.fz (by walk_at "mem"))
    refine ⟨_, (pss_cons (ps_asg (pv 0) (pg_tup rfl (pgs_cons (pg_name (i := 2) sc_join_of.nd rfl (Or.inl rfl)) (pgs_cons (pg_name (i := 3) sc_join_of.nd rfl (Or.inl rfl)) pgs_nil))))
      (pss_cons (ps_asg (pv 1) (pg_tup rfl (pgs_cons (pg_name (i := 4) sc_join_of.nd rfl (Or.inl rfl)) (pgs_cons (pg_name (i := 5) sc_join_of.nd rfl (Or.inl rfl)) pgs_nil))))
      (pss_cons (ps_set (i := 6) sc_join_of.nd rfl (Or.inl rfl) (pe_callB (call_max2 rfl) (by rfl) p.blt.max (by decide +kernel) (pa_cons pe_int (pa_cons (pe_op op_sub (pv 4) (pe_callB call_len_seq (by rfl) p.blt.len PySem.boot_len (pa_cons (pv 3) pa_nil))) pa_nil))))
      (pss_cons (ps_set (i := 7) sc_join_of.nd rfl (Or.inr rfl) (pe_op op_cat (pv 3) (pe_listRg rfl (by rfl) p.blt.list (prg_2 (by rfl) p.blt.range (pe_op op_add (pv 2) pe_int) (pe_op op_add (pe_op op_add (pv 2) (pv 6)) pe_int)))))
      (pss_one (ps_ret (pe_callG ((ok_least_of p).mono (by decide)) hg hr (by rfl) p.d_least_of.gl p.d_least_of.kp p.d_least_of.bd pass0 (pa_cons (pe_op op_add (pv 2) (pv 6)) (pa_cons (pe_op op_cat (pe_lc (own := [("spot", 8)]) (g := gName 8) (tt := tYes) rfl sc_join_of.nd (pi_list (pv 5)) (blkOk_by (N := N_join_of) (sc := defScope s_join_of) (by decide +kernel)) (fun _ _ _ _ _ => pg_name (i := 8) sc_join_of.nd rfl (Or.inl rfl)) (fun _ _ _ _ _ => pts_nil) (fun _ _ _ _ _ => (pe_ix (show IxR _ (rIxL K) from ix_list) (pv 7) (pe_op op_sub (pv 8) pe_int) (fun _ _ => rfl)))) (pe_slice sl_list (pv 7) (po_some (pv 4)) po_none)) pa_nil))))))))), ?_⟩
    refine ⟨_, rfl, t, _, rfl, SqT.of (h2.tp (by walk_at "mem")), rfl, _, _, rfl, _, _, rfl, rfl, ?_⟩
    refine ⟨_, rfl, t2, _, rfl, SqT.of (h2.tp (by walk_at "mem")), rfl, _, _, rfl, _, _, rfl, rfl, ?_⟩
    -- more = max(0, deep - len(gives))
    refine ⟨_, rfl, _, rfl, a, _, rfl, .inl (SqL.of ha), _, _, rfl, rfl, _, _, rfl, ?_⟩
    rw [ints_len]
    obtain ⟨m, em, hm0, hmd⟩ : ∃ m, moreE (n, gs) d = m ∧ 0 ≤ m ∧ d ≤ gs.length + m := ⟨_, rfl, more_ok⟩
    have em2 : (if 0 < d - (gs.length : Nat) then d - (gs.length : Nat) else 0) = m := em
    rw [em2]
    have mle : m ≤ 10000 := by
      revert em2
      split <;> omega
    -- upper = gives + list(range(needs + 1, needs + more + 1))
    refine ⟨_, rfl, _, rfl, _, _, rfl, rfl, _, rfl, _, rfl, _, _, rfl, rfl, _, _, rfl, rfl, _, _, rfl, rfl, RgOk.of_le (by omega) (by omega) (by omega) (by omega), fun l hl => ?_⟩
    rw [rgV_map]
    have h3 := h2.mkInts (ns := rg (n + 1) (n + m + 1)) hl
    obtain ⟨hl1, _⟩ := h3.putInts
    have lr := rg_length (n + 1) (n + m + 1)
    refine ⟨a, l, _, _, rfl, rfl, same_upd hl _ _ ha, hl1, szle (by rw [ints_len, ints_len]; omega), fun o ho => ?_⟩
    rw [← List.map_append]
    have h4 := h3.mkInts (ns := upE (n, gs) m) ho
    -- return least_of(needs + more, [upper[spot - 1] for spot in later] + upper[deep:])
    obtain ⟨b', e', hb4⟩ := h4.rints (v := .ref b) (ns := ls) (.fz (by walk_at "mem"))
    cases e'
    have ul := up_len (e := (n, gs)) hm0
    have ule : ((upE (n, gs) m).length : Int) = gs.length + m := ul
    refine ⟨_, rfl, _, rfl, _, _, rfl, rfl, _, rfl, b, rfl, ⟨_, SqL.of hb4⟩, fun Dl hD => ?_⟩
    refine lc_map (fun x => (upE (n, gs) m).getD (x - 1).toNat 0) h4 hD (fun _ => (.fz (by walk_at "mem"))) (by omega) (fun x hxm gs' H1 h5 R hR => ?_) (fun H1 h5 => ?_)
    · obtain ⟨o', e, ho1⟩ := h5.rints (v := .ref o) (ns := upE (n, gs) m) (.ow (by walk_at "mem"))
      cases e
      have b1 := eg.ge x hxm
      have b2 : x ≤ d := eg.le x hxm
      have e : (upE (n, gs) m)[(x - 1).toNat]? = some (upE (n, gs) m)[(x - 1).toNat] := List.getElem?_eq_getElem (by omega)
      refine ⟨_, rfl, _, rfl, _, _, rfl, rfl, o, _, x - 1, _, rfl, rfl, SqL.of ho1, at_nat (k := (x - 1).toNat) (by omega) (ints_at e), ?_⟩
      rw [List.getD_eq_getElem?_getD, e] at hR
      exact hR
    · obtain ⟨o', e, ho1⟩ := h5.rints (v := .ref o) (ns := upE (n, gs) m) (.ow (by walk_at "mem"))
      cases e
      refine ⟨_, rfl, _, rfl, _, rfl, o, _, rfl, SqL.of ho1, fun c hc => ?_⟩
      obtain ⟨e, rfl⟩ : ∃ e : Nat, d = (e : Int) := ⟨d.toNat, by omega⟩
      rw [cutV_from, ← List.map_drop]
      have h6 := h5.mkInts (ns := (upE (n, gs) m).drop e) hc
      obtain ⟨hc1, _⟩ := h6.putInts
      obtain ⟨hD1, _⟩ := h5.putInts
      have ldo : (ls.map (fun x => (upE (n, gs) m).getD (x - 1).toNat 0) ++ (upE (n, gs) m).drop e).length ≤ 100000 := by
        rw [List.length_append, List.length_map, List.length_drop]
        omega
      refine ⟨Dl, c, _, _, rfl, rfl, same_upd hc _ _ hD1, hc1, szle (by rw [ints_len, ints_len, ← List.length_append]; omega), fun z hz => ?_⟩
      rw [← List.map_append]
      have h7 := h6.mkInts (ns := ls.map (fun x => (upE (n, gs) m).getD (x - 1).toNat 0) ++ (upE (n, gs) m).drop e) hz
      have ce := cE_eff (m := m) ef eg hm0 hmd
      refine h7.call (vs := [.int (n + m), .ref z]) (.cons (.int _) (.cons (.ow (by walk_at "mem")) .nil)) ⟨n + m, ls.map (fun x => (upE (n, gs) m).getD (x - 1).toNat 0) ++ (upE (n, gs) m).drop e, rfl, ce.ge, by omega, fun v H6 h8 => ?_⟩
      have ej : leastE (n + m) (ls.map (fun x => (upE (n, gs) m).getD (x - 1).toNat 0) ++ (upE (n, gs) m).drop e) = joinE (n, gs) ((e : Int), ls) := by
        unfold joinE
        show _ = leastE (cE (n, gs) ((e : Int), ls) (moreE (n, gs) (e : Int))).1 _
        rw [em]
        rfl
      rw [ej] at h8
      obtain ⟨sm, nw⟩ := h8.leave
      exact k _ _ _ q sm nw
/-! ### shifted -/
-- auto T
def w_shifted : Tw := fun ds Q => ∃ (e : Int × List Int) (ss : List Str), ds = [dE e, dS ss] ∧ Eff e ∧ e.1 ≤ ss.length ∧ e.2.length ≤ 1000 ∧ ss.length ≤ 1000 ∧ Q (dS (doS e ss))
theorem ar_shifted : ∀ ds G, w_shifted ds G → ds.length = 2 := by
  rintro ds G ⟨e, ss, rfl, _⟩
  rfl
def kr_shifted_1 : KS := (kRet (kCat (kLc (kIt true (kFrz 3)) 4 kYes (kIx true (kVar 1) (kOp (vI noC fun i j => i - j) (kVar 4) (kC (.int 1))))) (kSl (kVar 1) (kPart (kVar 2)) kNo)))
def k_shifted : KS := (kSeq (kAsg (kFrz 0) (kgTup 2 (kgCons (kgName 2) (kgCons (kgName 3) kgNil))))
  kr_shifted_1)
local macro_rules | `(tactic| walk_at "go") => `(tactic| ((first | unfold kr_shifted_1); walk_at "ev"))
theorem val_shifted : ∀ ds G, w_shifted ds G → k_shifted ⟨ds.map Sl.fz ++ [.jk, .jk, .jk], [], 0⟩ (edT G) := by
  rintro ds Gq ⟨e, ss, rfl, ef, hn, le, ls, q⟩
  have n0 := ef.nn
  unfold k_shifted
  walk_at "ev"
  walk_at "go"
  refine lc_inv (j := 4) true e.2 PyData.int (fun pre acc n' => acc = (pre.filterMap fun r => ss[(r - 1).toNat]?).map PyData.str ∧ n' = 0 ∧ ∃ post, e.2 = pre ++ post) rfl rfl (fun pre acc n' hp => ?_) (fun pre r post acc n' Y X hl hp hY hX => ?_) (fun acc n' hp => ?_) [] 0 ⟨rfl, rfl, _, rfl⟩
  · obtain ⟨rfl, _, post, h⟩ := hp
    have a := List.length_filterMap_le (fun r : Int => ss[(r - 1).toNat]?) pre
    have b := congrArg List.length h
    rw [List.length_append] at b
    rw [List.length_map]
    omega
  · obtain ⟨rfl, rfl, _⟩ := hp
    have hr : r ∈ e.2 := by rw [hl]; simp
    have r1 := ef.ge r hr
    have r2 := ef.le r hr
    walk_at "ev"
    refine ixD_strs (by omega) (by omega) fun s _ _ hs => ?_
    walk_at "ev"
    refine hY (.fz (.str s)) true (.str s) 0 rfl rfl ⟨?_, rfl, post, by rw [hl]; simp⟩
    rw [List.filterMap_append, List.map_append]
    rw [List.filterMap_cons, hs]
    rfl
  · obtain ⟨rfl, rfl, _⟩ := hp
    walk_at "ev"
    have nn : ∀ us vs : List Str, (nolists (us.map PyData.str) && nolists (vs.map PyData.str)) = true := fun us vs => by rw [nolists_strs, nolists_strs]; rfl
    obtain ⟨n, hn'⟩ : ∃ n : Nat, e.1 = n := ⟨e.1.toNat, by omega⟩
    have fl := List.length_filterMap_le (fun r : Int => ss[(r - 1).toNat]?) e.2
    have dd : doS e ss = e.2.filterMap (fun r => ss[(r - 1).toNat]?) ++ ss.drop e.1.toNat := rfl
    rw [hn'] at dd ⊢
    rw [cutD_from, ← List.map_drop, nn, ← List.map_append]
    rw [Int.toNat_natCast] at dd
    rw [← dd]
    refine ⟨by rw [List.length_map, List.length_drop]; omega, ?_⟩
    exact q
theorem ok_shifted (p : Prog K mg) : FnG P w K mg base CX0 1 p.f_shifted p.fd_shifted ["one", "pile"] (spT w_shifted) :=
  okT p.d_shifted.F sc_shifted (by decide) ar_shifted (fun cdv A outer s H E hg hr => ⟨_, (pss_cons (ps_asg (pv 0) (pg_tup rfl (pgs_cons (pg_name (i := 2) sc_shifted.nd rfl (Or.inl rfl)) (pgs_cons (pg_name (i := 3) sc_shifted.nd rfl (Or.inl rfl)) pgs_nil))))
      (pss_one (ps_ret (pe_op op_cat (pe_lc (own := [("spot", 4)]) (g := gName 4) (tt := tYes) rfl sc_shifted.nd (pi_list (pv 3)) (blkOk_by (N := N_shifted) (sc := defScope s_shifted) (by decide +kernel)) (fun _ _ _ _ _ => pg_name (i := 4) sc_shifted.nd rfl (Or.inl rfl)) (fun _ _ _ _ _ => pts_nil) (fun _ _ _ _ _ => (pe_ix (show IxR _ (rIxL K) from ix_list) (pv 1) (pe_op op_sub (pv 4) pe_int) (fun _ _ => rfl)))) (pe_slice sl_list (pv 1) (po_some (pv 2)) po_none))))),
    fun C xc => (so_seq (so_asg (so_frz (i := 0)) (so_gtup (so_gcons (so_gname (i := 2)) (so_gcons (so_gname (i := 3)) so_gnil))))
      (so_ret (so_cat (so_lc (so_itL (so_frz (i := 3))) so_yes (so_ixL (so_var (i := 1)) (so_op sr_I0 (so_var (i := 4)) (so_c (sca_int _))))) (so_sl (so_var (i := 1)) (so_part (so_var (i := 2))) so_no))))⟩) val_shifted
/-! ### joined -/
def w_joined : Tw := fun ds Q => ∃ n gs d ls, ds = [.tuple [.int n, dI gs], .tuple [.int d, dI ls]] ∧ Eff (n, gs) ∧ Eff (d, ls) ∧ n ≤ 10000 ∧ d ≤ 10000 ∧ gs.length ≤ 10000 ∧ ls.length ≤ 10000 ∧ Q (dE (joinE (leastE n gs) (leastE d ls)))
theorem ok_joined (p : Prog K mg) : FnG P w K mg base CX0 3 p.f_joined p.fd_joined ["one", "other"] (spT w_joined) := by
  refine okG p.d_joined.F sc_joined (fun vs H Q E h => ?_) (fun cdv A outer s H vs Q E hg hr h => ?_)
  · obtain ⟨S, ds, Gq, r, ⟨n, gs, d, ls, rfl, _⟩, _⟩ := h
    exact r.length
  · obtain ⟨S, ds, Gq, r, ⟨n, gs, d, ls, rfl, ef, eg, n1, d1, l1, l2, q⟩, k⟩ := h
    obtain ⟨v1, v2, rfl, hS⟩ := enter2 r
    have o1 := leastE_ok ef
    have o2 := leastE_ok eg
    have a1 : (leastE n gs).1 ≤ n := o1.le
    have a2 : (leastE d ls).1 ≤ d := o2.le
    have a3 : (leastE n gs).2.length ≤ gs.length := o1.len
    have a4 : (leastE d ls).2.length ≤ ls.length := o2.len
    refine ⟨_, (pss_cons (ps_set (i := 2) sc_joined.nd rfl (Or.inl rfl) (pe_callG ((ok_checked p).mono (by decide)) hg hr (by rfl) p.d_checked.gl p.d_checked.kp p.d_checked.bd pass0 (pa_cons (pv 0) pa_nil)))
      (pss_one (ps_ret (pe_callG ((ok_join_of p).mono (by decide)) hg hr (by rfl) p.d_join_of.gl p.d_join_of.kp p.d_join_of.bd pass0 (pa_cons (pv 2) (pa_cons (pe_callG ((ok_checked p).mono (by decide)) hg hr (by rfl) p.d_checked.gl p.d_checked.kp p.d_checked.bd pass0 (pa_cons (pv 1) pa_nil)) pa_nil)))))), ?_⟩
    refine ⟨_, rfl, hS.call (vs := [v1]) (.cons (.fz (by walk_at "mem")) .nil) ⟨n, gs, rfl, ef, by omega, fun v H1 h1 => ?_⟩⟩
    refine ⟨_, rfl, _, rfl, h1.call (vs := [v2]) (.cons (.fz (by walk_at "mem")) .nil) ⟨d, ls, rfl, eg, by omega, fun v' H2 h2 => ?_⟩⟩
    refine h2.call (vs := [v, v']) (.cons (.ow (by walk_at "mem")) (.cons (.ow (by walk_at "mem")) .nil)) ⟨(leastE n gs).1, (leastE n gs).2, (leastE d ls).1, (leastE d ls).2, rfl, o1.eff, o2.eff, by omega, by omega, by omega, by omega, fun v H3 h3 => ?_⟩
    obtain ⟨sm, nw⟩ := h3.leave
    exact k _ _ _ q sm nw
/-! ### done -/
-- auto T
def w_done : Tw := fun ds Q => ∃ (n : Int) (gs : List Int) (ss : List Str), ds = [dE (n, gs), dS ss] ∧ Eff (n, gs) ∧ (leastE n gs).1 ≤ ss.length ∧ gs.length ≤ 1000 ∧ ss.length ≤ 1000 ∧ Q (dS (doS (leastE n gs) ss))
theorem ar_done : ∀ ds G, w_done ds G → ds.length = 2 := by
  rintro ds G ⟨n, gs, ss, rfl, _⟩
  rfl
def kr_done_1 : KS := (kRet (kCallT w_shifted 2 (kCons (kVar 2) (kCons (kListOf (kCons (kVar 1) kNil)) kNil))))
def kr_done_2 : KS := (kSeq (kIfS (kTest (kOp (vB fun i j => decide (j < i)) (kIx false (kVar 2) (kC (.int 0))) (kF 1 vLen (kCons (kVar 1) kNil))))
  kNever
  kNext)
  kr_done_1)
def k_done : KS := (kSeq (kAsg (kCallT w_checked 1 (kCons (kVar 0) kNil)) (kgName 2))
  kr_done_2)
local macro_rules | `(tactic| walk_at "go") => `(tactic| ((first | unfold kr_done_1 | unfold kr_done_2); walk_at "ev"))
theorem val_done : ∀ ds G, w_done ds G → k_done ⟨ds.map Sl.fz ++ [.jk], [], 0⟩ (edT G) := by
  rintro ds Gq ⟨n, gs, ss, rfl, ef, hn, lg, ls, q⟩
  have lk := leastE_ok ef
  unfold k_done
  walk_at "ev"
  refine ⟨n, gs, rfl, ef, by omega, ?_⟩
  obtain ⟨⟨p, ps⟩, ep⟩ : ∃ e, leastE n gs = e := ⟨_, rfl⟩
  rw [ep] at lk q hn ⊢
  have epf : Eff (p, ps) := lk.eff
  have pl : ps.length ≤ gs.length := lk.len
  walk_at "ev"
  walk_at "go"
  refine iteB (fun c => ?_) (fun c => ?_)
  · have := of_decide_eq_true c
    dsimp only at hn
    omega
  walk_at "go"
  exact ⟨(p, ps), ss, rfl, epf, hn, by dsimp only; omega, ls, q⟩
theorem ok_done (p : Prog K mg) : FnG P w K mg base CX0 3 p.f_done p.fd_done ["one", "pile"] (spT w_done) :=
  okT p.d_done.F sc_done (by decide) ar_done (fun cdv A outer s H E hg hr => ⟨_, (pss_cons (ps_set (i := 2) sc_done.nd rfl (Or.inl rfl) (pe_callG ((ok_checked p).mono (by decide)) hg hr (by rfl) p.d_checked.gl p.d_checked.kp p.d_checked.bd pass0 (pa_cons (pv 0) pa_nil)))
      (pss_cons (ps_if (pt_cmpR op_gt (pe_ix ix_tup (pv 2) pe_int (fun _ _ => rfl)) (pe_callB call_len_seq (by rfl) p.blt.len PySem.boot_len (pa_cons (pv 1) pa_nil)) (nomark _))
      (pss_one ps_never) pss_nil)
      (pss_one (ps_ret (pe_callG ((ok_shifted p).mono (by decide)) hg hr (by rfl) p.d_shifted.gl p.d_shifted.kp p.d_shifted.bd pass0 (pa_cons (pv 2) (pa_cons (pe_callTy call_list_of (by rfl) p.blt.list (by decide +kernel) (pa_cons (pv 1) pa_nil)) pa_nil))))))),
    fun C xc => (so_seq (so_asg (so_callT (so_cons (so_var (i := 0)) so_nil)) (so_gname (i := 2)))
      (so_seq (so_ifS (so_test (so_op sr_B (so_ixT (so_var (i := 2)) (so_c (sca_int _))) (so_f sc_len (so_cons (so_var (i := 1)) so_nil))))
      so_never so_next)
      (so_ret (so_callT (so_cons (so_var (i := 2)) (so_cons (so_listOf (so_cons (so_var (i := 1)) so_nil)) so_nil))))))⟩) val_done
/-! ### redo -/
-- auto T
def w_redo : Tw := fun ds Q => ∃ (n : Int) (gs : List Int), ds = [dE (n, gs)] ∧ Eff (n, gs) ∧ n ≤ 1000 ∧ gs.length ≤ 1000 ∧ Q (redoD (leastE n gs))
theorem ar_redo : ∀ ds G, w_redo ds G → ds.length = 1 := by
  rintro ds G ⟨n, gs, rfl, _⟩
  rfl
def kr_redo_1 : KS := (kRet (kMk false 2 (kCons (kF 1 vLen (kCons (kVar 2) kNil)) (kCons (kLc (kRng2 (kC (.int 1)) (kOp (vI noC fun i j => i + j) (kVar 1) (kC (.int 1)))) 3 kYes (kIf (kTest (kOp (vIn false) (kVar 3) (kVar 2))) (kOp (vI noC fun i j => i + j) (kM 1 vIdx (kVar 2) (kCons (kVar 3) kNil)) (kC (.int 1))) (kC (.int 1)))) kNil))))
def kr_redo_2 : KS := (kSeq (kIfS (kTest (kOp (vEqD false) (kVar 2) (kLit (.list []))))
  (kRet (kIf (kTest (kOp (vEq false) (kVar 1) (kC (.int 0)))) (kLit (.tuple [(.int 0), (.list [])])) (kMk false 2 (kCons (kC (.int 1)) (kCons (kRepN (kLit (.list [(.int 1)])) (kOp (vI noC fun i j => i + j) (kVar 1) (kC (.int 1)))) kNil)))))
  kNext)
  kr_redo_1)
def kr_redo_3 : KS := (kSeq (kIfS (kTest (kOp (vB fun i j => decide (i < j)) (kLenSet (kVar 2)) (kF 1 vLen (kCons (kVar 2) kNil))))
  (kRet (kC .none))
  kNext)
  kr_redo_2)
def k_redo : KS := (kSeq (kAsg (kCallT w_checked 1 (kCons (kVar 0) kNil)) (kgTup 2 (kgCons (kgName 1) (kgCons (kgName 2) kgNil))))
  kr_redo_3)
local macro_rules | `(tactic| walk_at "go") => `(tactic| ((first | unfold kr_redo_1 | unfold kr_redo_2 | unfold kr_redo_3); walk_at "ev"))
theorem val_redo : ∀ ds G, w_redo ds G → k_redo ⟨ds.map Sl.fz ++ [.jk, .jk, .jk], [], 0⟩ (edT G) := by
  rintro ds Gq ⟨n, gs, rfl, ef, n1, l1, q⟩
  have lk := leastE_ok ef
  unfold k_redo
  walk_at "ev"
  refine ⟨n, gs, rfl, ef, by omega, ?_⟩
  obtain ⟨⟨p, ps⟩, ep⟩ : ∃ e, leastE n gs = e := ⟨_, rfl⟩
  rw [ep] at lk q ⊢
  have epf : Eff (p, ps) := lk.eff
  have pn : p ≤ n := lk.le
  have pl : ps.length ≤ gs.length := lk.len
  have p0 : 0 ≤ p := epf.nn
  walk_at "ev"
  walk_at "go"
  refine ⟨by omega, fun out nd hm => ?_⟩
  have sl := set_nodup (e := (p, ps)) nd hm
  refine iteB (fun c => ?_) (fun c => ?_)
  · have c := sl.mp (by have := of_decide_eq_true c; dsimp only; omega)
    unfold redoD at q
    rw [if_neg c] at q
    exact q
  have c : ps.Nodup := Classical.byContradiction fun z => absurd (sl.mpr z) (by have := of_decide_eq_false c; dsimp only; omega)
  unfold redoD at q
  rw [if_pos c] at q
  walk_at "go"
  refine ⟨shaped_ints _, rfl, ?_⟩
  rw [eqv_il0]
  unfold redoE at q
  dsimp only at q
  refine iteB (fun d => ?_) (fun d => ?_)
  · have d := of_decide_eq_true d
    rw [if_pos d] at q
    refine iteB (fun g => ?_) (fun g => ?_)
    · rw [if_pos (of_decide_eq_true g)] at q
      exact q
    · rw [if_neg (of_decide_eq_false g)] at q
      walk_at "ev"
      refine ⟨⟨by omega, by omega, by decide⟩, ?_⟩
      have e1 : (p + 1).toNat = p.toNat + 1 := by omega
      rw [e1]
      have e2 : (List.replicate (p.toNat + 1) [(1 : Int)]).flatten = List.replicate (p.toNat + 1) 1 := by
        have : ∀ m : Nat, (List.replicate m [(1 : Int)]).flatten = List.replicate m 1 := fun m => by
          induction m with
          | zero => rfl
          | succ m ih => rw [List.replicate_succ, List.replicate_succ, List.flatten_cons, ih]; rfl
        exact this _
      rw [e2]
      exact q
  · have d := of_decide_eq_false d
    rw [if_neg d] at q
    have lr := rg_length 1 (p + 1)
    walk_at "go"
    refine ⟨⟨by omega, by omega, by omega, by omega⟩, ?_⟩
    refine lc_ints' (rg 1 (p + 1)) (fun s => if s ∈ ps then (ps.idxOf s : Int) + 1 else 1) rfl rfl (by omega) (fun x hx acc Y hY => ?_) ?_
    · walk_at "ev"
      refine iteB (fun g => ?_) (fun g => ?_)
      · have g := of_decide_eq_true g
        rw [if_pos g] at hY
        exact ⟨g, hY⟩
      · rw [if_neg (of_decide_eq_false g)] at hY
        exact hY
    · walk_at "ev"
      exact q
theorem ok_redo (p : Prog K mg) : FnG P w K mg base CX0 3 p.f_redo p.fd_redo ["one"] (spT w_redo) :=
  okT p.d_redo.F sc_redo (by decide) ar_redo (fun cdv A outer s H E hg hr => ⟨_, (pss_cons (ps_asg (pe_callG ((ok_checked p).mono (by decide)) hg hr (by rfl) p.d_checked.gl p.d_checked.kp p.d_checked.bd pass0 (pa_cons (pv 0) pa_nil)) (pg_tup rfl (pgs_cons (pg_name (i := 1) sc_redo.nd rfl (Or.inl rfl)) (pgs_cons (pg_name (i := 2) sc_redo.nd rfl (Or.inr rfl)) pgs_nil))))
      (pss_cons (ps_if (pt_cmpR op_lt (pe_lenSetN (by rfl) p.blt.len (by rfl) p.blt.set (pv 2)) (pe_callB call_len_seq (by rfl) p.blt.len PySem.boot_len (pa_cons (pv 2) pa_nil)) (nomark _))
      (pss_one (ps_ret pe_non)) pss_nil)
      (pss_cons (ps_if (pt_cmpR (op_eqD hr.units) (pv 2) (pe_lst pa_nil) (nomark _))
      (pss_one (ps_ret (pe_ifExp (pt_cmpR op_eq (pv 1) pe_int (nomark _)) (pe_tup (pa_cons pe_int (pa_cons (pe_lst pa_nil) pa_nil))) (pe_tup (pa_cons pe_int (pa_cons (pe_op op_rep (pe_lst (pa_cons pe_int pa_nil)) (pe_op op_add (pv 1) pe_int)) pa_nil)))))) pss_nil)
      (pss_one (ps_ret (pe_tup (pa_cons (pe_callB call_len_seq (by rfl) p.blt.len PySem.boot_len (pa_cons (pv 2) pa_nil)) (pa_cons (pe_lc (own := [("spot", 3)]) (g := gName 3) (tt := tYes) rfl sc_redo.nd (pi_range2 (by rfl) p.blt.range (pa_cons pe_int (pa_cons (pe_op op_add (pv 1) pe_int) pa_nil))) (blkOk_by (N := N_redo) (sc := defScope s_redo) (by decide +kernel)) (fun _ _ _ _ _ => pg_name (i := 3) sc_redo.nd rfl (Or.inl rfl)) (fun _ _ _ _ _ => pts_nil) (fun _ _ _ _ _ => (pe_ifExp (pt_cmpR (show OpR _ (compareOp .In) (rIn K false) from op_in_seq) (pv 3) (pv 2) rfl) (pe_op op_add (show PE _ _ (tBM K _ (rIndex K) _ _) from pe_bm PySem.F.plainAttrs_list PySem.F.slot_list_index PySem.F.type_list_index mt_index (pv 2) (pa_cons (pv 3) pa_nil)) pe_int) pe_int))) pa_nil)))))))),
    fun C xc => (so_seq (so_asg (so_callT (so_cons (so_var (i := 0)) so_nil)) (so_gtup (so_gcons (so_gname (i := 1)) (so_gcons (so_gname (i := 2)) so_gnil))))
      (so_seq (so_ifS (so_test (so_op sr_B (so_lenSet (so_var (i := 2))) (so_f sc_len (so_cons (so_var (i := 2)) so_nil))))
      (so_ret (so_c sca_non)) so_next)
      (so_seq (so_ifS (so_test (so_op sr_eqD (so_var (i := 2)) (so_lit_lst so_lits_nil)))
      (so_ret (so_if (so_test (so_op sr_eq (so_var (i := 1)) (so_c (sca_int _)))) (so_lit_tup (so_lits_cons (so_lit_c (sca_int _) rfl) (so_lits_cons (so_lit_lst so_lits_nil) so_lits_nil))) (so_tup (so_cons (so_c (sca_int _)) (so_cons (so_repN (so_lit_lst (so_lits_cons (so_lit_c (sca_int _) rfl) so_lits_nil)) (so_op sr_I0 (so_var (i := 1)) (so_c (sca_int _)))) so_nil))))) so_next)
      (so_ret (so_tup (so_cons (so_f sc_len (so_cons (so_var (i := 2)) so_nil)) (so_cons (so_lc (so_rng2 (so_c (sca_int _)) (so_op sr_I0 (so_var (i := 1)) (so_c (sca_int _)))) so_yes (so_if (so_test (so_op sr_in (so_var (i := 3)) (so_var (i := 2)))) (so_op sr_I0 (so_m sm_index (so_var (i := 2)) (so_cons (so_var (i := 3)) so_nil)) (so_c (sca_int _))) (so_c (sca_int _)))) so_nil)))))))⟩) val_redo
/-! ### _law_coin -/
/-- any number below the bound -/
def w__law_coin : Tw := fun ds Q => ∃ m : Int, ds = [.int m] ∧ 0 < m ∧ m < 2 ^ 200 ∧ ∀ r : Int, 0 ≤ r → r < m → Q (.int r)
theorem ok__law_coin (p : Prog K mg) : FnG P w K mg base CX0 1 p.f__law_coin p.fd__law_coin ["_law_purse", "_law_many"] (spP 1 w__law_coin) := by
  refine okG p.d__law_coin.F sc__law_coin (fun vs H Q E h => ?_) (fun cdv A outer s H vs Q E hg hr h => ?_)
  · obtain ⟨p, b, vs', S, ds, G, rfl, _, _, r, _, ⟨m, rfl, _⟩, _⟩ := h
    exact congrArg Nat.succ r.length
  · obtain ⟨u, b, vs', S, ds, G, rfl, hp, hb, r, np, ⟨m, rfl, m0, m1, q⟩, k⟩ := h
    obtain ⟨x, y, z, e, y0, y1, z0, z1⟩ := hp
    cases r with
    | cons r r' =>
      cases r'
      cases r
      have hu : SqL K H u [.int x, .int y, .int z] := SqL.of e
      have ml : m.natAbs.log2 < 9000 := (wide_div (i := 0) (b := 200) m0 (by omega) (by decide) (by decide)).2
      have zb : z.natAbs < 2 ^ 100 := by omega
      refine ⟨_, (pss_cons (ps_if (pt_cmpR op_gt (pe_ix ix_list (pv 0) pe_int (fun _ _ => rfl)) pe_int (nomark _))
      (pss_cons (ps_set (i := 2) sc__law_coin.nd rfl (Or.inl rfl) (pe_op op_mod (pe_callTy call_int1 (by rfl) p.blt.int (by decide +kernel) (pa_cons (pe_ix ix_list (pv 0) pe_int (fun _ _ => rfl)) pa_nil)) (pv 1)))
      (pss_cons (ps_asg (pe_op op_fdivW (pe_ix ix_list (pv 0) pe_int (fun _ _ => rfl)) (pv 1)) (pg_sub (pv 0) pe_int set_list))
      (pss_one (ps_ret (pv 2))))) pss_nil)
      (pss_cons (ps_asg (pe_op op_add (pe_ix ix_list (pv 0) pe_int (fun _ _ => rfl)) pe_int) (pg_sub (pv 0) pe_int set_list))
      (pss_cons (ps_set (i := 3) sc__law_coin.nd rfl (Or.inl rfl) (pe_op op_mod (pe_op op_powW (pe_callTy call_int1 (by rfl) p.blt.int (by decide +kernel) (pa_cons (pe_op op_add (pe_ix ix_list (pv 0) pe_int (fun _ _ => rfl)) (pe_op op_mulB pe_int (pe_ix ix_list (pv 0) pe_int (fun _ _ => rfl)))) pa_nil)) pe_int) (pe_op op_add (pe_op op_powW pe_int pe_int) pe_int)))
      (pss_cons (ps_set (i := 3) sc__law_coin.nd rfl (Or.inl rfl) (pe_op op_mod (pe_op op_powW (pe_callTy call_int1 (by rfl) p.blt.int (by decide +kernel) (pa_cons (pe_op op_add (pv 3) (pe_op op_mulB pe_int (pe_ix ix_list (pv 0) pe_int (fun _ _ => rfl)))) pa_nil)) pe_int) (pe_op op_add (pe_op op_powW pe_int pe_int) pe_int)))
      (pss_one (ps_ret (pe_op op_mod (pe_callTy call_int1 (by rfl) p.blt.int (by decide +kernel) (pa_cons (pe_op op_fdivW (pv 3) pe_int) pa_nil)) (pv 1)))))))), ?_⟩
      -- if purse[0] > 0
      refine ⟨_, rfl, _, _, _, _, rfl, rfl, hu, atI_nat (j := 0) rfl, _, _, rfl, rfl, _, rfl, ?_⟩
      refine iteB (fun _ => ?_) (fun _ => ?_)
      · refine ⟨_, rfl, _, _, _, _, rfl, rfl, hu, atI_nat (j := 0) rfl, .inl ⟨_, rfl, _, rfl, _, _, rfl, rfl, m0, ?_⟩⟩
        refine ⟨_, rfl, _, _, _, _, rfl, rfl, hu, atI_nat (j := 0) rfl, _, rfl, _, _, rfl, rfl, ⟨m0, ml⟩, _, rfl, _, _, _, 0, rfl, rfl, e, rfl, _, rfl, ?_⟩
        refine k _ _ _ (q (x % m) (Int.emod_nonneg _ (by omega)) (Int.emod_lt_of_pos _ m0)) (fun a o eo na => ?_) ⟨x / m, y, z, upd_same, y0, y1, z0, by omega⟩ ⟨[], .int _, by simp, by simp⟩
        rw [upd_ne na]
        exact eo
      · -- purse[2] = purse[2] + 1
        refine ⟨_, rfl, _, _, _, _, rfl, rfl, hu, atI_nat (j := 2) rfl, _, _, rfl, rfl, _, rfl, _, _, _, 2, rfl, rfl, e, rfl, ?_⟩
        have hu2 : SqL K (upd H u (.lst [.int x, .int y, .int (z + 1)])) u [.int x, .int y, .int (z + 1)] := SqL.of upd_same
        have c1 : CMulB 2038074743 (z + 1) := by
          have h1 := bits_of (i := 2038074743) (n := 40) (by decide) (by decide)
          have h2 := bits_of (i := z + 1) (n := 200) (by decide) (by omega)
          show _ < _
          omega
        have c2 : CPowW (y + 2038074743 * (z + 1)) 3 := by
          have h2 := bits_of (i := y + 2038074743 * (z + 1)) (n := 200) (by decide) (by omega)
          refine ⟨by decide, ?_⟩
          omega
        have c3 : CMulB 982451653 (z + 1) := by
          have h1 := bits_of (i := 982451653) (n := 40) (by decide) (by decide)
          have h2 := bits_of (i := z + 1) (n := 200) (by decide) (by omega)
          show _ < _
          omega
        have M1 : (0 : Int) < 10 ^ (25 : Int).toNat + 13 := by decide
        have M2 : (0 : Int) < 10 ^ (24 : Int).toNat + 7 := by decide
        have c4 : ∀ t : Int, CPowW (t % (10 ^ (25 : Int).toNat + 13) + 982451653 * (z + 1)) 2 := fun t => by
          have l1 := Int.emod_nonneg t (show (10 : Int) ^ (25 : Int).toNat + 13 ≠ 0 by decide)
          have l2 := Int.emod_lt_of_pos t M1
          have l3 : (10 : Int) ^ (25 : Int).toNat + 13 < 2 ^ 100 := by decide
          have h2 := bits_of (i := t % (10 ^ (25 : Int).toNat + 13) + 982451653 * (z + 1)) (n := 200) (by decide) (by omega)
          refine ⟨by decide, ?_⟩
          omega
        refine ⟨_, rfl, _, _, _, _, rfl, rfl, hu2, atI_nat (j := 1) rfl, _, rfl, _, _, _, _, rfl, rfl, hu2, atI_nat (j := 2) rfl, _, _, rfl, rfl, c1, _, _, rfl, rfl, .inl ⟨_, rfl, _, _, rfl, rfl, c2, _, _, rfl, rfl, ⟨by decide, by decide⟩, _, _, rfl, rfl, _, _, rfl, rfl, M1, ?_⟩⟩
        refine ⟨_, rfl, _, rfl, _, _, _, _, rfl, rfl, hu2, atI_nat (j := 2) rfl, _, _, rfl, rfl, c3, _, _, rfl, rfl, .inl ⟨_, rfl, _, _, rfl, rfl, c4 _, _, _, rfl, rfl, ⟨by decide, by decide⟩, _, _, rfl, rfl, _, _, rfl, rfl, M2, ?_⟩⟩
        refine ⟨_, rfl, _, _, rfl, rfl, ⟨by decide, by decide +kernel⟩, .inl ⟨_, rfl, _, rfl, _, _, rfl, rfl, m0, ?_⟩⟩
        refine k _ _ _ (q _ (Int.emod_nonneg _ (by omega)) (Int.emod_lt_of_pos _ m0)) (fun a o eo na => ?_) ⟨x, y, z + 1, upd_same, y0, y1, by omega, by omega⟩ ⟨[], .int _, by simp, by simp⟩
        rw [upd_ne na]
        exact eo
/-- [1 + coin(m) for turn in range(n)] -/
theorem coins_lc {σ : L2.St} {H H0 : Hp} {M : Option Addr} {u : Addr} {b : Int} {Fz Ow : List (V × D)} {Tp : List (Addr × List V)} {i j k : Nat} {n m : Int} {Q : VK}
    (hS : St H0 M (some (u, b)) Fz Ow Tp H) (hi : σ[i]? = some (some (.int n))) (h0 : σ[0]? = some (some (.ref u))) (hk : σ[k]? = some (some (.int m))) (nj0 : j ≠ 0) (njk : j ≠ k) (n0 : 0 ≤ n) (n1 : n ≤ 100000) (m0 : 0 < n → 0 < m) (m1 : m < 2 ^ 200) (hb : b + n ≤ 2 ^ 100)
    (q : ∀ (gs : List Int) (Dl : Addr) (H' : Hp), (gs.length : Int) = n → (∀ x ∈ gs, 1 ≤ x ∧ x ≤ m) → St H0 M (some (u, b + n)) Fz ((.ref Dl, dI gs) :: Ow) Tp H' → Q (.ref Dl) H') :
    tLc (iRng1 (tCons (tVar i) tNil)) (gName j) tYes (tOp (rI0 fun i j => V.int (i + j)) (tC (.int 1)) (tCall (spP 1 w__law_coin) [] E0 (tCons (tVar 0) (tCons (tVar k) tNil)))) [j] σ H Q := by
  refine ⟨_, hi, n, rfl, by omega, by omega, fun Dl hD => ?_⟩
  refine lc_range (fun i H1 => ∃ gs : List Int, gs.length = i ∧ (∀ x ∈ gs, 1 ≤ x ∧ x ≤ m) ∧ St H0 M (some (u, b + i)) Fz ((.ref Dl, dI gs) :: Ow) Tp H1) ⟨[], rfl, by simp, by simpa using hS.mkInts (ns := []) hD⟩ (fun i H1 hi1 hI => ?_) (fun H1 hI => ?_)
  · obtain ⟨gs, el, hg, h1⟩ := hI
    have e1 : ∀ x, (List.set (wipe σ [j]) j x)[0]? = σ[0]? := fun x => by
      show ((σ.set j none).set j x)[0]? = _
      rw [List.set_set, List.getElem?_set_ne nj0]
    have e2 : ∀ x, (List.set (wipe σ [j]) j x)[k]? = σ[k]? := fun x => by
      show ((σ.set j none).set j x)[k]? = _
      rw [List.set_set, List.getElem?_set_ne njk]
    refine ⟨?_, ?_⟩
    · show ((σ.set j none).set j _).set j none = σ.set j none
      rw [List.set_set, List.set_set]
    · unfold tYes; dsimp only
      rw [if_pos rfl]
      refine ⟨_, (e1 _).trans h0, _, (e2 _).trans hk, h1.callP (vs := [.int m]) (by omega) (.cons (.int _) .nil) ⟨m, rfl, m0 (by omega), m1, fun r r0 r1 v' H2 h2 => ?_⟩⟩
      obtain ⟨rfl, h3⟩ := h2.int
      obtain ⟨hD2, kp⟩ := h3.putInts
      refine ⟨_, _, rfl, rfl, _, hD2, szlt (by rw [ints_len]; omega), gs ++ [1 + r], by simp [el], fun x hx => ?_, ?_⟩
      · rcases List.mem_append.mp hx with hx | hx
        · exact hg x hx
        · simp at hx
          omega
      · have h4 := kp (gs ++ [1 + r])
        have eb : b + (i : Int) + 1 = b + ((i + 1 : Nat) : Int) := by omega
        rw [eb] at h4
        simpa using h4
  · obtain ⟨gs, el, hg, h1⟩ := hI
    have eb : b + ((n.toNat : Nat) : Int) = b + n := by omega
    rw [eb] at h1
    exact q gs Dl H1 (by omega) hg h1
/-- [1 + coin(m) for turn in range(n)], both told -/
theorem coins_lcC {σ : L2.St} {H H0 : Hp} {M : Option Addr} {u : Addr} {b : Int} {Fz Ow : List (V × D)} {Tp : List (Addr × List V)} {j : Nat} {n m : Int} {Q : VK}
    (hS : St H0 M (some (u, b)) Fz Ow Tp H) (h0 : σ[0]? = some (some (.ref u))) (nj0 : j ≠ 0) (n0 : 0 ≤ n) (n1 : n ≤ 100000) (m0 : 0 < m) (m1 : m < 2 ^ 200) (hb : b + n ≤ 2 ^ 100)
    (q : ∀ (gs : List Int) (Dl : Addr) (H' : Hp), (gs.length : Int) = n → (∀ x ∈ gs, 1 ≤ x ∧ x ≤ m) → St H0 M (some (u, b + n)) Fz ((.ref Dl, dI gs) :: Ow) Tp H' → Q (.ref Dl) H') :
    tLc (iRng1 (tCons (tC (.int n)) tNil)) (gName j) tYes (tOp (rI0 fun i j => V.int (i + j)) (tC (.int 1)) (tCall (spP 1 w__law_coin) [] E0 (tCons (tVar 0) (tCons (tC (.int m)) tNil)))) [j] σ H Q := by
  refine ⟨n, rfl, by omega, by omega, fun Dl hD => ?_⟩
  refine lc_range (fun i H1 => ∃ gs : List Int, gs.length = i ∧ (∀ x ∈ gs, 1 ≤ x ∧ x ≤ m) ∧ St H0 M (some (u, b + i)) Fz ((.ref Dl, dI gs) :: Ow) Tp H1) ⟨[], rfl, by simp, by simpa using hS.mkInts (ns := []) hD⟩ (fun i H1 hi1 hI => ?_) (fun H1 hI => ?_)
  · obtain ⟨gs, el, hg, h1⟩ := hI
    have e1 : ∀ x, (List.set (wipe σ [j]) j x)[0]? = σ[0]? := fun x => by
      show ((σ.set j none).set j x)[0]? = _
      rw [List.set_set, List.getElem?_set_ne nj0]
    refine ⟨?_, ?_⟩
    · show ((σ.set j none).set j _).set j none = σ.set j none
      rw [List.set_set, List.set_set]
    · unfold tYes; dsimp only
      rw [if_pos rfl]
      refine ⟨_, (e1 _).trans h0, h1.callP (vs := [.int m]) (by omega) (.cons (.int _) .nil) ⟨m, rfl, m0, m1, fun r r0 r1 v' H2 h2 => ?_⟩⟩
      obtain ⟨rfl, h3⟩ := h2.int
      obtain ⟨hD2, kp⟩ := h3.putInts
      refine ⟨_, _, rfl, rfl, _, hD2, szlt (by rw [ints_len]; omega), gs ++ [1 + r], by simp [el], fun x hx => ?_, ?_⟩
      · rcases List.mem_append.mp hx with hx | hx
        · exact hg x hx
        · simp at hx
          omega
      · have h4 := kp (gs ++ [1 + r])
        have eb : b + (i : Int) + 1 = b + ((i + 1 : Nat) : Int) := by omega
        rw [eb] at h4
        simpa using h4
  · obtain ⟨gs, el, hg, h1⟩ := hI
    have eb : b + ((n.toNat : Nat) : Int) = b + n := by omega
    rw [eb] at h1
    exact q gs Dl H1 (by omega) hg h1
/-! ### _law_copied -/
/-- a copy of its own, of at most n levels -/
def w__law_copied (n : Nat) : Tw := fun ds Q => ∃ d : D, ds = [d] ∧ d.depth < n ∧ G.wd d ≤ 10000000 ∧ Q d
theorem ok__law_copied (p : Prog K mg) : ∀ n : Nat, FnG P w K mg base CX0 n p.f__law_copied p.fd__law_copied ["_law_thing"] (spT (w__law_copied n)) := by
  intro n
  induction n with
  | zero =>
    refine ⟨fun vs H Q E h => ?_, fun A outer s H args us vs Q E hg hr e0 bt r h => ?_⟩
    · obtain ⟨S, ds, Gq, r, ⟨d, _, h, _⟩, _⟩ := h
      exact absurd h (Nat.not_lt_zero _)
    · obtain ⟨S, ds, Gq, r, ⟨d, _, h, _⟩, _⟩ := h
      exact absurd h (Nat.not_lt_zero _)
  | succ n ih =>
    refine okG p.d__law_copied.F sc__law_copied (fun vs H Q E h => ?_) (fun cdv A outer s H vs Q E hg hr h => ?_)
    · obtain ⟨S, ds, Gq, r, ⟨d, rfl, _⟩, _⟩ := h
      exact r.length
    · obtain ⟨S, ds, Gq, r, ⟨d, rfl, dp, sz, q⟩, k⟩ := h
      obtain ⟨v, rfl, hS⟩ := enter1 r
      obtain ⟨T, rep, _⟩ := hS.rd (v := v) (d := d) (.fz (List.Mem.head _))
      have plain : ∀ {H1 : Hp}, St H .none .none [(v, d)] [(v, d)] [] H1 → Q v H1 := fun h1 => by
        obtain ⟨sm, nw⟩ := h1.leave
        exact k _ _ _ q sm nw
      refine ⟨_, (pss_cons (ps_if (pt_val (pe_callB call_isi (by rfl) p.blt.isinstance (by decide +kernel) (pa_cons (pv 0) (pa_cons (pe_bltn (v := .ty "list") (by rfl) p.blt.list (by decide +kernel) rfl) pa_nil))))
      (pss_one (ps_ret (pe_lc (own := [("_law_one", 1)]) (g := gName 1) (tt := tYes) rfl sc__law_copied.nd (pi_list (pv 0)) (blkOk_by (N := N__law_copied) (sc := defScope s__law_copied) (by decide +kernel)) (fun _ _ _ _ _ => pg_name (i := 1) sc__law_copied.nd rfl (Or.inl rfl)) (fun _ _ _ _ _ => pts_nil) (fun _ _ _ _ _ => (pe_callG ih hg hr (by rfl) p.d__law_copied.gl p.d__law_copied.kp p.d__law_copied.bd pass0 (pa_cons (pv 1) pa_nil)))))) pss_nil)
      (pss_cons (ps_if (pt_val (pe_callB call_isi (by rfl) p.blt.isinstance (by decide +kernel) (pa_cons (pv 0) (pa_cons (pe_bltn (v := .ty "tuple") (by rfl) p.blt.tuple (by decide +kernel) rfl) pa_nil))))
      (pss_one (ps_ret (pe_callTy call_tuple_of (by rfl) p.blt.tuple (by decide +kernel) (pa_cons (pe_lc (own := [("_law_one", 1)]) (g := gName 1) (tt := tYes) rfl sc__law_copied.nd (pi_tup (pv 0)) (blkOk_by (N := N__law_copied) (sc := defScope s__law_copied) (by decide +kernel)) (fun _ _ _ _ _ => pg_name (i := 1) sc__law_copied.nd rfl (Or.inl rfl)) (fun _ _ _ _ _ => pts_nil) (fun _ _ _ _ _ => (pe_callG ih hg hr (by rfl) p.d__law_copied.gl p.d__law_copied.kp p.d__law_copied.bd pass0 (pa_cons (pv 1) pa_nil)))) pa_nil)))) pss_nil)
      (pss_one (ps_ret (pv 0))))), ?_⟩
      refine ⟨_, rfl, v, _, _, _, _, rfl, .ty _, tyx rep, kit_list rep, ?_⟩
      refine ⟨_, rfl, ?_⟩
      cases d with
      | list ds =>
        refine iteT ?_
        simp only [PyData.depth] at dp
        simp only [G.wd] at sz
        obtain ⟨a, vs, rfl, ha, el, h1⟩ := hS.flst (List.Mem.head _)
        refine ⟨_, rfl, a, rfl, ⟨_, SqL.of ha⟩, fun Dl hD => ?_⟩
        have hl := wds_len ds
        refine lc_list (xs := vs) (fun i H1 => i ≤ ds.length ∧ St H .none .none (vs.zip ds ++ [(.ref a, .list ds)]) [(.ref Dl, .list (ds.take i))] [] H1) ⟨Nat.zero_le _, h1.mkLst hD .nil⟩ (fun i H1 _ h => ?_) (fun i x H1 hx h => ?_) (fun H1 h => ?_)
        · obtain ⟨a', vs', _, e1, e2, _⟩ := h.2.rlst (v := .ref a) (ds := ds) (.fz (by simp))
          cases e1
          obtain ⟨Z, S', f1, _⟩ := id h.2
          exact SqL.of ((f1 a _ ha (by intro z; cases z)).2)
        · obtain ⟨hi, h2⟩ := h
          have hil : i < vs.length := (List.getElem?_eq_some_iff.mp hx).1
          obtain ⟨di, hdi⟩ : ∃ e, ds[i]? = some e := ⟨_, List.getElem?_eq_getElem (show i < ds.length by omega)⟩
          have mi := List.mem_of_getElem? hdi
          have z1 := depth_mem mi
          have z2 := wd_mem mi
          refine ⟨rfl, ?_⟩
          unfold tYes
          dsimp only
          rw [if_pos rfl]
          refine ⟨_, rfl, h2.call (vs := [x]) (.cons (.fz (List.mem_append_left _ (zip_mem hx hdi))) .nil) ⟨di, rfl, by omega, by omega, fun v2 H2 h3 => ?_⟩⟩
          have h4 := h3.front (x := (.ref Dl, .list (ds.take i))) (by walk_at "pick")
          obtain ⟨acc, e4, l4, k4⟩ := h4.app
          refine ⟨acc, e4, szlt (by rw [l4, List.length_take]; omega), by omega, ?_⟩
          have h5 := k4 v2 di _ (.own .hd)
          rw [List.take_add_one, hdi]
          exact h5
        · obtain ⟨_, h2⟩ := h
          rw [el, List.take_length] at h2
          obtain ⟨sm, nw⟩ := h2.leave
          exact k _ _ _ q sm nw
      | tuple ds =>
        refine iteF ?_
        refine ⟨_, rfl, v, _, _, _, _, rfl, .ty _, tyx rep, kit_tuple rep, ?_⟩
        refine ⟨_, rfl, ?_⟩
        refine iteT ?_
        simp only [PyData.depth] at dp
        simp only [G.wd] at sz
        obtain ⟨a, vs, rfl, el, h1⟩ := hS.ftup (List.Mem.head _)
        have ha := h1.tp (t := a) (by walk_at "mem")
        refine ⟨_, rfl, a, rfl, ⟨_, SqT.of ha⟩, fun Dl hD => ?_⟩
        have hl := wds_len ds
        refine lc_tup (xs := vs) (fun i H1 => i ≤ ds.length ∧ St H .none .none (vs.zip ds ++ [(.ref a, .tuple ds)]) [(.ref Dl, .list (ds.take i))] [(a, vs)] H1) ⟨Nat.zero_le _, h1.mkLst hD .nil⟩ (fun i H1 _ h => SqT.of (h.2.tp (List.Mem.head _))) (fun i x H1 hx h => ?_) (fun H1 h => ?_)
        · obtain ⟨hi, h2⟩ := h
          have hil : i < vs.length := (List.getElem?_eq_some_iff.mp hx).1
          obtain ⟨di, hdi⟩ : ∃ e, ds[i]? = some e := ⟨_, List.getElem?_eq_getElem (show i < ds.length by omega)⟩
          have mi := List.mem_of_getElem? hdi
          have z1 := depth_mem mi
          have z2 := wd_mem mi
          refine ⟨rfl, ?_⟩
          unfold tYes
          dsimp only
          rw [if_pos rfl]
          refine ⟨_, rfl, h2.call (vs := [x]) (.cons (.fz (List.mem_append_left _ (zip_mem hx hdi))) .nil) ⟨di, rfl, by omega, by omega, fun v2 H2 h3 => ?_⟩⟩
          have h4 := h3.front (x := (.ref Dl, .list (ds.take i))) (by walk_at "pick")
          obtain ⟨acc, e4, l4, k4⟩ := h4.app
          refine ⟨acc, e4, szlt (by rw [l4, List.length_take]; omega), by omega, ?_⟩
          have h5 := k4 v2 di _ (.own .hd)
          rw [List.take_add_one, hdi]
          exact h5
        · obtain ⟨_, h2⟩ := h
          rw [el, List.take_length] at h2
          -- tuple(the list)
          obtain ⟨Z, S', f1, f2, f3, f4, f5, f6, f7, f8⟩ := h2
          cases f3 with
          | cons r1 r2 =>
            cases r2
            cases r1 with
            | @lst _ us Sd _ e rs =>
              refine ⟨Dl, us, rfl, .inl ⟨SqL.of e, fun l hl => ?_⟩⟩
              have nd : Sd.Nodup := (List.nodup_cons.mp (by simpa using f4)).2
              refine k _ _ _ q (fun b o eb => ?_) ⟨Sd, .tup upd_same (Reps.mono (fun t xs et => same_upd hl _ _ et) _ _ _ rs fun b m o eb => same_upd hl _ _ eb), nd, fun b m => ?_⟩
              · exact same_upd hl _ _ (f1 b o eb (by intro z; cases z)).2
              · have := (f5 b (by simp [m])).1
                cases hb : H b with
                | none => rfl
                | some o => exact absurd (f1 b o hb (by intro z; cases z)).1 this
      | none =>
        refine iteF ⟨_, rfl, v, _, _, _, _, rfl, .ty _, tyx rep, kit_tuple rep, ?_⟩
        exact ⟨_, rfl, iteF ⟨_, rfl, plain (hS.unfreeze (List.Mem.head _) rfl)⟩⟩
      | bool b =>
        refine iteF ⟨_, rfl, v, _, _, _, _, rfl, .ty _, tyx rep, kit_tuple rep, ?_⟩
        exact ⟨_, rfl, iteF ⟨_, rfl, plain (hS.unfreeze (List.Mem.head _) rfl)⟩⟩
      | int i =>
        refine iteF ⟨_, rfl, v, _, _, _, _, rfl, .ty _, tyx rep, kit_tuple rep, ?_⟩
        exact ⟨_, rfl, iteF ⟨_, rfl, plain (hS.unfreeze (List.Mem.head _) rfl)⟩⟩
      | str x =>
        refine iteF ⟨_, rfl, v, _, _, _, _, rfl, .ty _, tyx rep, kit_tuple rep, ?_⟩
        exact ⟨_, rfl, iteF ⟨_, rfl, plain (hS.unfreeze (List.Mem.head _) rfl)⟩⟩
      | dict _ => cases rep
/-! ### _law_ps_sack -/
/-- a purse, out of a cell of the script -/
def spSack (K : PySem.W.Frag) : Sp := fun vs H Q _ => ∃ (a : Addr) (ns : List Int) (i : Int), vs = [.ref a, .int i] ∧ SqL K H a (ns.map V.int) ∧ ns.length ≤ 63 ∧ (∀ z ∈ ns, Builtin.Int.intBits z ≤ 1048576) ∧ 0 ≤ i ∧ i ≤ 1000 ∧ ∀ H' q, Same H H' → H q = none → PuAt H' q 0 → Q (.ref q) H'
theorem ok__law_ps_sack (p : Prog K mg) : FnG P w K mg base CX0 1 p.f__law_ps_sack p.fd__law_ps_sack ["_law_script", "_law_rank"] (spSack K) := by
  refine okG p.d__law_ps_sack.F sc__law_ps_sack (fun vs H Q E h => ?_) (fun cdv A outer s H vs Q E hg hr h => ?_)
  · obtain ⟨a, ns, i, rfl, _⟩ := h
    rfl
  · obtain ⟨a, ns, i, rfl, hs, hl, hb, i0, i1, k⟩ := h
    refine ⟨_, (pss_cons (ps_set (i := 2) sc__law_ps_sack.nd rfl (Or.inl rfl) (pe_ifExp (pt_cmpR op_lt (pv 1) (pe_callB call_len_seq (by rfl) p.blt.len PySem.boot_len (pa_cons (pv 0) pa_nil)) (nomark _)) (pe_ix ix_list (pv 0) (pv 1) (fun _ _ => rfl)) pe_int))
      (pss_one (ps_ret (pe_lst (pa_cons (pe_callB (call_max2 rfl) (by rfl) p.blt.max (by decide +kernel) (pa_cons pe_int (pa_cons (pe_op op_sub (pe_callB call_abs (by rfl) p.blt.abs (by decide +kernel) (pa_cons (pv 2) pa_nil)) (pe_op op_powW pe_int pe_int)) pa_nil))) (pa_cons (pe_op op_mod (pe_callTy call_int1 (by rfl) p.blt.int (by decide +kernel) (pa_cons (pe_op op_add (pe_op op_add (pe_op op_mulB (pv 2) pe_int) (pe_op op_mulB (pv 1) pe_int)) pe_int) pa_nil)) (pe_op op_add (pe_op op_powW pe_int pe_int) pe_int)) (pa_cons pe_int pa_nil))))))), ?_⟩
    -- the rest, for any cell of so many bits
    have rest : ∀ c : Int, Builtin.Int.intBits c ≤ 1048576 → ∀ y : List (Option V), y = [some (.ref a), some (.int i), some (.int c)] → tRet (tLst (tCons (tCB (fun xs H Q => ∃ i j, xs = [.int i, .int j] ∧ Q (.int (if j > i then j else i)) H) (tCons (tC (.int 0)) (tCons (tOp (rI0 fun i j => .int (i - j)) (tCB (fun xs H Q => ∃ i, xs = [.int i] ∧ Q (.int (if i < 0 then -i else i)) H) (tCons (tVar 2) tNil)) (tOp (rI CPowW fun i j => .int (i ^ j.toNat)) (tC (.int 10)) (tC (.int 18)))) tNil)))
        (tCons (tOp (rI (fun _ j => 0 < j) fun i j => .int (i % j)) (tCB (fun xs H Q => (∃ i, xs = [.int i] ∧ Q (.int i) H) ∨ ∃ k, xs = [.bl k] ∧ Q (.int (if k then 1 else 0)) H) (tCons (tOp (rI0 fun i j => .int (i + j)) (tOp (rI0 fun i j => .int (i + j)) (tOp (rI CMulB fun i j => .int (i * j)) (tVar 2) (tC (.int 40503))) (tOp (rI CMulB fun i j => .int (i * j)) (tVar 1) (tC (.int 9176741)))) (tC (.int 65537))) tNil)) (tOp (rI0 fun i j => .int (i + j)) (tOp (rI CPowW fun i j => .int (i ^ j.toNat)) (tC (.int 10)) (tC (.int 24))) (tC (.int 7))))
        (tCons (tC (.int 0)) tNil)))) ⟨fun _ H' => Q .non H', Q, fun _ _ => False, fun _ _ => False⟩ y H := fun c hc y ey => by
      subst ey
      have b1 := bits_of (i := 40503) (n := 40) (by decide) (by decide)
      have b2 := bits_of (i := 9176741) (n := 40) (by decide) (by decide)
      have b3 := bits_of (i := i) (n := 100) (by decide) (by omega)
      have M2 : (0 : Int) < 10 ^ (24 : Int).toNat + 7 := by decide
      refine ⟨_, rfl, _, rfl, _, _, rfl, rfl, ⟨by decide, by decide⟩, _, _, rfl, rfl, _, _, rfl, ?_⟩
      refine ⟨_, rfl, _, _, rfl, rfl, (show _ < _ by omega), _, rfl, _, _, rfl, rfl, (show _ < _ by omega), _, _, rfl, rfl, _, _, rfl, rfl, .inl ⟨_, rfl, _, _, rfl, rfl, ⟨by decide, by decide⟩, _, _, rfl, rfl, _, _, rfl, rfl, M2, szle (by simp), fun q hq => ?_⟩⟩
      refine k _ q (same_upd hq) hq ⟨_, _, _, upd_same, Int.emod_nonneg _ (by omega), ?_, by omega, by omega⟩
      exact Int.lt_trans (Int.emod_lt_of_pos _ M2) (by decide)
    refine ⟨_, rfl, _, rfl, a, _, rfl, .inl hs, _, _, rfl, rfl, _, rfl, ?_⟩
    rw [ints_len]
    refine iteB (fun c => ?_) (fun c => ?_)
    · have hi : i < (ns.length : Int) := of_decide_eq_true c
      obtain ⟨z, hz⟩ : ∃ z, ns[i.toNat]? = some z := ⟨_, List.getElem?_eq_getElem (show i.toNat < ns.length by omega)⟩
      exact ⟨_, rfl, _, rfl, a, _, i, _, rfl, rfl, hs, at_nat (k := i.toNat) (by omega) (ints_at hz), rest z (hb z (List.mem_of_getElem? hz)) _ rfl⟩
    · exact rest 0 (by decide) _ rfl
/-! ### _law_ps_least -/
def w__law_ps_least : Tw := fun ds Q => ∃ n gs, ds = [.int n, dI gs] ∧ (∀ x ∈ gs, x ≤ n) ∧ gs.length ≤ 1000000 ∧ Q (dE (leastE n gs))
theorem ok__law_ps_least (p : Prog K mg) : FnG P w K mg base CX0 1 p.f__law_ps_least p.fd__law_ps_least ["_law_takes", "_law_puts"] (spT w__law_ps_least) := by
  refine okG p.d__law_ps_least.F sc__law_ps_least (fun vs H Q E h => ?_) (fun cdv A outer s H vs Q E hg hr h => ?_)
  · obtain ⟨S, ds, G, r, ⟨n, gs, rfl, _⟩, _⟩ := h
    exact r.length
  · obtain ⟨S, ds, G, r, ⟨n, gs, rfl, le, len, q⟩, k⟩ := h
    obtain ⟨v1, v2, rfl, hS⟩ := enter2 r
    obtain rfl := hS.fint (by walk_at "mem")
    obtain ⟨a, rfl, ha⟩ := hS.rints (.fz (by walk_at "mem"))
    refine ⟨_, (pss_cons (ps_set (i := 2) sc__law_ps_least.nd rfl (Or.inl rfl) (pe_callB call_len_seq (by rfl) p.blt.len PySem.boot_len (pa_cons (pv 1) pa_nil)))
      (pss_cons (ps_for PassesOwn.never rfl (pi_range1 (by rfl) p.blt.range (pa_cons (pe_callB call_len_seq (by rfl) p.blt.len PySem.boot_len (pa_cons (pv 1) pa_nil)) pa_nil)) (pg_name (i := 3) sc__law_ps_least.nd rfl (Or.inl rfl))
      (pss_one (ps_if (PW.pt (pw_and (pt_cmpR (op_eqD hr.units) (pe_slice sl_list (pv 1) (po_some (pe_op op_sub (pv 2) pe_int)) (po_some (pv 2))) (pe_lst (pa_cons (pv 0) pa_nil)) (nomark _)) (pw_and1 (pt_cmpR op_notIn_seq (pv 0) (pe_slice sl_list (pv 1) po_none (po_some (pe_op op_sub (pv 2) pe_int))) rfl))))
      (pss_one (ps_par (i := 0) (j := 2) rfl sc__law_ps_least.nd rfl rfl (by decide) rfl rfl (pa_cons (pe_op op_sub (pv 0) pe_int) (pa_cons (pe_op op_sub (pv 2) pe_int) pa_nil)) (by rfl))) pss_nil)))
      (pss_one (ps_ret (pe_tup (pa_cons (pv 0) (pa_cons (pe_slice sl_list (pv 1) po_none (po_some (pv 2))) pa_nil))))))), ?_⟩
    refine ⟨_, rfl, a, _, rfl, .inl (SqL.of ha), ?_⟩
    refine ⟨_, rfl, a, _, rfl, .inl (SqL.of ha), _, rfl, by rw [ints_len]; omega, by rw [ints_len]; omega, ?_⟩
    rw [ints_len]
    refine for_range (fun i σ H1 => ∃ n' m y3, σ = [some (.int n'), some (.ref a), some (.int (m : Nat)), y3] ∧ St H .none .none [(.int n, .int n), (.ref a, dI gs)] [] [] H1 ∧ m ≤ gs.length ∧ trim gs gs.length n = trim gs m n' ∧ (∀ x ∈ gs.take m, x ≤ n') ∧ (m = gs.length - i ∨ trim gs m n' = (m, n'))) ⟨n, gs.length, none, rfl, hS, Nat.le_refl _, rfl, by rw [List.take_length]; exact le, .inl rfl⟩ (fun i σ H1 hi hI => ?_) (fun σ H1 hI => ?_)
    · obtain ⟨n', m, y3, rfl, h1, hm, et, hle, alt⟩ := hI
      obtain ⟨a', e, ha1⟩ := h1.rints (v := .ref a) (.fz (by walk_at "mem"))
      cases e
      have hi' : i < gs.length := by simpa using hi
      -- what a turn does
      have go : trim gs m n' = (m, n') → ∃ n'' m'' y3', [some (V.int n'), some (.ref a), some (.int (m : Nat)), some (V.int (0 + (i : Int)))] = [some (V.int n''), some (.ref a), some (.int (m'' : Nat)), y3'] ∧ St H .none .none [(.int n, .int n), (.ref a, dI gs)] [] [] H1 ∧ m'' ≤ gs.length ∧ trim gs gs.length n = trim gs m'' n'' ∧ (∀ x ∈ gs.take m'', x ≤ n'') ∧ (m'' = gs.length - (i + 1) ∨ trim gs m'' n'' = (m'', n'')) := fun z => ⟨n', m, _, rfl, h1, hm, et, hle, .inr z⟩
      cases m with
      | zero =>
        -- puts[-1:0] == [takes]
        refine ⟨_, rfl, _, rfl, _, _, rfl, rfl, _, rfl, _, rfl, _, rfl, a, _, rfl, SqL.of ha1, fun c hc => ?_⟩
        have e0 : cutV (gs.map V.int) (some (((0 : Nat) : Int) - 1)) (some ((0 : Nat) : Int)) = ([] : List Int).map V.int := cutV_neg _ _
        rw [e0]
        have h2 := h1.mkInts (ns := []) hc
        obtain ⟨hc1, _⟩ := h2.putInts
        refine ⟨_, rfl, szle (by simp), fun l hl => ?_⟩
        have h3 := h2.mkInts (ns := [n']) hl
        obtain ⟨hl1, _⟩ := h3.putInts
        refine ⟨_, _, dp_ints (same_upd hl _ _ hc1), dp_ints hl1, shaped_ints _, shaped_ints _, _, rfl, ?_⟩
        rw [eqv_ints, decide_eq_false (by simp)]
        refine iteF (iteF ?_)
        obtain ⟨n'', m'', y3', e1, h4, rest⟩ := go rfl
        exact ⟨n'', m'', y3', e1, (h3.drop).drop, rest⟩
      | succ j =>
        have hj : gs[j]? = some gs[j] := List.getElem?_eq_getElem (by omega)
        have ej : ((j + 1 : Nat) : Int) - 1 = (j : Int) := by omega
        refine ⟨_, rfl, _, rfl, _, _, rfl, rfl, _, rfl, _, rfl, _, rfl, a, _, rfl, SqL.of ha1, fun c hc => ?_⟩
        have e0 : cutV (gs.map V.int) (some (((j + 1 : Nat) : Int) - 1)) (some ((j + 1 : Nat) : Int)) = [gs[j]].map V.int := by
          rw [ej, cutV_mid]
          have e1 : j + 1 - j = 1 := by omega
          rw [e1, ← List.map_drop, ← List.map_take, List.take_one, List.head?_drop, hj]
          rfl
        rw [e0]
        have h2 := h1.mkInts (ns := [gs[j]]) hc
        obtain ⟨hc1, _⟩ := h2.putInts
        refine ⟨_, rfl, szle (by simp), fun l hl => ?_⟩
        have h3 := h2.mkInts (ns := [n']) hl
        obtain ⟨hl1, _⟩ := h3.putInts
        refine ⟨_, _, dp_ints (same_upd hl _ _ hc1), dp_ints hl1, shaped_ints _, shaped_ints _, _, rfl, ?_⟩
        rw [eqv_ints]
        by_cases c1 : gs[j] = n'
        · rw [decide_eq_true (by rw [c1])]
          refine iteT ?_
          obtain ⟨a', e, ha3⟩ := h3.rints (v := .ref a) (.fz (by walk_at "mem"))
          cases e
          -- takes not in puts[:size - 1]
          refine ⟨_, rfl, _, rfl, _, rfl, _, _, rfl, rfl, _, rfl, a, _, rfl, SqL.of ha3, fun o ho => ?_⟩
          rw [ej, cutV_to, ← List.map_take]
          have h4 := h3.mkInts (ns := gs.take j) ho
          obtain ⟨ho1, _⟩ := h4.putInts
          refine ⟨o, _, rfl, .inl (SqL.of ho1), rfl, flat_ints _, _, rfl, ?_⟩
          rw [inV_ints]
          have h5 := ((h4.drop).drop).drop
          by_cases c2 : n' ∈ gs.take j
          · rw [decide_eq_true c2]
            refine iteF ?_
            have z : trim gs (j + 1) n' = (j + 1, n') := by
              unfold trim
              rw [if_neg fun z => Int.lt_irrefl _ (z.2 _ c2)]
            obtain ⟨n'', m'', y3', e1, _, rest⟩ := go z
            exact ⟨n'', m'', y3', e1, h5, rest⟩
          · rw [decide_eq_false c2]
            refine iteT ?_
            have lt : ∀ x ∈ gs.take j, x < n' := fun x hx => by
              have h6 : x ≤ n' := hle x (by rw [List.take_add_one]; exact List.mem_append_left _ hx)
              have h7 : x ≠ n' := fun z => c2 (z ▸ hx)
              omega
            have et2 : trim gs (j + 1) n' = trim gs j (n' - 1) := by
              conv => lhs; unfold trim
              rw [if_pos ⟨by rw [hj, c1], lt⟩]
            refine ⟨_, rfl, _, _, rfl, rfl, _, rfl, _, _, rfl, rfl, _, _, rfl, n' - 1, j, some (V.int (0 + (i : Int))), ?_, h5, by omega, et.trans et2, fun x hx => by have := lt x hx; omega, ?_⟩
            · exact congrArg (fun z => [some (V.int (n' - 1)), some (.ref a), some (.int z), some (V.int (0 + (i : Int)))]) ej
            · rcases alt with z | z
              · exact .inl (by omega)
              · rw [et2] at z
                have := trim_le gs j (n' - 1)
                rw [z] at this
                simp at this
                omega
        · rw [decide_eq_false (fun z => c1 (List.cons.inj z).1)]
          refine iteF (iteF ?_)
          have z : trim gs (j + 1) n' = (j + 1, n') := by
            unfold trim
            rw [if_neg fun z => c1 (by rw [hj] at z; exact Option.some.inj z.1)]
          obtain ⟨n'', m'', y3', e1, _, rest⟩ := go z
          exact ⟨n'', m'', y3', e1, (h3.drop).drop, rest⟩
    · obtain ⟨n', m, y3, rfl, h1, hm, et, hle, alt⟩ := hI
      obtain ⟨a', e, ha1⟩ := h1.rints (v := .ref a) (.fz (by walk_at "mem"))
      cases e
      have eo : trim gs m n' = (m, n') := by
        rcases alt with z | z
        · have : m = 0 := by
            have e1 : ((gs.length : Nat) : Int).toNat = gs.length := by simp
            rw [e1] at z
            omega
          subst this
          rfl
        · exact z
      have eL : leastE n gs = (n', gs.take m) := by
        unfold leastE
        rw [et, eo]
      rw [eL] at q
      refine ⟨_, rfl, _, rfl, _, rfl, _, rfl, a, _, rfl, SqL.of ha1, fun c hc => ?_⟩
      rw [cutV_to, ← List.map_take]
      have h2 := h1.mkInts (ns := gs.take m) hc
      refine ⟨szle (by simp), fun u hu => ?_⟩
      have h3 := (h2.mkTup hu).take (.tp2 (List.Mem.head _) (.int n') (.own .hd))
      obtain ⟨sm, nw⟩ := h3.leave
      exact k _ _ _ q sm nw
/-! ### _law_ps_order -/
/-- an order of the places -/
def w__law_ps_order : Tw := fun ds Q => ∃ n : Int, ds = [.int n] ∧ 0 ≤ n ∧ n ≤ 1000 ∧ ∀ gs : List Int, gs.Perm (rg 1 (n + 1)) → Q (dI gs)
theorem erase_perm {l : List Int} {k : Nat} {y : Int} (h : l[k]? = some y) : (y :: l.eraseIdx k).Perm l := by
  induction l generalizing k with
  | nil => simp at h
  | cons x l ih =>
    cases k with
    | zero =>
      simp at h
      subst h
      exact .refl _
    | succ k =>
      have q := ih (k := k) (by simpa using h)
      simp only [List.eraseIdx_cons_succ]
      exact (List.Perm.swap x y _).trans (q.cons x)
theorem ok__law_ps_order (p : Prog K mg) : FnG P w K mg base CX0 2 p.f__law_ps_order p.fd__law_ps_order ["_law_sack", "_law_takes"] (spP 1000 w__law_ps_order) := by
  refine okG p.d__law_ps_order.F sc__law_ps_order (fun vs H Q E h => ?_) (fun cdv A outer s H vs Q E hg hr h => ?_)
  · obtain ⟨p, b, vs', S, ds, G, rfl, _, _, r, _, ⟨m, rfl, _⟩, _⟩ := h
    exact congrArg Nat.succ r.length
  · obtain ⟨u, b, vs', S, ds, G, rfl, hp, hb, r, np, ⟨n, rfl, n0, n1, q⟩, k⟩ := h
    obtain ⟨v1, rfl, hS⟩ := enterP1 r hp np
    obtain rfl := hS.fint (by walk_at "mem")
    refine ⟨_, (pss_cons (ps_par (i := 2) (j := 3) rfl sc__law_ps_order.nd rfl rfl (by decide) rfl rfl (pa_cons (pe_listRg rfl (by rfl) p.blt.list (prg_2 (by rfl) p.blt.range pe_int (pe_op op_add (pv 1) pe_int))) (pa_cons (pe_lst pa_nil) pa_nil)) (by rfl))
      (pss_cons (ps_for PassesOwn.never rfl (pi_range1 (by rfl) p.blt.range (pa_cons (pv 1) pa_nil)) (pg_name (i := 4) sc__law_ps_order.nd rfl (Or.inl rfl))
      (pss_one (ps_expr (pe_bm PySem.F.plainAttrs_list PySem.F.slot_list_append PySem.F.type_list_append mt_append (pv 3) (pa_cons (pe_bm PySem.F.plainAttrs_list PySem.F.slot_list_pop PySem.F.type_list_pop mt_popAt (pv 2) (pa_cons (pe_callG ((ok__law_coin p).mono (by decide)) hg hr (by rfl) p.d__law_coin.gl p.d__law_coin.kp p.d__law_coin.bd pass0 (pa_cons (pv 0) (pa_cons (pe_callB call_len_seq (by rfl) p.blt.len PySem.boot_len (pa_cons (pv 2) pa_nil)) pa_nil))) pa_nil)) pa_nil)))))
      (pss_one (ps_ret (pv 3))))), ?_⟩
    refine ⟨_, rfl, _, _, rfl, rfl, _, _, rfl, rfl, RgOk.of_le (by omega) (by omega) (by omega) (by omega), fun l hl => ?_⟩
    rw [rgV_map]
    have h1 := hS.mkInts (ns := rg 1 (n + 1)) hl
    refine ⟨szle (by simp), fun o ho => ⟨_, _, rfl, ?_⟩⟩
    have h2 := h1.mkInts (ns := []) ho
    refine ⟨_, rfl, n, rfl, by omega, by omega, for_range (fun i σ H1 => ∃ y4 pool puts, σ = [some (.ref u), some (.int n), some (.ref l), some (.ref o), y4] ∧ St H (some u) (some (u, b + i)) [(.int n, .int n)] [(.ref o, dI puts), (.ref l, dI pool)] [] H1 ∧ (puts ++ pool).Perm (rg 1 (n + 1)) ∧ puts.length = i) ⟨none, rg 1 (n + 1), [], rfl, by simpa using h2, .refl _, rfl⟩ (fun i σ H1 hi hI => ?_) (fun σ H1 hI => ?_)⟩
    · obtain ⟨y4, pool, puts, rfl, h3, pm, el⟩ := hI
      have lp : puts.length + pool.length = n.toNat := by
        have := pm.length_eq
        rw [List.length_append, rg_length] at this
        omega
      obtain ⟨ho1, _⟩ := h3.putInts
      have h3' := h3.front (.tl .hd)
      obtain ⟨hl1, _⟩ := h3'.putInts
      refine ⟨_, rfl, .inl ⟨rfl, _, SqL.of ho1⟩, _, rfl, .inl ⟨rfl, _, SqL.of hl1⟩, _, rfl, _, rfl, l, _, rfl, .inl (SqL.of hl1), ?_⟩
      rw [ints_len]
      refine h3.callP (vs := [.int (pool.length : Nat)]) (by omega) (.cons (.int _) .nil) ⟨_, rfl, by omega, by omega, fun r r0 r1 v' H2 h4 => ?_⟩
      obtain ⟨rfl, h4'⟩ := h4.int
      have h5 := h4'.front (.tl .hd)
      obtain ⟨hl2, kp⟩ := h5.putInts
      have hy : pool[r.toNat]? = some pool[r.toNat] := List.getElem?_eq_getElem (by omega)
      refine ⟨l, _, r, r.toNat, _, rfl, rfl, hl2, by omega, by omega, seqIndex_of r0 (by rw [ints_len]; exact r1), ints_at hy, ?_⟩
      have h6 := kp (pool.eraseIdx r.toNat)
      rw [← map_erase] at h6
      have h7 := h6.front (.tl .hd)
      obtain ⟨ho2, kp2⟩ := h7.putInts
      refine ⟨o, _, _, rfl, rfl, ho2, szlt (by rw [ints_len]; omega), ?_⟩
      have h8 := kp2 (puts ++ [pool[r.toNat]])
      refine ⟨_, pool.eraseIdx r.toNat, puts ++ [pool[r.toNat]], rfl, ?_, ?_, by simp [el]⟩
      · have eb : b + (i : Int) + 1 = b + ((i + 1 : Nat) : Int) := by omega
        rw [eb] at h8
        simpa using h8
      · rw [List.append_assoc]
        refine List.Perm.trans (List.Perm.append_left _ ?_) pm
        exact erase_perm hy
    · obtain ⟨y4, pool, puts, rfl, h3, pm, el⟩ := hI
      have lp : puts.length + pool.length = n.toNat := by
        have := pm.length_eq
        rw [List.length_append, rg_length] at this
        omega
      have e0 : pool = [] := List.eq_nil_of_length_eq_zero (by omega)
      subst e0
      rw [List.append_nil] at pm
      obtain ⟨fr, pu, nw⟩ := h3.leaveP (c := b + 1000) (by omega)
      exact ⟨_, rfl, k _ _ _ (q puts pm) fr pu nw⟩
/-! ### _law_ps_drawn -/
/-- any effect within the bounds -/
def w__law_ps_drawn : Tw := fun ds Q => ∃ deep most, ds = [.int deep, .int most] ∧ 0 ≤ deep ∧ deep ≤ 100 ∧ 0 ≤ most ∧ most ≤ 100 ∧ ∀ n gs, Eff (n, gs) → n ≤ deep → (gs.length : Int) ≤ most → Q (.tuple [.int n, dI gs])
def menu8 : List (Int × List Int) := [(1, [1, 1]), (1, []), (2, [2, 1]), (2, [2, 1, 2]), (3, [3, 1, 2]), (2, [1]), (2, [1, 1]), (3, [2, 1])]
theorem menu8_eff : ∀ e ∈ menu8, Eff e := by
  intro e he
  simp only [menu8, List.mem_cons, List.not_mem_nil, or_false] at he
  rcases he with rfl | rfl | rfl | rfl | rfl | rfl | rfl | rfl <;> exact ⟨by decide, by decide, by decide⟩
theorem perm_rg {n : Int} (h : 0 ≤ n) {gs : List Int} (pm : gs.Perm (rg 1 (n + 1))) : (gs.length : Int) = n ∧ ∀ x ∈ gs, 1 ≤ x ∧ x ≤ n := by
  refine ⟨?_, fun x hx => ?_⟩
  · rw [pm.length_eq, rg_length]
    omega
  · have := mem_rg.mp (pm.mem_iff.mp hx)
    omega
theorem ok__law_ps_drawn (p : Prog K mg) : FnG P w K mg base CX0 3 p.f__law_ps_drawn p.fd__law_ps_drawn ["_law_sack", "_law_deep", "_law_most"] (spP 10000 w__law_ps_drawn) := by
  refine okG p.d__law_ps_drawn.F sc__law_ps_drawn (fun vs H Q E h => ?_) (fun cdv A outer s H vs Q E hg hr h => ?_)
  · obtain ⟨p, b, vs', S, ds, G, rfl, _, _, r, _, ⟨d, m, rfl, _⟩, _⟩ := h
    exact congrArg Nat.succ r.length
  · obtain ⟨u, b, vs', S, ds, G, rfl, hp, hb, r, np, ⟨deep, most, rfl, d0, d1, m0, m1, q⟩, k⟩ := h
    obtain ⟨v1, v2, rfl, hS⟩ := enterP2 r hp np
    obtain rfl := hS.fint (v := v1) (by walk_at "mem")
    obtain rfl := hS.fint (v := v2) (by walk_at "mem")
    -- a way out: a pair of a number and a list that is owned
    have out : ∀ {n : Int} {gs : List Int} {c : Int} {l : Addr} {Fz Ow : List (V × D)} {Tp : List (Addr × List V)} {H1 : Hp}, St H (some u) (some (u, c)) Fz ((.ref l, dI gs) :: Ow) Tp H1 → c ≤ b + 10000 → Eff (n, gs) → n ≤ deep → (gs.length : Int) ≤ most →
        2 ≤ sizeLine ∧ ∀ z, H1 z = none → Q (.ref z) (upd H1 z (.tup [.int n, .ref l])) := fun {n gs c l Fz Ow Tp H1} h1 hc ef hn hl => ⟨szle (by omega), fun z hz => by
      have h2 := (h1.mkTup (vs := [.int n, .ref l]) hz).take (.tp2 (List.Mem.head _) (.int _) (.own .hd))
      obtain ⟨fr, pu, nw⟩ := h2.leaveP hc
      exact k _ _ _ (q _ _ ef hn hl) fr pu nw⟩
    refine ⟨_, (pss_cons (ps_asg (pe_tup (pa_cons (pe_callG ((ok__law_coin p).mono (by decide)) hg hr (by rfl) p.d__law_coin.gl p.d__law_coin.kp p.d__law_coin.bd pass0 (pa_cons (pv 0) (pa_cons pe_int pa_nil))) (pa_cons (pe_callG ((ok__law_coin p).mono (by decide)) hg hr (by rfl) p.d__law_coin.gl p.d__law_coin.kp p.d__law_coin.bd pass0 (pa_cons (pv 0) (pa_cons (pe_op op_add (pv 1) pe_int) pa_nil))) pa_nil))) (pg_tup rfl (pgs_cons (pg_name (i := 3) sc__law_ps_drawn.nd rfl (Or.inl rfl)) (pgs_cons (pg_name (i := 4) sc__law_ps_drawn.nd rfl (Or.inr rfl)) pgs_nil))))
      (C8.pss_cut (ps_if (pt_cmpR op_eq (pv 3) pe_int (nomark _))
      (pss_cons (ps_set (i := 5) sc__law_ps_drawn.nd rfl (Or.inl rfl) (pe_lst (pa_cons (pe_tup (pa_cons pe_int (pa_cons (pe_lst (pa_cons pe_int (pa_cons pe_int pa_nil))) pa_nil))) (pa_cons (pe_tup (pa_cons pe_int (pa_cons (pe_lst pa_nil) pa_nil))) (pa_cons (pe_tup (pa_cons pe_int (pa_cons (pe_lst (pa_cons pe_int (pa_cons pe_int pa_nil))) pa_nil))) (pa_cons (pe_tup (pa_cons pe_int (pa_cons (pe_lst (pa_cons pe_int (pa_cons pe_int (pa_cons pe_int pa_nil)))) pa_nil))) (pa_cons (pe_tup (pa_cons pe_int (pa_cons (pe_lst (pa_cons pe_int (pa_cons pe_int (pa_cons pe_int pa_nil)))) pa_nil))) (pa_cons (pe_tup (pa_cons pe_int (pa_cons (pe_lst (pa_cons pe_int pa_nil)) pa_nil))) (pa_cons (pe_tup (pa_cons pe_int (pa_cons (pe_lst (pa_cons pe_int (pa_cons pe_int pa_nil))) pa_nil))) (pa_cons (pe_tup (pa_cons pe_int (pa_cons (pe_lst (pa_cons pe_int (pa_cons pe_int pa_nil))) pa_nil))) pa_nil))))))))))
      (pss_cons (ps_set (i := 6) sc__law_ps_drawn.nd rfl (Or.inl rfl) (pe_ix ix_list (pv 5) (pe_callG ((ok__law_coin p).mono (by decide)) hg hr (by rfl) p.d__law_coin.gl p.d__law_coin.kp p.d__law_coin.bd pass0 (pa_cons (pv 0) (pa_cons pe_int pa_nil))) (fun _ _ => rfl)))
      (pss_one (ps_if (PW.pt (pw_and (pt_cmpR op_le (pe_ix ix_tup (pv 6) pe_int (fun _ _ => rfl)) (pv 1) (nomark _)) (pw_and1 (pt_cmpR op_le (pe_callB call_len_seq (by rfl) p.blt.len PySem.boot_len (pa_cons (pe_ix ix_tup (pv 6) pe_int (fun _ _ => rfl)) pa_nil)) (pv 2) (nomark _)))))
      (pss_one (ps_ret (pe_tup (pa_cons (pe_ix ix_tup (pv 6) pe_int (fun _ _ => rfl)) (pa_cons (pe_callTy call_list_of (by rfl) p.blt.list (by decide +kernel) (pa_cons (pe_ix ix_tup (pv 6) pe_int (fun _ _ => rfl)) pa_nil)) pa_nil))))) pss_nil)))) pss_nil)
      (pss_cons (ps_if (pt_cmpR op_eq (pv 3) pe_int (nomark _))
      (pss_cons (ps_set (i := 4) sc__law_ps_drawn.nd rfl (Or.inr rfl) (pe_callB (call_min2 rfl) (by rfl) p.blt.min (by decide +kernel) (pa_cons (pv 4) (pa_cons (pv 2) pa_nil))))
      (pss_one (ps_ret (pe_tup (pa_cons (pv 4) (pa_cons (pe_callG ((ok__law_ps_order p).mono (by decide)) hg hr (by rfl) p.d__law_ps_order.gl p.d__law_ps_order.kp p.d__law_ps_order.bd pass0 (pa_cons (pv 0) (pa_cons (pv 4) pa_nil))) pa_nil)))))) pss_nil)
      (pss_cons (ps_if (pt_cmpR op_eq (pv 3) pe_int (nomark _))
      (pss_cons (ps_set (i := 4) sc__law_ps_drawn.nd rfl (Or.inr rfl) (pe_callB (call_min2 rfl) (by rfl) p.blt.min (by decide +kernel) (pa_cons (pv 4) (pa_cons (pv 2) pa_nil))))
      (pss_cons (ps_set (i := 7) sc__law_ps_drawn.nd rfl (Or.inl rfl) (pe_callG ((ok__law_ps_order p).mono (by decide)) hg hr (by rfl) p.d__law_ps_order.gl p.d__law_ps_order.kp p.d__law_ps_order.bd pass0 (pa_cons (pv 0) (pa_cons (pv 4) pa_nil))))
      (pss_cons (ps_set (i := 8) sc__law_ps_drawn.nd rfl (Or.inl rfl) (pe_callG ((ok__law_coin p).mono (by decide)) hg hr (by rfl) p.d__law_coin.gl p.d__law_coin.kp p.d__law_coin.bd pass0 (pa_cons (pv 0) (pa_cons (pe_op op_add (pe_callB call_len_seq (by rfl) p.blt.len PySem.boot_len (pa_cons (pv 7) pa_nil)) pe_int) pa_nil))))
      (pss_cons (ps_if (PW.pt (pw_or (pt_cmpR op_eq (pe_callG ((ok__law_coin p).mono (by decide)) hg hr (by rfl) p.d__law_coin.gl p.d__law_coin.kp p.d__law_coin.bd pass0 (pa_cons (pv 0) (pa_cons pe_int pa_nil))) pe_int (nomark _)) (pw_or (pt_cmpR op_eq (pe_callB call_len_seq (by rfl) p.blt.len PySem.boot_len (pa_cons (pv 7) pa_nil)) (pv 2) (nomark _)) (pw_or1 (pt_cmpR (op_eqD hr.units) (pv 7) (pe_lst pa_nil) (nomark _))))))
      (pss_one (ps_ret (pe_tup (pa_cons (pv 4) (pa_cons (pe_op op_cat (pe_slice sl_list (pv 7) po_none (po_some (pv 8))) (pe_slice sl_list (pv 7) (po_some (pe_op op_add (pv 8) pe_int)) po_none)) pa_nil))))) pss_nil)
      (pss_one (ps_ret (pe_tup (pa_cons (pv 4) (pa_cons (pe_op op_cat (pe_op op_cat (pe_slice sl_list (pv 7) po_none (po_some (pv 8))) (pe_lst (pa_cons (pe_ix ix_list (pv 7) (pe_callG ((ok__law_coin p).mono (by decide)) hg hr (by rfl) p.d__law_coin.gl p.d__law_coin.kp p.d__law_coin.bd pass0 (pa_cons (pv 0) (pa_cons (pe_callB call_len_seq (by rfl) p.blt.len PySem.boot_len (pa_cons (pv 7) pa_nil)) pa_nil))) (fun _ _ => rfl)) pa_nil))) (pe_slice sl_list (pv 7) (po_some (pv 8)) po_none)) pa_nil))))))))) pss_nil)
      (pss_cons (ps_if (pt_cmpR op_eq (pv 3) pe_int (nomark _))
      (pss_cons (ps_set (i := 9) sc__law_ps_drawn.nd rfl (Or.inr rfl) (pe_callG ((ok__law_coin p).mono (by decide)) hg hr (by rfl) p.d__law_coin.gl p.d__law_coin.kp p.d__law_coin.bd pass0 (pa_cons (pv 0) (pa_cons (pe_op op_add (pv 4) pe_int) pa_nil))))
      (pss_cons (ps_set (i := 4) sc__law_ps_drawn.nd rfl (Or.inr rfl) (pe_callB (call_min2 rfl) (by rfl) p.blt.min (by decide +kernel) (pa_cons (pv 4) (pa_cons (pe_op op_add (pv 9) (pv 2)) pa_nil))))
      (pss_cons (ps_set (i := 10) sc__law_ps_drawn.nd rfl (Or.inl rfl) (pe_ifExp (pt_cmpR op_gt (pv 9) pe_int (nomark _)) (pe_callG ((ok__law_coin p).mono (by decide)) hg hr (by rfl) p.d__law_coin.gl p.d__law_coin.kp p.d__law_coin.bd pass0 (pa_cons (pv 0) (pa_cons (pe_op op_add (pe_op op_add (pe_op op_sub (pv 2) (pv 4)) (pv 9)) pe_int) pa_nil))) pe_int))
      (pss_cons (ps_setLc (i := 7) (own := [("_law_turn", 11)]) (g := gName 11) (tt := tYes) rfl sc__law_ps_drawn.nd rfl rfl (sw_true rfl rfl rfl (by decide +kernel)) (pi_range1 (by rfl) p.blt.range (pa_cons (pv 10) pa_nil)) (blkOk_by (N := N__law_ps_drawn) (sc := defScope s__law_ps_drawn) (by decide +kernel)) (fun _ _ _ _ _ => pg_name (i := 11) sc__law_ps_drawn.nd rfl (Or.inl rfl)) (fun _ _ _ _ _ => pts_nil) (fun _ _ _ _ _ => (pe_op op_add pe_int (pe_callG ((ok__law_coin p).mono (by decide)) hg hr (by rfl) p.d__law_coin.gl p.d__law_coin.kp p.d__law_coin.bd pass0 (pa_cons (pv 0) (pa_cons (pv 9) pa_nil))))))
      (pss_one (ps_ret (pe_tup (pa_cons (pv 4) (pa_cons (pe_op op_cat (pv 7) (pe_listRg rfl (by rfl) p.blt.list (prg_2 (by rfl) p.blt.range (pe_op op_add (pv 9) pe_int) (pe_op op_add (pv 4) pe_int)))) pa_nil))))))))) pss_nil)
      (pss_cons (ps_set (i := 10) sc__law_ps_drawn.nd rfl (Or.inl rfl) (pe_ifExp (pt_cmpR op_gt (pv 4) pe_int (nomark _)) (pe_callG ((ok__law_coin p).mono (by decide)) hg hr (by rfl) p.d__law_coin.gl p.d__law_coin.kp p.d__law_coin.bd pass0 (pa_cons (pv 0) (pa_cons (pe_op op_add (pv 2) pe_int) pa_nil))) pe_int))
      (C8.pss_cut (ps_if (pt_cmpR op_eq (pv 3) pe_int (nomark _))
      (pss_one (ps_set (i := 10) sc__law_ps_drawn.nd rfl (Or.inl rfl) (pe_callB (call_min2 rfl) (by rfl) p.blt.min (by decide +kernel) (pa_cons (pv 10) (pa_cons pe_int pa_nil))))) pss_nil)
      (pss_one (ps_ret (pe_tup (pa_cons (pv 4) (pa_cons (pe_lc (own := [("_law_turn", 11)]) (g := gName 11) (tt := tYes) rfl sc__law_ps_drawn.nd (pi_range1 (by rfl) p.blt.range (pa_cons (pv 10) pa_nil)) (blkOk_by (N := N__law_ps_drawn) (sc := defScope s__law_ps_drawn) (by decide +kernel)) (fun _ _ _ _ _ => pg_name (i := 11) sc__law_ps_drawn.nd rfl (Or.inl rfl)) (fun _ _ _ _ _ => pts_nil) (fun _ _ _ _ _ => (pe_op op_add pe_int (pe_callG ((ok__law_coin p).mono (by decide)) hg hr (by rfl) p.d__law_coin.gl p.d__law_coin.kp p.d__law_coin.bd pass0 (pa_cons (pv 0) (pa_cons (pv 4) pa_nil)))))) pa_nil)))))))))))), ?_⟩
    -- sort, takes = coin(6), coin(deep + 1)
    refine ⟨_, rfl, hS.callP (vs := [.int 6]) (by omega) (.cons (.int _) .nil) ⟨6, rfl, by omega, by omega, fun so s0 s1 v' H1 h1 => ?_⟩⟩
    obtain ⟨rfl, h1'⟩ := h1.int
    refine ⟨_, rfl, _, rfl, _, _, rfl, rfl, h1'.callP (vs := [.int (deep + 1)]) (by omega) (.cons (.int _) .nil) ⟨_, rfl, by omega, by omega, fun ta t0 t1 v' H2 h2 => ?_⟩⟩
    obtain ⟨rfl, h2'⟩ := h2.int
    refine ⟨szle (by simp), fun z hz => ?_⟩
    have h3 := h2'.mkTup (vs := [.int so, .int ta]) hz
    refine ⟨z, _, rfl, SqT.of upd_same, rfl, _, _, rfl, _, _, rfl, rfl, ?_⟩
    -- if sort == 0
    refine ⟨fun σ' H' => ∃ y5 y6 c Fz Ow Tp, σ' = [some (.ref u), some (.int deep), some (.int most), some (.int so), some (.int ta), y5, y6, none, none, none, none, none] ∧ St H (some u) (some (u, c)) Fz Ow Tp H' ∧ c ≤ b + 3, ?_, ?_⟩
    · refine ⟨_, rfl, rfl, _, rfl, ?_⟩
      rw [dec_eq_int]
      by_cases e0 : so = 0
      · rw [decide_eq_true e0]
        refine iteT ?_
        refine w_asg (w_lit h3 (d := .list (menu8.map dE)) (by walk_at "lit") (fun v H4 h4 => ?_))
        have h5 := h4.freeze
        refine ⟨_, rfl, _, rfl, h5.callP (vs := [.int 8]) (by omega) (.cons (.int _) .nil) ⟨8, rfl, by omega, by omega, fun x x0 x1 v' H6 h6 => ?_⟩⟩
        obtain ⟨rfl, h6'⟩ := h6.int
        obtain ⟨⟨n, gs⟩, hx⟩ : ∃ e, menu8[x.toNat]? = some e := ⟨_, List.getElem?_eq_getElem (show x.toNat < menu8.length from by show x.toNat < 8; omega)⟩
        have ef := menu8_eff _ (List.mem_of_getElem? hx)
        obtain ⟨a, vs, w', rfl, ea, _, ew, h7⟩ := h6'.fget (i := x.toNat) (d := dE (n, gs)) (by walk_at "mem") (by rw [List.getElem?_map, hx]; rfl)
        obtain ⟨t, w1, w2, rfl, h8⟩ := h7.ftup2 (by walk_at "mem")
        obtain rfl := h8.fint (v := w1) (i := n) (by walk_at "mem")
        obtain ⟨l, rfl, hl⟩ := h8.rints (v := w2) (ns := gs) (.fz (by walk_at "mem"))
        have ht := h8.tp (t := t) (by walk_at "mem")
        refine ⟨a, vs, x, .ref t, rfl, rfl, SqL.of ea, at_nat (k := x.toNat) (by omega) ew, ?_⟩
        refine ⟨_, rfl, t, _, _, _, rfl, rfl, SqT.of ht, atI_nat (j := 0) rfl, _, rfl, _, _, rfl, rfl, _, rfl, ?_⟩
        have fall : ∀ y5 y6, ∃ y5' y6' c Fz Ow Tp, [some (V.ref u), some (.int deep), some (.int most), some (.int so), some (.int ta), y5, y6, none, none, none, none, none] = [some (V.ref u), some (.int deep), some (.int most), some (.int so), some (.int ta), y5', y6', none, none, none, none, none] ∧ St H (some u) (some (u, c)) Fz Ow Tp H6 ∧ c ≤ b + 3 := fun y5 y6 => ⟨y5, y6, _, _, _, _, rfl, h8, by omega⟩
        refine iteB (fun c1 => ?_) (fun c1 => iteF (fall _ _))
        refine ⟨_, rfl, t, _, _, _, rfl, rfl, SqT.of ht, atI_nat (j := 1) rfl, l, _, rfl, .inl (SqL.of hl), _, rfl, _, _, rfl, rfl, _, rfl, ?_⟩
        rw [ints_len]
        refine iteB (fun c2 => ?_) (fun c2 => fall _ _)
        refine ⟨_, rfl, t, _, _, _, rfl, rfl, SqT.of ht, atI_nat (j := 0) rfl, _, rfl, t, _, _, _, rfl, rfl, SqT.of ht, atI_nat (j := 1) rfl, l, _, rfl, .inl (SqL.of hl), fun o ho => ?_⟩
        exact out (h8.mkInts ho) (by omega) ef (of_decide_eq_true c1) (of_decide_eq_true c2)
      · rw [decide_eq_false e0]
        exact iteF ⟨_, _, _, _, _, _, rfl, h3, by omega⟩
    · intro σ' H' hI
      obtain ⟨y5, y6, c, Fz, Ow, Tp, rfl, h4, hc⟩ := hI
      -- if sort == 1
      refine ⟨_, rfl, rfl, _, rfl, ?_⟩
      rw [dec_eq_int]
      by_cases e1 : so = 1
      · rw [decide_eq_true e1]
        refine iteT ?_
        obtain ⟨tk, etk, a1, a2, a3⟩ : ∃ tk, (if most < ta then most else ta) = tk ∧ 0 ≤ tk ∧ tk ≤ ta ∧ tk ≤ most := ⟨_, rfl, by split <;> omega, by split <;> omega, by split <;> omega⟩
        refine ⟨_, rfl, _, rfl, _, _, rfl, ?_⟩
        rw [etk]
        refine ⟨_, rfl, _, rfl, _, rfl, h4.callP (vs := [.int tk]) (by omega) (.cons (.int _) .nil) ⟨tk, rfl, a1, by omega, fun gs pm v' H5 h5 => ?_⟩⟩
        obtain ⟨l, rfl, _⟩ := h5.rints (v := v') (ns := gs) (.ow (List.Mem.head _))
        obtain ⟨p1, p2⟩ := perm_rg a1 pm
        exact out h5 (by omega) ⟨a1, fun x hx => (p2 x hx).1, fun x hx => (p2 x hx).2⟩ (by omega) (by omega)
      rw [decide_eq_false e1]
      refine iteF ?_
      -- if sort == 2
      refine ⟨_, rfl, rfl, _, rfl, ?_⟩
      rw [dec_eq_int]
      by_cases e2 : so = 2
      · rw [decide_eq_true e2]
        refine iteT ?_
        obtain ⟨tk, etk, a1, a2, a3⟩ : ∃ tk, (if most < ta then most else ta) = tk ∧ 0 ≤ tk ∧ tk ≤ ta ∧ tk ≤ most := ⟨_, rfl, by split <;> omega, by split <;> omega, by split <;> omega⟩
        refine ⟨_, rfl, _, rfl, _, _, rfl, ?_⟩
        rw [etk]
        refine ⟨_, rfl, _, rfl, h4.callP (vs := [.int tk]) (by omega) (.cons (.int _) .nil) ⟨tk, rfl, a1, by omega, fun gs pm v' H5 h5 => ?_⟩⟩
        obtain ⟨l, rfl, hl⟩ := h5.rints (v := v') (ns := gs) (.ow (List.Mem.head _))
        obtain ⟨p1, p2⟩ := perm_rg a1 pm
        -- rank
        refine ⟨_, rfl, _, rfl, l, _, rfl, .inl (SqL.of hl), _, _, rfl, rfl, ?_⟩
        rw [ints_len]
        refine h5.callP (vs := [.int _]) (by omega) (.cons (.int _) .nil) ⟨_, rfl, by omega, by omega, fun ra r0 r1 v' H6 h6 => ?_⟩
        obtain ⟨rfl, h6'⟩ := h6.int
        obtain ⟨rn, rfl⟩ : ∃ rn : Nat, ra = (rn : Int) := ⟨ra.toNat, by omega⟩
        -- one thing left out
        have wayA : ∀ (c' : Int) Fz Ow Tp (H' : Hp), St H (some u) (some (u, c')) Fz ((.ref l, dI gs) :: Ow) Tp H' → c' ≤ b + 5000 → tRet (tTup (tCons (tVar 4) (tCons (tOp rCat (tSl (rSlL K) (tVar 7) tNoPart (tPart (tVar 8))) (tSl (rSlL K) (tVar 7) (tPart (tOp (rI0 fun i j => .int (i + j)) (tVar 8) (tC (.int 1)))) tNoPart)) tNil))) ⟨fun _ H' => Q .non H', Q, fun _ _ => False, fun _ _ => False⟩
            [some (.ref u), some (.int deep), some (.int most), some (.int so), some (.int tk), y5, y6, some (.ref l), some (.int (rn : Int)), none, none, none] H' := fun c' Fz Ow Tp H' h7 hc' => by
          obtain ⟨hl7, _⟩ := h7.putInts
          refine ⟨_, rfl, _, rfl, _, rfl, _, rfl, l, _, rfl, SqL.of hl7, fun o ho => ?_⟩
          rw [cutV_to, ← List.map_take]
          have h8 := h7.mkInts (ns := gs.take rn) ho
          obtain ⟨ho8, _⟩ := h8.putInts
          obtain ⟨hl8, _⟩ := (h8.front (.tl .hd)).putInts
          refine ⟨_, rfl, _, rfl, _, _, rfl, rfl, _, rfl, l, _, rfl, SqL.of hl8, fun e he => ?_⟩
          have er : ((rn : Int) + 1) = ((rn + 1 : Nat) : Int) := by omega
          rw [er, cutV_from, ← List.map_drop]
          have h9 := h8.mkInts (ns := gs.drop (rn + 1)) he
          obtain ⟨he9, _⟩ := h9.putInts
          obtain ⟨ho9, _⟩ := (h9.front (.tl .hd)).putInts
          refine ⟨o, e, _, _, rfl, rfl, ho9, he9, szle (by rw [ints_len, ints_len, List.length_take, List.length_drop]; omega), fun y hy => ?_⟩
          rw [← List.map_append]
          refine out (h9.mkInts hy) (by omega) ⟨a1, fun x hx => ?_, fun x hx => ?_⟩ (by omega) (by rw [List.length_append, List.length_take, List.length_drop]; omega)
          · rcases List.mem_append.mp hx with hx | hx
            · exact (p2 x (List.mem_of_mem_take hx)).1
            · exact (p2 x (List.mem_of_mem_drop hx)).1
          · rcases List.mem_append.mp hx with hx | hx
            · exact (p2 x (List.mem_of_mem_take hx)).2
            · exact (p2 x (List.mem_of_mem_drop hx)).2
        -- the test
        refine ⟨_, rfl, h6'.callP (vs := [.int 2]) (by omega) (.cons (.int _) .nil) ⟨2, rfl, by omega, by omega, fun x x0 x1 v' H7 h7 => ?_⟩⟩
        obtain ⟨rfl, h7'⟩ := h7.int
        refine ⟨rfl, _, rfl, iteB (fun _ => iteT (wayA _ _ _ _ _ h7' (by omega))) (fun _ => ?_)⟩
        obtain ⟨hl7, _⟩ := h7'.putInts
        refine ⟨_, rfl, l, _, rfl, .inl (SqL.of hl7), _, rfl, rfl, _, rfl, ?_⟩
        rw [ints_len, dec_eq_int]
        by_cases cm : (gs.length : Int) = most
        · rw [decide_eq_true cm]
          exact iteT (iteT (wayA _ _ _ _ _ h7' (by omega)))
        · rw [decide_eq_false cm]
          refine iteF ?_
          refine ⟨_, rfl, szle (by simp), fun o ho => ?_⟩
          have h8 := h7'.mkInts (ns := []) ho
          obtain ⟨ho8, _⟩ := h8.putInts
          have h8l := h8.front (.tl .hd)
          obtain ⟨hl8, _⟩ := h8l.putInts
          refine ⟨_, _, dp_ints hl8, dp_ints ho8, shaped_ints _, shaped_ints _, _, rfl, ?_⟩
          rw [eqv_ints]
          by_cases ce : gs = []
          · rw [decide_eq_true ce]
            exact iteT (wayA _ _ _ _ _ h8l (by omega))
          · rw [decide_eq_false ce]
            refine iteF ?_
            have gpos : 0 < gs.length := List.length_pos_iff.mpr ce
            -- one thing put once more
            refine ⟨_, rfl, _, rfl, _, rfl, _, rfl, l, _, rfl, SqL.of hl8, fun f hf => ?_⟩
            rw [cutV_to, ← List.map_take]
            have h9 := h8l.mkInts (ns := gs.take rn) hf
            obtain ⟨hl9, _⟩ := (h9.front (.tl .hd)).putInts
            refine ⟨_, rfl, _, rfl, _, rfl, l, _, rfl, .inl (SqL.of hl9), ?_⟩
            rw [ints_len]
            refine h9.callP (vs := [.int _]) (by omega) (.cons (.int _) .nil) ⟨_, rfl, by omega, by omega, fun j j0 j1 v' HA hA => ?_⟩
            obtain ⟨rfl, hA'⟩ := hA.int
            obtain ⟨hlA, _⟩ := (hA'.front (.tl .hd)).putInts
            obtain ⟨gj, hgj⟩ : ∃ e, gs[j.toNat]? = some e := ⟨_, List.getElem?_eq_getElem (show j.toNat < gs.length by omega)⟩
            refine ⟨l, _, j, _, rfl, rfl, SqL.of hlA, at_nat (k := j.toNat) (by omega) (ints_at hgj), szle (by simp), fun f2 hf2 => ?_⟩
            have hB := hA'.mkInts (ns := [gj]) hf2
            obtain ⟨hf2B, _⟩ := hB.putInts
            obtain ⟨hfB, _⟩ := (hB.front (.tl .hd)).putInts
            refine ⟨f, f2, _, _, rfl, rfl, hfB, hf2B, szle (by rw [ints_len, List.length_take]; simp; omega), fun f3 hf3 => ?_⟩
            have em : (gs.take rn).map V.int ++ [gj].map V.int = (gs.take rn ++ [gj]).map V.int := List.map_append.symm
            rw [em]
            have hC := hB.mkInts (ns := gs.take rn ++ [gj]) hf3
            obtain ⟨hf3C, _⟩ := hC.putInts
            obtain ⟨a', e', hlC⟩ := hC.rints (v := .ref l) (ns := gs) (.ow (by walk_at "mem"))
            cases e'
            refine ⟨_, rfl, _, rfl, _, rfl, l, _, rfl, SqL.of hlC, fun f4 hf4 => ?_⟩
            rw [cutV_from, ← List.map_drop]
            have hD := hC.mkInts (ns := gs.drop rn) hf4
            obtain ⟨hf4D, _⟩ := hD.putInts
            obtain ⟨hf3D, _⟩ := (hD.front (.tl .hd)).putInts
            refine ⟨f3, f4, _, _, rfl, rfl, hf3D, hf4D, szle (by rw [ints_len, ints_len, List.length_append, List.length_take, List.length_drop]; simp; omega), fun f5 hf5 => ?_⟩
            rw [← List.map_append]
            have gm := p2 gj (List.mem_of_getElem? hgj)
            have all : ∀ x ∈ gs.take rn ++ [gj] ++ gs.drop rn, 1 ≤ x ∧ x ≤ tk := fun x hx => by
              rcases List.mem_append.mp hx with hx | hx
              · rcases List.mem_append.mp hx with hx | hx
                · exact p2 x (List.mem_of_mem_take hx)
                · simp at hx
                  rw [hx]
                  exact gm
              · exact p2 x (List.mem_of_mem_drop hx)
            exact out (hD.mkInts hf5) (by omega) ⟨a1, fun x hx => (all x hx).1, fun x hx => (all x hx).2⟩ (by omega) (by rw [List.length_append, List.length_append, List.length_take, List.length_drop]; simp; omega)
      rw [decide_eq_false e2]
      refine iteF ?_
      -- if sort == 3
      refine ⟨_, rfl, rfl, _, rfl, ?_⟩
      rw [dec_eq_int]
      by_cases e3 : so = 3
      · rw [decide_eq_true e3]
        refine iteT ?_
        refine ⟨_, rfl, _, rfl, _, _, rfl, rfl, h4.callP (vs := [.int (ta + 1)]) (by omega) (.cons (.int _) .nil) ⟨_, rfl, by omega, by omega, fun up u0 u1 v' H5 h5 => ?_⟩⟩
        obtain ⟨rfl, h5'⟩ := h5.int
        obtain ⟨tk, etk, a1, a2, a3, a4⟩ : ∃ tk, (if up + most < ta then up + most else ta) = tk ∧ 0 ≤ tk ∧ tk ≤ ta ∧ tk ≤ up + most ∧ up ≤ tk := ⟨_, rfl, by split <;> omega, by split <;> omega, by split <;> omega, by split <;> omega⟩
        refine ⟨_, rfl, _, rfl, _, rfl, _, _, rfl, rfl, _, _, rfl, ?_⟩
        rw [etk]
        -- the end, with a number of drawn places
        have endU : ∀ (sz c' : Int) Fz Ow Tp (H' : Hp), 0 ≤ sz → sz ≤ most - tk + up → (0 < sz → 0 < up) → St H (some u) (some (u, c')) Fz Ow Tp H' → c' ≤ b + 5000 →
            (tSeq (tAsg (tLc (iRng1 (tCons (tVar 10) tNil)) (gName 11) tYes (tOp (rI0 fun i j => .int (i + j)) (tC (.int 1)) (tCall (spP 1 w__law_coin) [] E0 (tCons (tVar 0) (tCons (tVar 9) tNil)))) [11]) (gName 7))
              (tRet (tTup (tCons (tVar 4) (tCons (tOp rCat (tVar 7) (tLstRg (tRg2 (tOp (rI0 fun i j => .int (i + j)) (tVar 9) (tC (.int 1))) (tOp (rI0 fun i j => .int (i + j)) (tVar 4) (tC (.int 1)))))) tNil))))) ⟨fun _ H' => Q .non H', Q, fun _ _ => False, fun _ _ => False⟩
              [some (.ref u), some (.int deep), some (.int most), some (.int so), some (.int tk), y5, y6, none, none, some (.int up), some (.int sz), none] H' := fun sz c' Fz Ow Tp H' z0 z1 z2 h7 hc' => by
          refine w_asg (coins_lc h7 (i := 10) (j := 11) (k := 9) (n := sz) (m := up) rfl rfl rfl (by decide) (by decide) z0 (by omega) z2 (by omega) (by omega) fun gs l H8 el hg h8 => ?_)
          obtain ⟨hl8, _⟩ := h8.putInts
          refine ⟨_, rfl, _, rfl, _, rfl, _, _, rfl, rfl, _, rfl, _, _, rfl, rfl, _, _, rfl, rfl, RgOk.of_le (by omega) (by omega) (by omega) (by omega), fun o ho => ?_⟩
          rw [rgV_map]
          have h9 := h8.mkInts (ns := rg (up + 1) (tk + 1)) ho
          obtain ⟨ho9, _⟩ := h9.putInts
          obtain ⟨hl9, _⟩ := (h9.front (.tl .hd)).putInts
          have lr := rg_length (up + 1) (tk + 1)
          refine ⟨l, o, _, _, rfl, rfl, hl9, ho9, szle (by rw [ints_len, ints_len]; omega), fun y hy => ?_⟩
          rw [← List.map_append]
          have all : ∀ x ∈ gs ++ rg (up + 1) (tk + 1), 1 ≤ x ∧ x ≤ tk := fun x hx => by
            rcases List.mem_append.mp hx with hx | hx
            · have := hg x hx
              omega
            · have := mem_rg.mp hx
              omega
          exact out (h9.mkInts hy) (by omega) ⟨a1, fun x hx => (all x hx).1, fun x hx => (all x hx).2⟩ (by omega) (by rw [List.length_append]; omega)
        -- size = coin(..) if upper > 0 else 0
        refine ⟨_, rfl, _, _, rfl, rfl, _, rfl, ?_⟩
        refine iteB (fun c1 => ?_) (fun c1 => ?_)
        · have up0 : 0 < up := of_decide_eq_true c1
          refine ⟨_, rfl, _, rfl, _, rfl, _, _, rfl, rfl, _, rfl, _, _, rfl, rfl, _, _, rfl, rfl, h5'.callP (vs := [.int _]) (by omega) (.cons (.int _) .nil) ⟨_, rfl, by omega, by omega, fun sz z0 z1 v' H6 h6 => ?_⟩⟩
          obtain ⟨rfl, h6'⟩ := h6.int
          exact endU sz _ _ _ _ _ z0 (by omega) (fun _ => up0) h6' (by omega)
        · have up0 : ¬ 0 < up := of_decide_eq_false c1
          exact endU 0 _ _ _ _ _ (by omega) (by omega) (fun z => by omega) h5' (by omega)
      rw [decide_eq_false e3]
      refine iteF ?_
      -- the rest: any places
      have endS : ∀ (sz c' : Int) Fz Ow Tp (H' : Hp), 0 ≤ sz → sz ≤ most → (0 < sz → 0 < ta) → St H (some u) (some (u, c')) Fz Ow Tp H' → c' ≤ b + 5000 →
          tRet (tTup (tCons (tVar 4) (tCons (tLc (iRng1 (tCons (tVar 10) tNil)) (gName 11) tYes (tOp (rI0 fun i j => .int (i + j)) (tC (.int 1)) (tCall (spP 1 w__law_coin) [] E0 (tCons (tVar 0) (tCons (tVar 4) tNil)))) [11]) tNil))) ⟨fun _ H' => Q .non H', Q, fun _ _ => False, fun _ _ => False⟩
            [some (.ref u), some (.int deep), some (.int most), some (.int so), some (.int ta), y5, y6, none, none, none, some (.int sz), none] H' := fun sz c' Fz Ow Tp H' z0 z1 z2 h7 hc' => by
        refine w_ret ⟨_, rfl, coins_lc h7 (i := 10) (j := 11) (k := 4) (n := sz) (m := ta) rfl rfl rfl (by decide) (by decide) z0 (by omega) z2 (by omega) (by omega) fun gs l H8 el hg h8 => ?_⟩
        exact out h8 (by omega) ⟨by omega, fun x hx => (hg x hx).1, fun x hx => (hg x hx).2⟩ (by omega) (by omega)
      have mid : ∀ (sz c' : Int) Fz Ow Tp (H' : Hp), 0 ≤ sz → sz ≤ most → (0 < sz → 0 < ta) → St H (some u) (some (u, c')) Fz Ow Tp H' → c' ≤ b + 5000 →
          C8.tCut (tIfS (tTest (tOp rEq (tVar 3) (tC (.int 4)))) (tAsg (tCB (fun xs H Q => ∃ i j, xs = [.int i, .int j] ∧ Q (.int (if j < i then j else i)) H) (tCons (tVar 10) (tCons (tC (.int 4)) tNil))) (gName 10)) tNext)
            (tRet (tTup (tCons (tVar 4) (tCons (tLc (iRng1 (tCons (tVar 10) tNil)) (gName 11) tYes (tOp (rI0 fun i j => .int (i + j)) (tC (.int 1)) (tCall (spP 1 w__law_coin) [] E0 (tCons (tVar 0) (tCons (tVar 4) tNil)))) [11]) tNil)))) ⟨fun _ H' => Q .non H', Q, fun _ _ => False, fun _ _ => False⟩
            [some (.ref u), some (.int deep), some (.int most), some (.int so), some (.int ta), y5, y6, none, none, none, some (.int sz), none] H' := fun sz c' Fz Ow Tp H' z0 z1 z2 h7 hc' => by
        refine ⟨fun σ' H'' => H'' = H' ∧ ∃ sz', σ' = [some (.ref u), some (.int deep), some (.int most), some (.int so), some (.int ta), y5, y6, none, none, none, some (.int sz'), none] ∧ 0 ≤ sz' ∧ sz' ≤ most ∧ (0 < sz' → 0 < ta), ?_, fun σ' H'' hI => ?_⟩
        · refine ⟨_, rfl, rfl, _, rfl, ?_⟩
          refine iteB (fun _ => ?_) (fun _ => ⟨rfl, sz, rfl, z0, z1, z2⟩)
          refine ⟨_, rfl, _, _, rfl, rfl, _, rfl, ?_, ?_, ?_⟩
          · split <;> omega
          · split <;> omega
          · intro z
            refine z2 ?_
            revert z
            split <;> omega
        · obtain ⟨rfl, sz', rfl, y0, y1, y2⟩ := hI
          exact endS sz' _ _ _ _ _ y0 y1 y2 h7 hc'
      refine ⟨_, rfl, _, _, rfl, rfl, _, rfl, ?_⟩
      refine iteB (fun c1 => ?_) (fun c1 => ?_)
      · have ta0 : 0 < ta := of_decide_eq_true c1
        refine ⟨_, rfl, _, rfl, _, _, rfl, rfl, h4.callP (vs := [.int (most + 1)]) (by omega) (.cons (.int _) .nil) ⟨_, rfl, by omega, by omega, fun sz z0 z1 v' H6 h6 => ?_⟩⟩
        obtain ⟨rfl, h6'⟩ := h6.int
        exact mid sz _ _ _ _ _ z0 (by omega) (fun _ => ta0) h6' (by omega)
      · exact mid 0 _ _ _ _ _ (by omega) (by omega) (fun z => by omega) h4 (by omega)
/-! ### _law_ps_wider -/
/-- the effect with m more straight places -/
def w__law_ps_wider : Tw := fun ds Q => ∃ n gs deep most, ds = [.tuple [.int n, dI gs], .int deep, .int most] ∧ 0 ≤ n ∧ n ≤ 100000 ∧ gs.length ≤ 100000 ∧
  ∀ m : Int, 0 ≤ m → m ≤ 9 → (0 < m → n + m ≤ deep ∧ (gs.length : Int) + m ≤ most) → Q (dE (n + m, gs ++ rg (n + 1) (n + m + 1)))
theorem ok__law_ps_wider (p : Prog K mg) : FnG P w K mg base CX0 2 p.f__law_ps_wider p.fd__law_ps_wider ["_law_sack", "_law_fx", "_law_deep", "_law_most"] (spP 1 w__law_ps_wider) := by
  refine okG p.d__law_ps_wider.F sc__law_ps_wider (fun vs H Q E h => ?_) (fun cdv A outer s H vs Q E hg hr h => ?_)
  · obtain ⟨p, b, vs', S, ds, G, rfl, _, _, r, _, ⟨n, gs, d, m, rfl, _⟩, _⟩ := h
    exact congrArg Nat.succ r.length
  · obtain ⟨u, b, vs', S, ds, G, rfl, hp, hb, r, np, ⟨n, gs, deep, most, rfl, n0, n1, l1, q⟩, k⟩ := h
    obtain ⟨v1, v2, v3, rfl, hS⟩ := enterP3 r hp np
    obtain rfl := hS.fint (v := v2) (by walk_at "mem")
    obtain rfl := hS.fint (v := v3) (by walk_at "mem")
    obtain ⟨t, w1, w2, rfl, h1⟩ := hS.ftup2 (by walk_at "mem")
    obtain rfl := h1.fint (v := w1) (by walk_at "mem")
    obtain ⟨a, rfl, ha⟩ := h1.rints (v := w2) (.fz (by walk_at "mem"))
    have ht := h1.tp (t := t) (by walk_at "mem")
    refine ⟨_, (pss_cons (ps_set (i := 4) sc__law_ps_wider.nd rfl (Or.inl rfl) (pe_callG ((ok__law_coin p).mono (by decide)) hg hr (by rfl) p.d__law_coin.gl p.d__law_coin.kp p.d__law_coin.bd pass0 (pa_cons (pv 0) (pa_cons (pe_op op_add pe_int (pe_callB (call_max2 rfl) (by rfl) p.blt.max (by decide +kernel) (pa_cons pe_int (pa_cons (pe_callB (call_min3 rfl) (by rfl) p.blt.min (by decide +kernel) (pa_cons (pe_op op_sub (pv 2) (pe_ix ix_tup (pv 1) pe_int (fun _ _ => rfl))) (pa_cons (pe_op op_sub (pv 3) (pe_callB call_len_seq (by rfl) p.blt.len PySem.boot_len (pa_cons (pe_ix ix_tup (pv 1) pe_int (fun _ _ => rfl)) pa_nil))) (pa_cons pe_int pa_nil)))) pa_nil)))) pa_nil))))
      (pss_one (ps_ret (pe_tup (pa_cons (pe_op op_add (pe_ix ix_tup (pv 1) pe_int (fun _ _ => rfl)) (pv 4)) (pa_cons (pe_op op_cat (pe_ix ix_tup (pv 1) pe_int (fun _ _ => rfl)) (pe_listRg rfl (by rfl) p.blt.list (prg_2 (by rfl) p.blt.range (pe_op op_add (pe_ix ix_tup (pv 1) pe_int (fun _ _ => rfl)) pe_int) (pe_op op_add (pe_op op_add (pe_ix ix_tup (pv 1) pe_int (fun _ _ => rfl)) (pv 4)) pe_int)))) pa_nil)))))), ?_⟩
    -- more = coin(1 + max(0, min(deep - fx[0], most - len(fx[1]), 9)))
    refine ⟨_, rfl, _, rfl, _, rfl, t, _, _, _, rfl, rfl, SqT.of ht, atI_nat (j := 0) rfl, _, _, rfl, rfl, _, rfl, _, rfl, t, _, _, _, rfl, rfl, SqT.of ht, atI_nat (j := 1) rfl, a, _, rfl, .inl (SqL.of ha), _, _, rfl, rfl, _, _, _, rfl, _, _, rfl, _, _, rfl, rfl, ?_⟩
    rw [ints_len]
    refine h1.callP (vs := [.int _]) (by omega) (.cons (.int _) .nil) ⟨_, rfl, by split <;> omega, by split <;> omega, fun m m0 m1 v' H2 h2 => ?_⟩
    obtain ⟨rfl, h3⟩ := h2.int
    have m9 : m ≤ 9 := by
      revert m1
      split <;> omega
    have mb : 0 < m → n + m ≤ deep ∧ (gs.length : Int) + m ≤ most := by
      intro mp
      revert m1
      split <;> omega
    have qq := q m m0 m9 mb
    obtain ⟨a', e, ha3⟩ := h3.rints (v := .ref a) (.fz (by walk_at "mem"))
    cases e
    have ht3 := h3.tp (t := t) (by walk_at "mem")
    -- the pair
    refine ⟨_, rfl, t, _, _, _, rfl, rfl, SqT.of ht3, atI_nat (j := 0) rfl, _, rfl, _, _, rfl, rfl, ?_⟩
    refine ⟨_, rfl, t, _, _, _, rfl, rfl, SqT.of ht3, atI_nat (j := 1) rfl, ?_⟩
    refine ⟨_, rfl, t, _, _, _, rfl, rfl, SqT.of ht3, atI_nat (j := 0) rfl, _, _, rfl, rfl, _, rfl, t, _, _, _, rfl, rfl, SqT.of ht3, atI_nat (j := 0) rfl, _, rfl, _, _, rfl, rfl, _, _, rfl, rfl, _, _, rfl, rfl, RgOk.of_le (by omega) (by omega) (by omega) (by omega), fun l hl => ?_⟩
    rw [rgV_map]
    have h4 := h3.mkInts (ns := rg (n + 1) (n + m + 1)) hl
    obtain ⟨hl1, _⟩ := h4.putInts
    have lr := rg_length (n + 1) (n + m + 1)
    refine ⟨a, l, _, _, rfl, rfl, same_upd hl _ _ ha3, hl1, szle (by rw [ints_len, ints_len]; omega), fun o ho => ?_⟩
    rw [← List.map_append]
    have h5 := h4.mkInts (ns := gs ++ rg (n + 1) (n + m + 1)) ho
    refine ⟨szle (by simp), fun z hz => ?_⟩
    have h6 := (h5.mkTup hz).take (.tp2 (List.Mem.head _) (.int (n + m)) (.own .hd))
    obtain ⟨fr, pu, nw⟩ := h6.leaveP (c := b + 1) (by omega)
    exact k _ _ _ qq fr pu nw
/-! ### _law_ps_do -/
def w__law_ps_do : Tw := fun ds Q => ∃ n gs hp, ds = [.tuple [.int n, dI gs], dI hp] ∧ 0 ≤ n ∧ (∀ x ∈ gs, 1 ≤ x ∧ x ≤ (hp.length : Nat)) ∧ gs.length ≤ 100000 ∧ hp.length ≤ 100000 ∧ Q (dI (doE (n, gs) hp))
theorem ok__law_ps_do (p : Prog K mg) : FnG P w K mg base CX0 1 p.f__law_ps_do p.fd__law_ps_do ["_law_fx", "_law_heap"] (spT w__law_ps_do) := by
  refine okG p.d__law_ps_do.F sc__law_ps_do (fun vs H Q E h => ?_) (fun cdv A outer s H vs Q E hg hr h => ?_)
  · obtain ⟨S, ds, Gq, r, ⟨n, gs, hp, rfl, _⟩, _⟩ := h
    exact r.length
  · obtain ⟨S, ds, Gq, r, ⟨n, gs, hp, rfl, n0, hx, l1, l2, q⟩, k⟩ := h
    obtain ⟨v1, v2, rfl, hS⟩ := enter2 r
    obtain ⟨t, w1, w2, rfl, h1⟩ := hS.ftup2 (v := v1) (by walk_at "mem")
    obtain rfl := h1.fint (v := w1) (by walk_at "mem")
    obtain ⟨a, rfl, ha⟩ := h1.rints (v := w2) (ns := gs) (.fz (by walk_at "mem"))
    obtain ⟨b, rfl, hb⟩ := h1.rints (v := v2) (ns := hp) (.fz (by walk_at "mem"))
    have ht := h1.tp (t := t) (by walk_at "mem")
    refine ⟨_, (pss_one (ps_ret (pe_op op_cat (pe_lc (own := [("_law_rank", 2)]) (g := gName 2) (tt := tYes) rfl sc__law_ps_do.nd (pi_list (pe_ix ix_tup (pv 0) pe_int (fun _ _ => rfl))) (blkOk_by (N := N__law_ps_do) (sc := defScope s__law_ps_do) (by decide +kernel)) (fun _ _ _ _ _ => pg_name (i := 2) sc__law_ps_do.nd rfl (Or.inl rfl)) (fun _ _ _ _ _ => pts_nil) (fun _ _ _ _ _ => (pe_ix (show IxR _ (rIxL K) from ix_list) (pv 1) (pe_op op_sub (pv 2) pe_int) (fun _ _ => rfl)))) (pe_slice sl_list (pv 1) (po_some (pe_ix ix_tup (pv 0) pe_int (fun _ _ => rfl))) po_none)))), ?_⟩
    refine ⟨_, rfl, t, _, _, _, rfl, rfl, SqT.of ht, atI_nat (j := 1) rfl, a, rfl, ⟨_, SqL.of ha⟩, fun Dl hD => ?_⟩
    refine lc_map (fun x => hp.getD (x - 1).toNat 0) h1 hD (fun _ => .fz (by walk_at "mem")) (by omega) (fun x hxm gs' H1 h2 R hR => ?_) (fun H1 h2 => ?_)
    · obtain ⟨b', e, hb1⟩ := h2.rints (v := .ref b) (ns := hp) (.fz (by walk_at "mem"))
      cases e
      have b1 := hx x hxm
      have e : hp[(x - 1).toNat]? = some hp[(x - 1).toNat] := List.getElem?_eq_getElem (by omega)
      refine ⟨_, rfl, _, rfl, _, _, rfl, rfl, b, _, x - 1, _, rfl, rfl, SqL.of hb1, at_nat (k := (x - 1).toNat) (by omega) (ints_at e), ?_⟩
      rw [List.getD_eq_getElem?_getD, e] at hR
      exact hR
    · obtain ⟨b', e, hb1⟩ := h2.rints (v := .ref b) (ns := hp) (.fz (by walk_at "mem"))
      cases e
      have ht2 := h2.tp (t := t) (vs := [.int n, .ref a]) (by walk_at "mem")
      refine ⟨_, rfl, _, rfl, t, _, _, _, rfl, rfl, SqT.of ht2, atI_nat (j := 0) rfl, _, rfl, b, _, rfl, SqL.of hb1, fun c hc => ?_⟩
      obtain ⟨m, rfl⟩ : ∃ m : Nat, n = (m : Int) := ⟨n.toNat, by omega⟩
      rw [cutV_from, ← List.map_drop]
      have h3 := h2.mkInts (ns := hp.drop m) hc
      obtain ⟨hc1, _⟩ := h3.putInts
      obtain ⟨hD1, _⟩ := h2.putInts
      refine ⟨Dl, c, _, _, rfl, rfl, same_upd hc _ _ hD1, hc1, szle (by rw [ints_len, ints_len]; simp; omega), fun o ho => ?_⟩
      rw [← List.map_append]
      have h4 := h3.mkInts (ns := gs.map (fun x => hp.getD (x - 1).toNat 0) ++ hp.drop m) ho
      obtain ⟨sm, nw⟩ := h4.leave
      exact k _ _ _ q sm nw
/-! ### _law_ps_both -/
def bothE (e f : Int × List Int) : Int × List Int := leastE (cE e f f.1).1 (cE e f f.1).2
theorem doE_pre {n d : Int} {gs : List Int} (ef : Eff (n, gs)) (h0 : 0 ≤ d) : doE (n, gs) (rg 1 (n + d + 1)) = upE (n, gs) d := by
  have n0 : 0 ≤ n := ef.nn
  unfold doE upE
  have e1 : (rg 1 (n + d + 1)).drop n.toNat = rg (n + 1) (n + d + 1) := by
    have l := rg_length 1 (n + 1)
    rw [← rg_app (a := 1) (b := n + 1) (c := n + d + 1) (by omega) (by omega), List.drop_append_of_le_length (by omega), List.drop_of_length_le (by omega), List.nil_append]
  dsimp only
  rw [e1]
  congr 1
  conv => rhs; rw [← List.map_id gs]
  refine List.map_congr_left fun x hx => ?_
  have h1 : 1 ≤ x := ef.ge x hx
  have h2 : x ≤ n := ef.le x hx
  rw [rg_getD (by omega)]
  show _ = x
  omega
theorem both_join {e f : Int × List Int} (he : Eff e) (hf : Eff f) : bothE e f = joinE (leastE e.1 e.2) (leastE f.1 f.2) := by
  have h0 := hf.nn
  have le := (leastE_ok he).eff
  have lf := (leastE_ok hf).eff
  have ok : f.1 ≤ e.2.length + f.1 := by omega
  refine canon (leastE_ok (cE_eff he hf h0 ok)).eff (join_eff le lf) (leastE_idem _ _) join_lst fun r hr => ?_
  rw [from_join lf hr, from_least (n := f.1) (gs := f.2) hr, from_least (from_ge hf hr)]
  have e1 : fromE (bothE e f) r = fromE (cE e f f.1) r := from_least (n := (cE e f f.1).1) (gs := (cE e f f.1).2) hr
  rw [e1]
  exact from_c hf h0 ok hr
theorem join_bdB {e f : Int × List Int} (he : Eff e) (hf : Eff f) : (joinE e f).1 ≤ e.1 + f.1 ∧ (joinE e f).2.length ≤ f.2.length + e.2.length := by
  have h0 := hf.nn
  have mo := more_ok (e := e) (d := f.1)
  have ml : moreE e f.1 ≤ f.1 := by
    unfold moreE
    split <;> omega
  have ok := leastE_ok (cE_eff he hf mo.1 mo.2)
  have cl := cE_len (e := e) hf mo.1 mo.2
  have a1 : (joinE e f).1 ≤ e.1 + moreE e f.1 := ok.le
  have a2 : (joinE e f).2.length ≤ (cE e f (moreE e f.1)).2.length := ok.len
  exact ⟨by omega, by omega⟩
theorem from_nil {r : Int} (hr : 1 ≤ r) : fromE (0, []) r = r := by
  unfold fromE
  rw [if_neg (by simp; omega)]
  simp
theorem eff_nil : Eff (0, []) := ⟨Int.le_refl _, by simp, by simp⟩
theorem join_nil {e : Int × List Int} (he : Eff e) (le : Lst e) : joinE e (0, []) = e := canon (join_eff he eff_nil) he join_lst le fun r hr => by rw [from_join eff_nil hr, from_nil hr]
theorem nil_join {e : Int × List Int} (he : Eff e) (le : Lst e) : joinE (0, []) e = e := canon (join_eff eff_nil he) he join_lst le fun r hr => by rw [from_join he hr, from_nil (from_ge he hr)]
def w__law_ps_both : Tw := fun ds Q => ∃ n gs d ls, ds = [.tuple [.int n, dI gs], .tuple [.int d, dI ls]] ∧ Eff (n, gs) ∧ Eff (d, ls) ∧ n ≤ 1000 ∧ d ≤ 1000 ∧ gs.length ≤ 1000 ∧ ls.length ≤ 1000 ∧ Q (dE (joinE (leastE n gs) (leastE d ls)))
theorem ok__law_ps_both (p : Prog K mg) : FnG P w K mg base CX0 2 p.f__law_ps_both p.fd__law_ps_both ["_law_fx", "_law_gx"] (spT w__law_ps_both) := by
  refine okG p.d__law_ps_both.F sc__law_ps_both (fun vs H Q E h => ?_) (fun cdv A outer s H vs Q E hg hr h => ?_)
  · obtain ⟨S, ds, Gq, r, ⟨n, gs, d, ls, rfl, _⟩, _⟩ := h
    exact r.length
  · obtain ⟨S, ds, Gq, r, ⟨n, gs, d, ls, rfl, ef, eg, n1, d1, l1, l2, q⟩, k⟩ := h
    obtain ⟨v1, v2, rfl, hS⟩ := enter2 r
    have n0 : 0 ≤ n := ef.nn
    have d0 : 0 ≤ d := eg.nn
    obtain ⟨t, w1, w2, rfl, h1⟩ := hS.ftup2 (v := v1) (by walk_at "mem")
    obtain rfl := h1.fint (v := w1) (by walk_at "mem")
    obtain ⟨t2, w3, w4, rfl, h2⟩ := h1.ftup2 (v := v2) (by walk_at "mem")
    obtain rfl := h2.fint (v := w3) (by walk_at "mem")
    have ht := h2.tp (t := t) (by walk_at "mem")
    have ht2 := h2.tp (t := t2) (by walk_at "mem")
    refine ⟨_, (pss_cons (ps_set (i := 2) sc__law_ps_both.nd rfl (Or.inl rfl) (pe_op op_add (pe_ix ix_tup (pv 0) pe_int (fun _ _ => rfl)) (pe_ix ix_tup (pv 1) pe_int (fun _ _ => rfl))))
      (pss_one (ps_ret (pe_callG ((ok__law_ps_least p).mono (by decide)) hg hr (by rfl) p.d__law_ps_least.gl p.d__law_ps_least.kp p.d__law_ps_least.bd pass0 (pa_cons (pv 2) (pa_cons (pe_callG ((ok__law_ps_do p).mono (by decide)) hg hr (by rfl) p.d__law_ps_do.gl p.d__law_ps_do.kp p.d__law_ps_do.bd pass0 (pa_cons (pv 1) (pa_cons (pe_callG ((ok__law_ps_do p).mono (by decide)) hg hr (by rfl) p.d__law_ps_do.gl p.d__law_ps_do.kp p.d__law_ps_do.bd pass0 (pa_cons (pv 0) (pa_cons (pe_listRg rfl (by rfl) p.blt.list (prg_2 (by rfl) p.blt.range pe_int (pe_op op_add (pv 2) pe_int))) pa_nil))) pa_nil))) pa_nil)))))), ?_⟩
    -- deep = fx[0] + gx[0]
    refine ⟨_, rfl, t, _, _, _, rfl, rfl, SqT.of ht, atI_nat (j := 0) rfl, _, rfl, t2, _, _, _, rfl, rfl, SqT.of ht2, atI_nat (j := 0) rfl, _, _, rfl, rfl, ?_⟩
    -- return least(deep, do(gx, do(fx, list(range(1, deep + 1)))))
    refine ⟨_, rfl, _, rfl, _, rfl, _, rfl, _, _, rfl, rfl, _, _, rfl, rfl, RgOk.of_le (by omega) (by omega) (by omega) (by omega), fun l hl => ?_⟩
    rw [rgV_map]
    have h3 := h2.mkInts (ns := rg 1 (n + d + 1)) hl
    have lr := rg_length 1 (n + d + 1)
    refine h3.call (vs := [.ref t, .ref l]) (.cons (.tp2 (by walk_at "mem") (.int _) (.fz (by walk_at "mem"))) (.cons (.ow (by walk_at "mem")) .nil)) ⟨n, gs, _, rfl, n0, fun x hx => ?_, by omega, by omega, fun v H4 h4 => ?_⟩
    · have a1 : 1 ≤ x := ef.ge x hx
      have a2 : x ≤ n := ef.le x hx
      omega
    rw [doE_pre ef d0] at h4
    have ul : (((upE (n, gs) d).length : Nat) : Int) = gs.length + d := up_len (e := (n, gs)) d0
    refine h4.call (vs := [.ref t2, v]) (.cons (.tp2 (by walk_at "mem") (.int _) (.fz (by walk_at "mem"))) (.cons (.ow (by walk_at "mem")) .nil)) ⟨d, ls, _, rfl, d0, fun x hx => ?_, by omega, by omega, fun v H5 h5 => ?_⟩
    · have a1 : 1 ≤ x := eg.ge x hx
      have a2 : x ≤ d := eg.le x hx
      omega
    have ce := cE_eff (e := (n, gs)) (f := (d, ls)) (m := d) ef eg d0 (by show d ≤ (gs.length : Nat) + d; omega)
    have cl := cE_len (e := (n, gs)) (f := (d, ls)) (m := d) eg d0 (by show d ≤ (gs.length : Nat) + d; omega)
    have cl2 : (((doE (d, ls) (upE (n, gs) d)).length : Nat) : Int) = ls.length + (gs.length + d - d) := cl
    refine h5.call (vs := [.int (n + d), v]) (.cons (.int _) (.cons (.ow (by walk_at "mem")) .nil)) ⟨n + d, doE (d, ls) (upE (n, gs) d), rfl, ce.le, by omega, fun v H6 h6 => ?_⟩
    have eb : leastE (n + d) (doE (d, ls) (upE (n, gs) d)) = joinE (leastE n gs) (leastE d ls) := both_join (e := (n, gs)) (f := (d, ls)) ef eg
    rw [eb] at h6
    obtain ⟨sm, nw⟩ := h6.leave
    exact k _ _ _ q sm nw
/-! ### _law_ps_same -/
def w__law_ps_same : Tw := fun ds Q => ∃ d e : D, ds = [d, e] ∧ d = e ∧ Sh 60 10000000 d ∧ Q (.bool true)
theorem ok__law_ps_same (p : Prog K mg) : FnG P w K mg base CX0 1 p.f__law_ps_same p.fd__law_ps_same ["_law_told", "_law_due"] (spT w__law_ps_same) := by
  refine okG p.d__law_ps_same.F sc__law_ps_same (fun vs H Q E h => ?_) (fun cdv A outer s H vs Q E hg hr h => ?_)
  · obtain ⟨S, ds, G, r, ⟨d, e, rfl, _⟩, _⟩ := h
    exact r.length
  · obtain ⟨S, ds, G, r, ⟨d, e, rfl, rfl, sh, q⟩, k⟩ := h
    cases r with
    | cons r1 r =>
      cases r with
      | cons r2 r =>
        cases r
        refine ⟨_, (pss_one (ps_ret (pe_cmpR op_eq (pe_callB (cr_repr hg hr.units) (by rfl) p.blt.repr (by decide +kernel) (pa_cons (pv 0) pa_nil)) (pe_callB (cr_repr hg hr.units) (by rfl) p.blt.repr (by decide +kernel) (pa_cons (pv 1) pa_nil)) (nomark _)))), ?_⟩
        have D1 := Rep.dp K _ _ _ r1
        have D2 := Rep.dp K _ _ _ r2
        have sz : d.shown.length ≤ sizeLine := Nat.le_trans (shown_wd d (Dp.nodict d _ D1)) (szle sh.wd)
        refine ⟨_, rfl, _, d, rfl, D1, sh.sh, sh.dp, sz, _, rfl, _, d, rfl, D2, sh.sh, sh.dp, sz, rfl, ?_⟩
        rw [decide_eq_true rfl]
        exact k _ _ _ q (Same.refl _) ⟨[], .bl true, by simp, by simp⟩
/-! ### _law_ps_spoil -/
theorem ok__law_ps_spoil (p : Prog K mg) : ∀ n : Nat, FnG P w K mg base CX0 n p.f__law_ps_spoil p.fd__law_ps_spoil ["_law_thing", "_law_tally"] (spSpoil n) := by
  intro n
  induction n with
  | zero =>
    refine ⟨fun vs H Q E h => ?_, fun A outer s H args us vs Q E hg hr e0 bt r h => ?_⟩
    · obtain ⟨v, l, d, k, S, _, _, _, _, _, h, _⟩ := h
      exact absurd h (Nat.not_lt_zero _)
    · obtain ⟨v, l, d, k, S, _, _, _, _, _, h, _⟩ := h
      exact absurd h (Nat.not_lt_zero _)
  | succ n ih =>
    refine okG p.d__law_ps_spoil.F sc__law_ps_spoil (fun vs H Q E h => ?_) (fun cdv A outer s H vs Q E hg hr h => ?_)
    · obtain ⟨v, l, d, k, S, rfl, _⟩ := h
      rfl
    · obtain ⟨v, l, d, k, S, rfl, rep, nd, nl, hl, dp, sz, q⟩ := h
      refine ⟨_, (C8.pss_cut (ps_if (pt_val (pe_callB call_isiT (by rfl) p.blt.isinstance (by decide +kernel) (pa_cons (pv 0) (pa_cons (pe_tup (pa_cons (pe_bltn (v := .ty "list") (by rfl) p.blt.list (by decide +kernel) rfl) (pa_cons (pe_bltn (v := .ty "tuple") (by rfl) p.blt.tuple (by decide +kernel) rfl) pa_nil))) pa_nil))))
      (pss_one (ps_for PassesOwn.never rfl (pi_or (pi_list (pv 0)) (pi_tup (pv 0))) (pg_name (i := 2) sc__law_ps_spoil.nd rfl (Or.inl rfl))
      (pss_one (ps_expr (pe_callG ih hg hr (by rfl) p.d__law_ps_spoil.gl p.d__law_ps_spoil.kp p.d__law_ps_spoil.bd pass0 (pa_cons (pv 2) (pa_cons (pv 1) pa_nil))))))) pss_nil)
      (pss_one (ps_if (pt_val (pe_callB call_isi (by rfl) p.blt.isinstance (by decide +kernel) (pa_cons (pv 0) (pa_cons (pe_bltn (v := .ty "list") (by rfl) p.blt.list (by decide +kernel) rfl) pa_nil))))
      (pss_cons (ps_asg (pe_op op_add (pe_ix ix_list (pv 1) pe_int (fun _ _ => rfl)) pe_int) (pg_sub (pv 1) pe_int set_list))
      (pss_one (ps_expr (pe_bm PySem.F.plainAttrs_list PySem.F.slot_list_append PySem.F.type_list_append mt_append (pv 0) (pa_cons (pe_un un_neg (pe_ix ix_list (pv 1) pe_int (fun _ _ => rfl))) pa_nil))))) pss_nil))), ?_⟩
      cases d with
      | list ds =>
        cases rep with
        | @lst a vs S' _ ha rs =>
          have len := rs.length
          simp only [PyData.depth] at dp
          simp only [G.wd] at sz
          have ala : a ≠ l := fun z => nl (z ▸ List.mem_cons_self)
          have nds : S'.Nodup := (List.nodup_cons.mp nd).2
          have nls : l ∉ S' := fun z => nl (List.mem_cons_of_mem _ z)
          have nas : a ∉ S' := (List.nodup_cons.mp nd).1
          have rep : Rep H (a :: S') (.ref a) (.list ds) := .lst ha rs
          refine ⟨fun σ H1 => ∃ y, σ = [some (.ref a), some (.ref l), y] ∧ Reps H1 S' vs (spDs ds k).1 ∧ H1 l = some (.lst [.int (spDs ds k).2]) ∧ ∀ b o, H b = some o → b ∉ S' → b ≠ l → H1 b = some o, ?_, fun σ H1 hI => ?_⟩
          · refine ⟨_, rfl, szle (by simp), fun t ht => ⟨_, t, _, _, [.type "list", .type "tuple"], _, rfl, upd_same, .cons (.ty _) (.cons (.ty _) .nil), tyx (rep.same (same_upd ht)), kit_seq rep, ?_⟩⟩
            refine ⟨_, rfl, iteT ?_⟩
            refine .inl ⟨_, rfl, a, rfl, ⟨_, SqL.of (same_upd ht _ _ ha)⟩, ?_⟩
            refine for_list (xs := vs) (fun i σ H1 => i ≤ ds.length ∧ (∃ y, σ = [some (.ref a), some (.ref l), y]) ∧ SpI H l k S' vs ds i H1) ⟨Nat.zero_le _, ⟨_, rfl⟩, SpI.zero (Reps.mono (fun t' xs e => same_upd ht _ _ e) _ _ _ rs fun b m o e => same_upd ht _ _ e) (same_upd ht _ _ hl) fun b o e _ _ => same_upd ht _ _ e⟩ (fun i σ H1 _ hI => ?_) (fun i x σ H1 hx hI => ?_) (fun σ H1 hI => ?_)
            · obtain ⟨_, _, _, _, _, _, _, _, fr⟩ := hI
              exact SqL.of (fr _ _ ha nas ala)
            · obtain ⟨hi, ⟨y, rfl⟩, hJ⟩ := hI
              have hil : i < vs.length := (List.getElem?_eq_some_iff.mp hx).1
              obtain ⟨di, hdi⟩ : ∃ e, ds[i]? = some e := ⟨_, List.getElem?_eq_getElem (show i < ds.length by omega)⟩
              have mi := List.mem_of_getElem? hdi
              have z1 := depth_mem mi
              have z2 := wd_mem mi
              obtain ⟨Sx, rx, ndx, nlx, hlx, kx⟩ := hJ.step nds nls hx hdi
              refine ⟨_, rfl, _, rfl, x, l, di, _, Sx, rfl, rx, ndx, nlx, hlx, by omega, by omega, fun H2 fr2 r2 hl2 => ?_⟩
              exact ⟨by omega, ⟨_, rfl⟩, kx H2 fr2 r2 hl2⟩
            · obtain ⟨_, ⟨y, rfl⟩, hJ⟩ := hI
              obtain ⟨a1, a2, a3⟩ := hJ.fin len
              exact ⟨_, rfl, a1, a2, a3⟩
          · obtain ⟨y, rfl, r1, hl1, fr⟩ := hI
            have ha1 := fr _ _ ha nas ala
            have rep1 : Rep H1 (a :: S') (.ref a) (.list (spDs ds k).1) := .lst ha1 r1
            refine ⟨_, rfl, .ref a, _, _, _, _, rfl, .ty _, tyx rep1, kit_list rep1, ?_⟩
            refine ⟨_, rfl, iteT ?_⟩
            refine ⟨_, rfl, _, _, _, _, rfl, rfl, SqL.of hl1, atI_nat (j := 0) rfl, _, _, rfl, rfl, _, rfl, _, _, _, 0, rfl, rfl, hl1, rfl, ?_⟩
            have ha2 : upd H1 l (.lst [.int ((spDs ds k).2 + 1)]) a = some (.lst vs) := by rw [upd_ne ala]; exact ha1
            have lv := wds_len ds
            refine ⟨_, rfl, tyL ha2, _, rfl, _, _, _, _, rfl, rfl, SqL.of upd_same, atI_nat (j := 0) rfl, _, rfl, a, _, _, rfl, rfl, ha2, szlt (by omega), ?_⟩
            have lists : ∀ b ∈ S', ∃ xs, H1 b = some (.lst xs) := Reps.dom _ _ _ r1
            have nt : ∀ t xs, H1 t = some (.tup xs) → upd (upd H1 l (.lst [.int ((spDs ds k).2 + 1)])) a (.lst (vs ++ [.int (-((spDs ds k).2 + 1))])) t = some (.tup xs) := fun t xs e => by
              have e1 : t ≠ a := fun z => by rw [z, ha1] at e; cases e
              have e2 : t ≠ l := fun z => by rw [z, hl1] at e; cases e
              rw [upd_ne e1, upd_ne e2]
              exact e
            refine q _ (fun b o e m1 m2 => ?_) ?_ ?_
            · have e1 : b ≠ a := fun z => m1 (z ▸ List.mem_cons_self)
              rw [upd_ne e1, upd_ne m2]
              exact fr b o e (fun z => m1 (List.mem_cons_of_mem _ z)) m2
            · simp only [spD]
              refine .lst upd_same ?_
              have q := Reps.append (Reps.mono nt _ _ _ r1 fun b m o e => by
                have e1 : b ≠ a := fun z => nas (z ▸ m)
                have e2 : b ≠ l := fun z => nls (z ▸ m)
                rw [upd_ne e1, upd_ne e2]
                exact e) (Reps.cons (.int (-((spDs ds k).2 + 1))) .nil)
              rw [List.append_nil, List.append_nil] at q
              exact q
            · rw [upd_ne (Ne.symm ala)]
              exact upd_same
      | tuple ds =>
        cases rep with
        | @tup a vs S _ ha rs =>
          have len := rs.length
          simp only [PyData.depth] at dp
          simp only [G.wd] at sz
          have ala : a ≠ l := fun z => by rw [z, hl] at ha; cases ha
          have nds : S.Nodup := nd
          have nls : l ∉ S := nl
          have nas : a ∉ S := fun z => by
            obtain ⟨xs, e⟩ := Reps.dom _ _ _ rs a z
            rw [ha] at e
            cases e
          have rep : Rep H S (.ref a) (.tuple ds) := .tup ha rs
          refine ⟨fun σ H1 => ∃ y, σ = [some (.ref a), some (.ref l), y] ∧ Reps H1 S vs (spDs ds k).1 ∧ H1 l = some (.lst [.int (spDs ds k).2]) ∧ ∀ b o, H b = some o → b ∉ S → b ≠ l → H1 b = some o, ?_, fun σ H1 hI => ?_⟩
          · refine ⟨_, rfl, szle (by simp), fun t ht => ⟨_, t, _, _, [.type "list", .type "tuple"], _, rfl, upd_same, .cons (.ty _) (.cons (.ty _) .nil), tyx (rep.same (same_upd ht)), kit_seq rep, ?_⟩⟩
            refine ⟨_, rfl, iteT ?_⟩
            refine .inr ⟨_, rfl, a, rfl, ⟨_, SqT.of (same_upd ht _ _ ha)⟩, ?_⟩
            refine for_tup (xs := vs) (fun i σ H1 => i ≤ ds.length ∧ (∃ y, σ = [some (.ref a), some (.ref l), y]) ∧ SpI H l k S vs ds i H1) ⟨Nat.zero_le _, ⟨_, rfl⟩, SpI.zero (Reps.mono (fun t' xs e => same_upd ht _ _ e) _ _ _ rs fun b m o e => same_upd ht _ _ e) (same_upd ht _ _ hl) fun b o e _ _ => same_upd ht _ _ e⟩ (fun i σ H1 _ hI => ?_) (fun i x σ H1 hx hI => ?_) (fun σ H1 hI => ?_)
            · obtain ⟨_, _, _, _, _, _, _, _, fr⟩ := hI
              exact SqT.of (fr _ _ ha nas ala)
            · obtain ⟨hi, ⟨y, rfl⟩, hJ⟩ := hI
              have hil : i < vs.length := (List.getElem?_eq_some_iff.mp hx).1
              obtain ⟨di, hdi⟩ : ∃ e, ds[i]? = some e := ⟨_, List.getElem?_eq_getElem (show i < ds.length by omega)⟩
              have mi := List.mem_of_getElem? hdi
              have z1 := depth_mem mi
              have z2 := wd_mem mi
              obtain ⟨Sx, rx, ndx, nlx, hlx, kx⟩ := hJ.step nds nls hx hdi
              refine ⟨_, rfl, _, rfl, x, l, di, _, Sx, rfl, rx, ndx, nlx, hlx, by omega, by omega, fun H2 fr2 r2 hl2 => ?_⟩
              exact ⟨by omega, ⟨_, rfl⟩, kx H2 fr2 r2 hl2⟩
            · obtain ⟨_, ⟨y, rfl⟩, hJ⟩ := hI
              obtain ⟨a1, a2, a3⟩ := hJ.fin len
              exact ⟨_, rfl, a1, a2, a3⟩
          · obtain ⟨y, rfl, r1, hl1, fr⟩ := hI
            have ha1 := fr _ _ ha nas ala
            have rep1 : Rep H1 S (.ref a) (.tuple (spDs ds k).1) := .tup ha1 r1
            refine ⟨_, rfl, .ref a, _, _, _, _, rfl, .ty _, tyx rep1, kit_list rep1, ?_⟩
            refine ⟨_, rfl, iteF ?_⟩
            refine q _ fr ?_ ?_
            · simp only [spD]
              exact .tup ha1 r1
            · simp only [spD]
              exact hl1
      | none =>
        refine ⟨fun σ H1 => ∃ y, σ = [some v, some (.ref l), y] ∧ Same H H1, ?_, fun σ H1 hI => ?_⟩
        · refine ⟨_, rfl, szle (by simp), fun t ht => ⟨_, t, _, _, [.type "list", .type "tuple"], _, rfl, upd_same, .cons (.ty _) (.cons (.ty _) .nil), tyx (rep.same (same_upd ht)), kit_seq rep, ?_⟩⟩
          exact ⟨_, rfl, iteF ⟨_, rfl, same_upd ht⟩⟩
        · obtain ⟨y, rfl, sm⟩ := hI
          refine ⟨_, rfl, v, _, _, _, _, rfl, .ty _, tyx (rep.same sm), kit_list rep, ?_⟩
          refine ⟨_, rfl, iteF ?_⟩
          exact q _ (fun a o e _ _ => sm a o e) (Rep.mono (fun t vs e => sm _ _ e) _ _ _ rep fun a m o e => sm a o e) (sm _ _ hl)
      | bool b =>
        refine ⟨fun σ H1 => ∃ y, σ = [some v, some (.ref l), y] ∧ Same H H1, ?_, fun σ H1 hI => ?_⟩
        · refine ⟨_, rfl, szle (by simp), fun t ht => ⟨_, t, _, _, [.type "list", .type "tuple"], _, rfl, upd_same, .cons (.ty _) (.cons (.ty _) .nil), tyx (rep.same (same_upd ht)), kit_seq rep, ?_⟩⟩
          exact ⟨_, rfl, iteF ⟨_, rfl, same_upd ht⟩⟩
        · obtain ⟨y, rfl, sm⟩ := hI
          refine ⟨_, rfl, v, _, _, _, _, rfl, .ty _, tyx (rep.same sm), kit_list rep, ?_⟩
          refine ⟨_, rfl, iteF ?_⟩
          exact q _ (fun a o e _ _ => sm a o e) (Rep.mono (fun t vs e => sm _ _ e) _ _ _ rep fun a m o e => sm a o e) (sm _ _ hl)
      | int i =>
        refine ⟨fun σ H1 => ∃ y, σ = [some v, some (.ref l), y] ∧ Same H H1, ?_, fun σ H1 hI => ?_⟩
        · refine ⟨_, rfl, szle (by simp), fun t ht => ⟨_, t, _, _, [.type "list", .type "tuple"], _, rfl, upd_same, .cons (.ty _) (.cons (.ty _) .nil), tyx (rep.same (same_upd ht)), kit_seq rep, ?_⟩⟩
          exact ⟨_, rfl, iteF ⟨_, rfl, same_upd ht⟩⟩
        · obtain ⟨y, rfl, sm⟩ := hI
          refine ⟨_, rfl, v, _, _, _, _, rfl, .ty _, tyx (rep.same sm), kit_list rep, ?_⟩
          refine ⟨_, rfl, iteF ?_⟩
          exact q _ (fun a o e _ _ => sm a o e) (Rep.mono (fun t vs e => sm _ _ e) _ _ _ rep fun a m o e => sm a o e) (sm _ _ hl)
      | str x =>
        refine ⟨fun σ H1 => ∃ y, σ = [some v, some (.ref l), y] ∧ Same H H1, ?_, fun σ H1 hI => ?_⟩
        · refine ⟨_, rfl, szle (by simp), fun t ht => ⟨_, t, _, _, [.type "list", .type "tuple"], _, rfl, upd_same, .cons (.ty _) (.cons (.ty _) .nil), tyx (rep.same (same_upd ht)), kit_seq rep, ?_⟩⟩
          exact ⟨_, rfl, iteF ⟨_, rfl, same_upd ht⟩⟩
        · obtain ⟨y, rfl, sm⟩ := hI
          refine ⟨_, rfl, v, _, _, _, _, rfl, .ty _, tyx (rep.same sm), kit_list rep, ?_⟩
          refine ⟨_, rfl, iteF ?_⟩
          exact q _ (fun a o e _ _ => sm a o e) (Rep.mono (fun t vs e => sm _ _ e) _ _ _ rep fun a m o e => sm a o e) (sm _ _ hl)
      | dict _ => cases rep
/-! ### _law_ps_alone -/
theorem ok__law_ps_alone (p : Prog K mg) : FnG P w K mg base CX0 9 p.f__law_ps_alone p.fd__law_ps_alone ["_law_told"] spEat := by
  refine okG p.d__law_ps_alone.F sc__law_ps_alone (fun vs H Q E h => ?_) (fun cdv A outer s H vs Q E hg hr h => ?_)
  · obtain ⟨v, d, S, rfl, _⟩ := h
    rfl
  · obtain ⟨v, d, S, rfl, rep, nd, sh, hn, q⟩ := h
    have dp := sh.dp
    have sw := sh.wd
    refine ⟨_, (pss_cons (ps_set (i := 1) sc__law_ps_alone.nd rfl (Or.inl rfl) (pe_callG ((ok__law_copied p 8).mono (by decide)) hg hr (by rfl) p.d__law_copied.gl p.d__law_copied.kp p.d__law_copied.bd pass0 (pa_cons (pv 0) pa_nil)))
      (pss_cons (ps_expr (pe_callG ((ok__law_ps_spoil p 8).mono (by decide)) hg hr (by rfl) p.d__law_ps_spoil.gl p.d__law_ps_spoil.kp p.d__law_ps_spoil.bd pass0 (pa_cons (pv 0) (pa_cons (pe_lst (pa_cons pe_int pa_nil)) pa_nil))))
      (pss_cons (ps_expr (pe_callG ((ok__law_ps_spoil p 8).mono (by decide)) hg hr (by rfl) p.d__law_ps_spoil.gl p.d__law_ps_spoil.kp p.d__law_ps_spoil.bd pass0 (pa_cons (pv 1) (pa_cons (pe_lst (pa_cons pe_int pa_nil)) pa_nil))))
      (pss_one (ps_ret (pe_cmpR op_eq (pe_callB (cr_repr hg hr.units) (by rfl) p.blt.repr (by decide +kernel) (pa_cons (pv 0) pa_nil)) (pe_callB (cr_repr hg hr.units) (by rfl) p.blt.repr (by decide +kernel) (pa_cons (pv 1) pa_nil)) (nomark _))))))), ?_⟩
    -- mirror = copied(told)
    have h0 : St H .none .none [(v, d)] [] [] H := St.enter (vs := [v]) (ds := [d]) (.cons rep .nil)
    refine ⟨_, rfl, h0.call (vs := [v]) (.cons (.fz (by walk_at "mem")) .nil) ⟨d, rfl, by omega, by omega, fun m H1 h1 => ?_⟩⟩
    obtain ⟨sm1, S', rep1, nd', new'⟩ := h1.leave
    have r1 : Rep H1 S v d := Rep.mono (fun t vs e => sm1 _ _ e) _ _ _ rep fun a m o e => sm1 a o e
    have dis : ∀ a ∈ S, a ∉ S' := fun a m m' => by
      obtain ⟨xs, e⟩ := Rep.dom _ _ _ rep a m
      rw [new' a m'] at e
      cases e
    have dom1 := Rep.dom _ _ _ r1
    have dom' := Rep.dom _ _ _ rep1
    -- spoil(told, [0])
    refine ⟨_, rfl, szle (by simp), fun l hl => ?_⟩
    have nl1 : l ∉ S := fun z => by
      obtain ⟨xs, e⟩ := dom1 l z
      rw [hl] at e
      cases e
    have nl2 : l ∉ S' := fun z => by
      obtain ⟨xs, e⟩ := dom' l z
      rw [hl] at e
      cases e
    have up : Same H1 (upd H1 l (.lst [.int 0])) := same_upd hl
    refine ⟨v, l, d, 0, S, rfl, Rep.mono (fun t vs e => up _ _ e) _ _ _ r1 (fun a m o e => up a o e), nd, nl1, upd_same, by omega, by omega, fun H2 fr2 r2 hl2 => ?_⟩
    have sm2 : ∀ a o, H1 a = some o → a ∉ S → H2 a = some o := fun a o e m => fr2 a o (up a o e) m (ne_of_none e hl)
    have tup2 : ∀ t vs, H1 t = some (.tup vs) → H2 t = some (.tup vs) := fun t vs e => sm2 t _ e fun m => by
      obtain ⟨xs, e2⟩ := dom1 t m
      rw [e] at e2
      cases e2
    have m2 : Rep H2 S' m d := Rep.mono tup2 _ _ _ rep1 fun a z o e => sm2 a o e fun z2 => dis a z2 z
    -- spoil(mirror, [0])
    refine ⟨_, rfl, szle (by simp), fun l' hl' => ?_⟩
    have dom2 := Rep.dom _ _ _ r2
    have dom2' := Rep.dom _ _ _ m2
    have nl1' : l' ∉ S := fun z => by
      obtain ⟨xs, e⟩ := dom2 l' z
      rw [hl'] at e
      cases e
    have nl2' : l' ∉ S' := fun z => by
      obtain ⟨xs, e⟩ := dom2' l' z
      rw [hl'] at e
      cases e
    have up2 : Same H2 (upd H2 l' (.lst [.int 0])) := same_upd hl'
    refine ⟨m, l', d, 0, S', rfl, Rep.mono (fun t vs e => up2 _ _ e) _ _ _ m2 (fun a z o e => up2 a o e), nd', nl2', upd_same, by omega, by omega, fun H3 fr3 r3 hl3 => ?_⟩
    have sm3 : ∀ a o, H2 a = some o → a ∉ S' → H3 a = some o := fun a o e z => fr3 a o (up2 a o e) z (ne_of_none e hl')
    have t3 : Rep H3 S v (spD d 0).1 := Rep.mono (fun t vs e => sm3 t _ e fun z => by
      obtain ⟨xs, e2⟩ := dom2' t z
      rw [e] at e2
      cases e2) _ _ _ r2 fun a z o e => sm3 a o e (dis a z)
    -- return repr(told) == repr(mirror)
    have s3 := sp_Sh sh (by omega)
    have w3 := s3.wd
    have d3 := s3.dp
    have D1 := Rep.dp K _ _ _ t3
    have D2 := Rep.dp K _ _ _ r3
    have sz : (spD d 0).1.shown.length ≤ sizeLine := Nat.le_trans (shown_wd _ (Dp.nodict _ _ D1)) (szle (by omega))
    refine ⟨_, rfl, _, _, rfl, D1, s3.sh, by omega, sz, _, rfl, _, _, rfl, D2, s3.sh, by omega, sz, rfl, ?_⟩
    rw [decide_eq_true rfl]
    refine q _ H3 rfl fun a o e z => ?_
    have e1 := sm1 a o e
    exact sm3 a o (sm2 a o e1 z) fun z2 => by
      rw [new' a z2] at e
      cases e
/-! ### _law_ps_bounds -/
def w__law_ps_bounds : Tw := fun ds Q => ds = [] ∧ ∀ d m : Int, (d = 3 ∧ m = 4 ∨ d = 6 ∧ m = 8 ∨ d = 60 ∧ m = 60) → Q (.tuple [.int d, .int m])
theorem ok__law_ps_bounds (p : Prog K mg) : FnG P w K mg base CX0 2 p.f__law_ps_bounds p.fd__law_ps_bounds ["_law_sack"] (spP 1 w__law_ps_bounds) := by
  refine okG p.d__law_ps_bounds.F sc__law_ps_bounds (fun vs H Q E h => ?_) (fun cdv A outer s H vs Q E hg hr h => ?_)
  · obtain ⟨p, b, vs', S, ds, G, rfl, _, _, r, _, ⟨rfl, _⟩, _⟩ := h
    exact congrArg Nat.succ r.length
  · obtain ⟨u, b, vs', S, ds, G, rfl, hp, hb, r, np, ⟨rfl, q⟩, k⟩ := h
    obtain ⟨rfl, hS⟩ := enterP0 r hp np
    refine ⟨_, (pss_one (ps_ret (pe_ix ix_list (pe_lst (pa_cons (pe_tup (pa_cons pe_int (pa_cons pe_int pa_nil))) (pa_cons (pe_tup (pa_cons pe_int (pa_cons pe_int pa_nil))) (pa_cons (pe_tup (pa_cons pe_int (pa_cons pe_int pa_nil))) pa_nil)))) (pe_callG ((ok__law_coin p).mono (by decide)) hg hr (by rfl) p.d__law_coin.gl p.d__law_coin.kp p.d__law_coin.bd pass0 (pa_cons (pv 0) (pa_cons pe_int pa_nil))) (fun _ _ => rfl)))), ?_⟩
    refine w_op (w_lit hS (d := .list [.tuple [.int 3, .int 4], .tuple [.int 6, .int 8], .tuple [.int 60, .int 60]]) (by walk_at "lit") (fun v H1 h1 => ?_))
    refine ⟨_, rfl, h1.callP (vs := [.int 3]) (by omega) (.cons (.int _) .nil) ⟨3, rfl, by decide, by decide, fun x x0 x1 v' H2 h2 => ?_⟩⟩
    obtain ⟨rfl, h2'⟩ := h2.int
    have h3 := h2'.freeze
    have fin : ∀ (i : Nat) (d : D), x = (i : Int) → ([.tuple [.int 3, .int 4], .tuple [.int 6, .int 8], .tuple [.int 60, .int 60]] : List D)[i]? = some d → nolist d = true → G d → rIxL K v (.int x) H2 Q := fun i d ei ed nl qd => by
      obtain ⟨a, vs, w', rfl, ea, _, ew, h4⟩ := h3.fget (i := i) (List.Mem.head _) ed
      refine ⟨a, vs, x, w', rfl, rfl, SqL.of ea, at_nat ei ew, ?_⟩
      have h5 := h4.unfreeze (List.Mem.head _) nl
      obtain ⟨fr, pu, nw⟩ := h5.leaveP (c := b + 1) (by omega)
      exact k _ _ _ qd fr pu nw
    have c : x = (0 : Nat) ∨ x = (1 : Nat) ∨ x = (2 : Nat) := by omega
    rcases c with c | c | c
    · exact fin 0 _ c rfl rfl (q _ _ (.inl ⟨rfl, rfl⟩))
    · exact fin 1 _ c rfl rfl (q _ _ (.inr (.inl ⟨rfl, rfl⟩)))
    · exact fin 2 _ c rfl rfl (q _ _ (.inr (.inr ⟨rfl, rfl⟩)))
/-! ### _law_ps_text -/
-- auto P 4
def w__law_ps_text : Tw := fun ds Q => ds = [] ∧ ∀ s : Str, TxOk s → Q (.str s)
theorem ar__law_ps_text : ∀ ds G, w__law_ps_text ds G → ds.length + 1 = 1 := by
  rintro ds G ⟨rfl, _⟩
  rfl
def kr__law_ps_text_1 : KS := (kRet (kJoin ("" : String) (kLc (kRng1 (kCallP 1 w__law_coin 1 (kCons (kVar 0) (kCons (kC (.int 4)) kNil)))) 2 kYes (kOp vIxS (kVar 1) (kCallP 1 w__law_coin 1 (kCons (kVar 0) (kCons (kF 1 vLenS (kCons (kVar 1) kNil)) kNil)))))))
def k__law_ps_text : KS := (kSeq (kAsg (kC (.str ("abcxyzABZ 0189!#&'()*+,-./:;<=>?\x40[]^_{|}~" : String))) (kgName 1))
  kr__law_ps_text_1)
local macro_rules | `(tactic| walk_at "go") => `(tactic| ((first | unfold kr__law_ps_text_1); walk_at "ev"))
theorem txt_one {c : Nat} (h : c < 0x110000) : PyData.strOk ⟨#[c]⟩ = true := by
  rw [strOk_iff]
  intro x hx
  simp at hx
  omega
theorem val__law_ps_text : ∀ ds G, w__law_ps_text ds G → k__law_ps_text ⟨.pu :: (ds.map Sl.fz ++ [.jk, .jk]), [], 4⟩ (edP G) := by
  rintro ds Gq ⟨rfl, q⟩
  unfold k__law_ps_text
  walk_at "ev"
  walk_at "go"
  refine ⟨⟨by decide, by decide⟩, 4, rfl, by decide, by decide, fun n n0 n1 => ?_⟩
  walk_at "ev"
  refine ⟨by omega, ?_⟩
  have lr := rg_length 0 n
  obtain ⟨z, hz⟩ : ∃ z : Str, (("abcxyzABZ 0189!#&'()*+,-./:;<=>?\x40[]^_{|}~" : String) : Str) = z := ⟨_, rfl⟩
  have zl : z.length = 41 := by rw [← hz]; decide +kernel
  have zc : ∀ c ∈ z.cps.toList, c < 0x110000 := strOk_iff.mp (by rw [← hz]; decide +kernel)
  rw [hz]
  refine lc_inv true (rg 0 n) PyData.int (fun pre acc m => ∃ ss : List Str, acc = ss.map PyData.str ∧ ss.length = pre.length ∧ m = 3 - pre.length ∧ pre.length ≤ n.toNat ∧ ∀ s ∈ ss, s.length = 1 ∧ PyData.strOk s = true) rfl rfl (fun pre acc m hp => ?_) (fun pre x post acc m Y X hl hp hY hX => ?_) (fun acc m hp => ?_) [] _ ⟨[], rfl, rfl, by simp, by simp, by simp⟩
  · obtain ⟨ss, rfl, h1, h2, h3, h4⟩ := hp
    rw [List.length_map]
    omega
  · obtain ⟨ss, rfl, h1, h2, h3, h4⟩ := hp
    have hlen := congrArg List.length hl
    rw [lr, List.length_append, List.length_cons] at hlen
    walk_at "ev"
    refine ⟨by rw [zl]; decide, ?_⟩
    rw [zl]
    refine ⟨⟨by decide, by omega⟩, 41, rfl, by decide, by decide, fun g g0 g1 => ?_⟩
    walk_at "ev"
    refine vIxS_any g0 (by rw [zl]; exact g1) (by rw [zl]; decide) fun c hc => ?_
    walk_at "ev"
    refine hY _ true (.str ⟨#[c]⟩) _ rfl rfl ⟨ss ++ [⟨#[c]⟩], by simp, by simp [h1], by rw [List.length_append, List.length_singleton]; omega, by rw [List.length_append, List.length_singleton]; omega, fun y hy => ?_⟩
    rcases List.mem_append.mp hy with hy | hy
    · exact h4 y hy
    · simp only [List.mem_singleton] at hy
      subst hy
      exact ⟨rfl, txt_one (zc c hc)⟩
  · obtain ⟨ss, rfl, h1, h2, h3, h4⟩ := hp
    rw [lr] at h1 h2 h3
    walk_at "ev"
    rw [strsOf_map]
    have sm : ∀ l : List Str, (∀ s ∈ l, s.length = 1 ∧ PyData.strOk s = true) → (l.map (·.length)).sum = l.length := fun l => by
      induction l with
      | nil => intro _; rfl
      | cons s l ih =>
        intro h
        rw [List.map_cons, List.sum_cons, ih fun x hx => h x (List.mem_cons_of_mem _ hx), (h s List.mem_cons_self).1, List.length_cons]
        omega
    have q1 := sm ss h4
    obtain ⟨t1, t2⟩ := txt_join (a := ("" : String)) (by decide +kernel) (ys := ss) fun y hy => (h4 y hy).2
    have e0 : (("" : String) : Str).length = 0 := by decide +kernel
    rw [q1, e0, Nat.mul_zero] at t2
    walk_at "ev"
    exact ⟨by rw [q1, e0]; omega, by omega, q _ ⟨by omega, t1⟩⟩
theorem ok__law_ps_text (p : Prog K mg) : FnG P w K mg base CX0 2 p.f__law_ps_text p.fd__law_ps_text ["_law_sack"] (spP 4 w__law_ps_text) :=
  okP p.d__law_ps_text.F sc__law_ps_text (by decide) ar__law_ps_text (by decide) (fun cdv A outer s H E hg hr => ⟨_, (pss_cons (ps_set (i := 1) sc__law_ps_text.nd rfl (Or.inr rfl) pe_str)
      (pss_one (ps_ret (pe_join pe_str (pe_lc (own := [("_law_turn", 2)]) (g := gName 2) (tt := tYes) rfl sc__law_ps_text.nd (pi_range1 (by rfl) p.blt.range (pa_cons (pe_callG ((ok__law_coin p).mono (by decide)) hg hr (by rfl) p.d__law_coin.gl p.d__law_coin.kp p.d__law_coin.bd pass0 (pa_cons (pv 0) (pa_cons pe_int pa_nil))) pa_nil)) (blkOk_by (N := N__law_ps_text) (sc := defScope s__law_ps_text) (by decide +kernel)) (fun _ _ _ _ _ => pg_name (i := 2) sc__law_ps_text.nd rfl (Or.inl rfl)) (fun _ _ _ _ _ => pts_nil) (fun _ _ _ _ _ => (pe_ix ix_str (pv 1) (pe_callG ((ok__law_coin p).mono (by decide)) hg hr (by rfl) p.d__law_coin.gl p.d__law_coin.kp p.d__law_coin.bd pass0 (pa_cons (pv 0) (pa_cons (pe_callB call_len_str (by rfl) p.blt.len PySem.boot_len (pa_cons (pv 1) pa_nil)) pa_nil))) (fun _ _ => rfl)))))))),
    fun C xc => (so_seq (so_asg (so_c (sca_str _)) (so_gname (i := 1)))
      (so_ret (so_join (so_lc (so_rng1 (so_callP (so_cons (so_var (i := 0)) (so_cons (so_c (sca_int _)) so_nil)))) so_yes (so_op sr_ixS (so_var (i := 1)) (so_callP (so_cons (so_var (i := 0)) (so_cons (so_f sc_lenS (so_cons (so_var (i := 1)) so_nil)) so_nil))))))))⟩) val__law_ps_text
/-! ### _law_ps_heap -/
-- auto P 2000
def w__law_ps_heap : Tw := fun ds Q => ∃ n : Int, ds = [.int n] ∧ 0 ≤ n ∧ n ≤ 410 ∧ ∀ ss : List Str, (ss.length : Int) = n → (∀ s ∈ ss, TxOk s) → Q (dS ss)
theorem ar__law_ps_heap : ∀ ds G, w__law_ps_heap ds G → ds.length + 1 = 2 := by
  rintro ds G ⟨n, rfl, _⟩
  rfl
def kr__law_ps_heap_1 : KS := (kRet (kLc (kRng1 (kVar 1)) 3 kYes (kOp vIxS (kC (.str ("abc" : String))) (kCallP 1 w__law_coin 1 (kCons (kVar 0) (kCons (kC (.int 3)) kNil))))))
def kr__law_ps_heap_2 : KS := (kSeq (kIfS (kTest (kOp (vEq false) (kVar 2) (kC (.int 1))))
  (kRet (kLc (kRng1 (kVar 1)) 3 kYes (kCallP 4 w__law_ps_text 0 (kCons (kVar 0) kNil))))
  kNext)
  kr__law_ps_heap_1)
def kr__law_ps_heap_3 : KS := (kSeq (kIfS (kTest (kOp (vEq false) (kVar 2) (kC (.int 0))))
  (kRet (kLc (kRng1 (kVar 1)) 4 kYes (kOp vCatS (kC (.str ("t" : String))) (kF 1 vStrI (kCons (kVar 4) kNil)))))
  kNext)
  kr__law_ps_heap_2)
def k__law_ps_heap : KS := (kSeq (kAsg (kCallP 1 w__law_coin 1 (kCons (kVar 0) (kCons (kC (.int 3)) kNil))) (kgName 2))
  kr__law_ps_heap_3)
local macro_rules | `(tactic| walk_at "go") => `(tactic| ((first | unfold kr__law_ps_heap_1 | unfold kr__law_ps_heap_2 | unfold kr__law_ps_heap_3); walk_at "ev"))
theorem strOk_of (s : String) : PyData.strOk (s : Str) = true := by
  rw [strOk_iff]
  intro c hc
  have e : (s : Str) = ⟨(s.toList.map Char.toNat).toArray⟩ := Str.ofString_eq_toList s
  rw [e] at hc
  obtain ⟨ch, _, rfl⟩ := List.mem_map.mp (by simpa using hc : c ∈ s.toList.map Char.toNat)
  have v := ch.valid
  have e2 : ch.toNat = ch.val.toNat := rfl
  rw [e2]
  rcases v with v | v
  · exact Nat.lt_trans v (by decide)
  · exact v.2
theorem val__law_ps_heap : ∀ ds G, w__law_ps_heap ds G → k__law_ps_heap ⟨.pu :: (ds.map Sl.fz ++ [.jk, .jk, .jk]), [], 2000⟩ (edP G) := by
  rintro ds Gq ⟨n, rfl, n0, n1, q⟩
  unfold k__law_ps_heap
  walk_at "ev"
  refine ⟨⟨by decide, by decide⟩, 3, rfl, by decide, by decide, fun o o0 o1 => ?_⟩
  have lr := rg_length 0 n
  have tl : (("t" : String) : Str).length = 1 := by decide +kernel
  have al : (("abc" : String) : Str).length = 3 := by decide +kernel
  have ac : ∀ c ∈ (("abc" : String) : Str).cps.toList, c < 0x110000 := strOk_iff.mp (by decide +kernel)
  have tn : ∀ i : Int, 0 ≤ i → i < 1000 → ((toString i : String) : Str).length ≤ 4 := fun i h0 h1 => by
    rw [PySem.ofString_length]
    exact int_text_length_le10 (k := 3) (by decide) (by omega)
  walk_at "go"
  refine iteB (fun c => ?_) (fun c => ?_)
  · refine ⟨by omega, ?_⟩
    refine lc_inv true (rg 0 n) PyData.int (fun pre acc m => ∃ ss : List Str, acc = ss.map PyData.str ∧ ss.length = pre.length ∧ m = 1999 - 0 * pre.length ∧ pre.length ≤ n.toNat ∧ ∀ s ∈ ss, TxOk s) rfl rfl (fun pre acc m hp => ?_) (fun pre x post acc m Y X hl hp hY hX => ?_) (fun acc m hp => ?_) [] _ ⟨[], rfl, rfl, by simp, by simp, by simp⟩
    · obtain ⟨ss, rfl, h1, h2, h3, h4⟩ := hp
      rw [List.length_map]
      omega
    · obtain ⟨ss, rfl, h1, h2, h3, h4⟩ := hp
      have hlen := congrArg List.length hl
      rw [lr, List.length_append, List.length_cons] at hlen
      have hx : 0 ≤ x ∧ x < n := mem_rg.mp (hl ▸ List.mem_append_right pre List.mem_cons_self)
      have add : ∀ s : Str, TxOk s → ∀ j, j = m - 0 → Y ⟨[.pu, .fz (.int n), .fz (.int o), .jk, .fz (.int x)], [.fz (.str s), .ow true (.list (ss.map PyData.str))], j⟩ := fun s hs j hj => hY _ true (.str s) _ rfl rfl ⟨ss ++ [s], by simp, by simp [h1], by rw [List.length_append, List.length_singleton]; omega, by rw [List.length_append, List.length_singleton]; omega, fun y hy => by
        rcases List.mem_append.mp hy with hy | hy
        · exact h4 y hy
        · simp only [List.mem_singleton] at hy
          subst hy
          exact hs⟩
      walk_at "ev"
      refine ⟨Nat.lt_trans (log2_of (by omega)) (by decide), ?_⟩
      walk_at "ev"
      refine ⟨by rw [tl]; have := tn x hx.1 (by omega); omega, ?_⟩
      exact add _ ⟨by rw [Str.length_append, tl]; have := tn x hx.1 (by omega); omega, strOk_app (by decide +kernel) (strOk_of _)⟩ _ (by omega)
    · obtain ⟨ss, rfl, h1, h2, h3, h4⟩ := hp
      rw [lr] at h1 h2 h3
      walk_at "ev"
      exact ⟨by omega, q ss (by omega) h4⟩
  walk_at "go"
  refine iteB (fun c => ?_) (fun c => ?_)
  · refine ⟨by omega, ?_⟩
    refine lc_inv true (rg 0 n) PyData.int (fun pre acc m => ∃ ss : List Str, acc = ss.map PyData.str ∧ ss.length = pre.length ∧ m = 1999 - 4 * pre.length ∧ pre.length ≤ n.toNat ∧ ∀ s ∈ ss, TxOk s) rfl rfl (fun pre acc m hp => ?_) (fun pre x post acc m Y X hl hp hY hX => ?_) (fun acc m hp => ?_) [] _ ⟨[], rfl, rfl, by simp, by simp, by simp⟩
    · obtain ⟨ss, rfl, h1, h2, h3, h4⟩ := hp
      rw [List.length_map]
      omega
    · obtain ⟨ss, rfl, h1, h2, h3, h4⟩ := hp
      have hlen := congrArg List.length hl
      rw [lr, List.length_append, List.length_cons] at hlen
      have hx : 0 ≤ x ∧ x < n := mem_rg.mp (hl ▸ List.mem_append_right pre List.mem_cons_self)
      have add : ∀ s : Str, TxOk s → ∀ j, j = m - 4 → Y ⟨[.pu, .fz (.int n), .fz (.int o), .fz (.int x), .jk], [.fz (.str s), .ow true (.list (ss.map PyData.str))], j⟩ := fun s hs j hj => hY _ true (.str s) _ rfl rfl ⟨ss ++ [s], by simp, by simp [h1], by rw [List.length_append, List.length_singleton]; omega, by rw [List.length_append, List.length_singleton]; omega, fun y hy => by
        rcases List.mem_append.mp hy with hy | hy
        · exact h4 y hy
        · simp only [List.mem_singleton] at hy
          subst hy
          exact hs⟩
      walk_at "ev"
      refine ⟨⟨by decide, by omega⟩, rfl, fun s hs => ?_⟩
      exact add s hs _ rfl
    · obtain ⟨ss, rfl, h1, h2, h3, h4⟩ := hp
      rw [lr] at h1 h2 h3
      walk_at "ev"
      exact ⟨by omega, q ss (by omega) h4⟩
  walk_at "go"
  refine ⟨by omega, ?_⟩
  refine lc_inv true (rg 0 n) PyData.int (fun pre acc m => ∃ ss : List Str, acc = ss.map PyData.str ∧ ss.length = pre.length ∧ m = 1999 - 1 * pre.length ∧ pre.length ≤ n.toNat ∧ ∀ s ∈ ss, TxOk s) rfl rfl (fun pre acc m hp => ?_) (fun pre x post acc m Y X hl hp hY hX => ?_) (fun acc m hp => ?_) [] _ ⟨[], rfl, rfl, by simp, by simp, by simp⟩
  · obtain ⟨ss, rfl, h1, h2, h3, h4⟩ := hp
    rw [List.length_map]
    omega
  · obtain ⟨ss, rfl, h1, h2, h3, h4⟩ := hp
    have hlen := congrArg List.length hl
    rw [lr, List.length_append, List.length_cons] at hlen
    have hx : 0 ≤ x ∧ x < n := mem_rg.mp (hl ▸ List.mem_append_right pre List.mem_cons_self)
    have add : ∀ s : Str, TxOk s → ∀ j, j = m - 1 → Y ⟨[.pu, .fz (.int n), .fz (.int o), .fz (.int x), .jk], [.fz (.str s), .ow true (.list (ss.map PyData.str))], j⟩ := fun s hs j hj => hY _ true (.str s) _ rfl rfl ⟨ss ++ [s], by simp, by simp [h1], by rw [List.length_append, List.length_singleton]; omega, by rw [List.length_append, List.length_singleton]; omega, fun y hy => by
      rcases List.mem_append.mp hy with hy | hy
      · exact h4 y hy
      · simp only [List.mem_singleton] at hy
        subst hy
        exact hs⟩
    walk_at "ev"
    refine ⟨⟨by decide, by omega⟩, 3, rfl, by decide, by decide, fun g g0 g1 => ?_⟩
    walk_at "ev"
    refine vIxS_any g0 (by rw [al]; exact g1) (by rw [al]; decide) fun c hc => ?_
    exact add (⟨#[c]⟩ : Str) ⟨(show (1 : Nat) ≤ 20 by decide), by
      rw [strOk_iff]
      intro y hy
      simp at hy
      subst hy
      exact ac _ hc⟩ _ rfl
  · obtain ⟨ss, rfl, h1, h2, h3, h4⟩ := hp
    rw [lr] at h1 h2 h3
    walk_at "ev"
    exact ⟨by omega, q ss (by omega) h4⟩
theorem ok__law_ps_heap (p : Prog K mg) : FnG P w K mg base CX0 3 p.f__law_ps_heap p.fd__law_ps_heap ["_law_sack", "_law_size"] (spP 2000 w__law_ps_heap) :=
  okP p.d__law_ps_heap.F sc__law_ps_heap (by decide) ar__law_ps_heap (by decide) (fun cdv A outer s H E hg hr => ⟨_, (pss_cons (ps_set (i := 2) sc__law_ps_heap.nd rfl (Or.inl rfl) (pe_callG ((ok__law_coin p).mono (by decide)) hg hr (by rfl) p.d__law_coin.gl p.d__law_coin.kp p.d__law_coin.bd pass0 (pa_cons (pv 0) (pa_cons pe_int pa_nil))))
      (pss_cons (ps_if (pt_cmpR op_eq (pv 2) pe_int (nomark _))
      (pss_one (ps_ret (pe_lc (own := [("_law_rank", 4)]) (g := gName 4) (tt := tYes) rfl sc__law_ps_heap.nd (pi_range1 (by rfl) p.blt.range (pa_cons (pv 1) pa_nil)) (blkOk_by (N := N__law_ps_heap) (sc := defScope s__law_ps_heap) (by decide +kernel)) (fun _ _ _ _ _ => pg_name (i := 4) sc__law_ps_heap.nd rfl (Or.inl rfl)) (fun _ _ _ _ _ => pts_nil) (fun _ _ _ _ _ => (pe_op op_add_str pe_str (pe_callTy call_str_int (by rfl) p.blt.str (by decide +kernel) (pa_cons (pv 4) pa_nil))))))) pss_nil)
      (pss_cons (ps_if (pt_cmpR op_eq (pv 2) pe_int (nomark _))
      (pss_one (ps_ret (pe_lc (own := [("_law_turn", 3)]) (g := gName 3) (tt := tYes) rfl sc__law_ps_heap.nd (pi_range1 (by rfl) p.blt.range (pa_cons (pv 1) pa_nil)) (blkOk_by (N := N__law_ps_heap) (sc := defScope s__law_ps_heap) (by decide +kernel)) (fun _ _ _ _ _ => pg_name (i := 3) sc__law_ps_heap.nd rfl (Or.inl rfl)) (fun _ _ _ _ _ => pts_nil) (fun _ _ _ _ _ => (pe_callG ((ok__law_ps_text p).mono (by decide)) hg hr (by rfl) p.d__law_ps_text.gl p.d__law_ps_text.kp p.d__law_ps_text.bd pass0 (pa_cons (pv 0) pa_nil)))))) pss_nil)
      (pss_one (ps_ret (pe_lc (own := [("_law_turn", 3)]) (g := gName 3) (tt := tYes) rfl sc__law_ps_heap.nd (pi_range1 (by rfl) p.blt.range (pa_cons (pv 1) pa_nil)) (blkOk_by (N := N__law_ps_heap) (sc := defScope s__law_ps_heap) (by decide +kernel)) (fun _ _ _ _ _ => pg_name (i := 3) sc__law_ps_heap.nd rfl (Or.inl rfl)) (fun _ _ _ _ _ => pts_nil) (fun _ _ _ _ _ => (pe_ix ix_str pe_str (pe_callG ((ok__law_coin p).mono (by decide)) hg hr (by rfl) p.d__law_coin.gl p.d__law_coin.kp p.d__law_coin.bd pass0 (pa_cons (pv 0) (pa_cons pe_int pa_nil))) (fun _ _ => rfl))))))))),
    fun C xc => (so_seq (so_asg (so_callP (so_cons (so_var (i := 0)) (so_cons (so_c (sca_int _)) so_nil))) (so_gname (i := 2)))
      (so_seq (so_ifS (so_test (so_op sr_eq (so_var (i := 2)) (so_c (sca_int _))))
      (so_ret (so_lc (so_rng1 (so_var (i := 1))) so_yes (so_op sr_catS (so_c (sca_str _)) (so_f sc_strI (so_cons (so_var (i := 4)) so_nil))))) so_next)
      (so_seq (so_ifS (so_test (so_op sr_eq (so_var (i := 2)) (so_c (sca_int _))))
      (so_ret (so_lc (so_rng1 (so_var (i := 1))) so_yes (so_callP (so_cons (so_var (i := 0)) so_nil)))) so_next)
      (so_ret (so_lc (so_rng1 (so_var (i := 1))) so_yes (so_op sr_ixS (so_c (sca_str _)) (so_callP (so_cons (so_var (i := 0)) (so_cons (so_c (sca_int _)) so_nil)))))))))⟩) val__law_ps_heap
/-! ### _law_ps_once -/
-- auto P 1100
-- uses _law_ps_drawn
def w__law_ps_once : Tw := fun ds Q => ∃ deep most, ds = [.int deep, .int most] ∧ 0 ≤ deep ∧ deep ≤ 100 ∧ 0 ≤ most ∧ most ≤ 100 ∧ ∀ n gs, Eff (n, gs) → n ≤ deep → (gs.length : Int) ≤ most → Q (dE (n, gs))
theorem ar__law_ps_once : ∀ ds G, w__law_ps_once ds G → ds.length + 1 = 3 := by
  rintro ds G ⟨deep, most, rfl, _⟩
  rfl
def kr__law_ps_once_1 : KS := (kRet (kMk false 2 (kCons (kVar 3) (kCons (kSl (kVar 4) kNo (kPart (kF 2 (v2I fun i j => if j < i then j else i) (kCons (kVar 2) (kCons (kCallP 1 w__law_coin 1 (kCons (kVar 0) (kCons (kOp (vI noC fun i j => i + j) (kVar 3) (kC (.int 1))) kNil))) kNil))))) kNil))))
def kr__law_ps_once_2 : KS := (kSeq (kAsg (kCallP 1000 w__law_ps_order 1 (kCons (kVar 0) (kCons (kVar 3) kNil))) (kgName 4))
  kr__law_ps_once_1)
def k__law_ps_once : KS := (kSeq (kAsg (kCallP 1 w__law_coin 1 (kCons (kVar 0) (kCons (kOp (vI noC fun i j => i + j) (kVar 1) (kC (.int 1))) kNil))) (kgName 3))
  kr__law_ps_once_2)
local macro_rules | `(tactic| walk_at "go") => `(tactic| ((first | unfold kr__law_ps_once_1 | unfold kr__law_ps_once_2); walk_at "ev"))
theorem val__law_ps_once : ∀ ds G, w__law_ps_once ds G → k__law_ps_once ⟨.pu :: (ds.map Sl.fz ++ [.jk, .jk]), [], 1100⟩ (edP G) := by
  rintro ds Gq ⟨deep, most, rfl, d0, d1, m0, m1, q⟩
  unfold k__law_ps_once
  walk_at "ev"
  refine ⟨⟨by decide, by decide⟩, deep + 1, rfl, by omega, by omega, fun n n0 n1 => ?_⟩
  walk_at "ev"
  walk_at "go"
  refine ⟨by decide, n, rfl, n0, by omega, fun gs pm => ?_⟩
  obtain ⟨pl, pmem⟩ := perm_rg n0 pm
  walk_at "ev"
  walk_at "go"
  refine ⟨by decide, n + 1, rfl, by omega, by omega, fun c c0 c1 => ?_⟩
  dsimp only
  obtain ⟨k, hk⟩ : ∃ k : Int, (if c < most then c else most) = k := ⟨_, rfl⟩
  have k0 : 0 ≤ k ∧ k ≤ most := by rw [← hk]; split <;> omega
  rw [hk, cutD_toI k0.1, nolists_ints]
  refine ⟨by decide, ?_⟩
  rw [mkS_tt, rtN_own]
  refine q n _ ⟨n0, fun x hx => (pmem x (List.mem_of_mem_take hx)).1, fun x hx => (pmem x (List.mem_of_mem_take hx)).2⟩ (by omega) (by rw [List.length_take]; omega)
theorem ok__law_ps_once (p : Prog K mg) : FnG P w K mg base CX0 3 p.f__law_ps_once p.fd__law_ps_once ["_law_sack", "_law_deep", "_law_most"] (spP 1100 w__law_ps_once) :=
  okP p.d__law_ps_once.F sc__law_ps_once (by decide) ar__law_ps_once (by decide) (fun cdv A outer s H E hg hr => ⟨_, (pss_cons (ps_set (i := 3) sc__law_ps_once.nd rfl (Or.inl rfl) (pe_callG ((ok__law_coin p).mono (by decide)) hg hr (by rfl) p.d__law_coin.gl p.d__law_coin.kp p.d__law_coin.bd pass0 (pa_cons (pv 0) (pa_cons (pe_op op_add (pv 1) pe_int) pa_nil))))
      (pss_cons (ps_set (i := 4) sc__law_ps_once.nd rfl (Or.inl rfl) (pe_callG ((ok__law_ps_order p).mono (by decide)) hg hr (by rfl) p.d__law_ps_order.gl p.d__law_ps_order.kp p.d__law_ps_order.bd pass0 (pa_cons (pv 0) (pa_cons (pv 3) pa_nil))))
      (pss_one (ps_ret (pe_tup (pa_cons (pv 3) (pa_cons (pe_slice sl_list (pv 4) po_none (po_some (pe_callB (call_min2 rfl) (by rfl) p.blt.min (by decide +kernel) (pa_cons (pv 2) (pa_cons (pe_callG ((ok__law_coin p).mono (by decide)) hg hr (by rfl) p.d__law_coin.gl p.d__law_coin.kp p.d__law_coin.bd pass0 (pa_cons (pv 0) (pa_cons (pe_op op_add (pv 3) pe_int) pa_nil))) pa_nil))))) pa_nil))))))),
    fun C xc => (so_seq (so_asg (so_callP (so_cons (so_var (i := 0)) (so_cons (so_op sr_I0 (so_var (i := 1)) (so_c (sca_int _))) so_nil))) (so_gname (i := 3)))
      (so_seq (so_asg (so_callP (so_cons (so_var (i := 0)) (so_cons (so_var (i := 3)) so_nil))) (so_gname (i := 4)))
      (so_ret (so_tup (so_cons (so_var (i := 3)) (so_cons (so_sl (so_var (i := 4)) so_no (so_part (so_f sc_2i (so_cons (so_var (i := 2)) (so_cons (so_callP (so_cons (so_var (i := 0)) (so_cons (so_op sr_I0 (so_var (i := 3)) (so_c (sca_int _))) so_nil))) so_nil))))) so_nil))))))⟩) val__law_ps_once
/-! ### _law_ps_lists -/
-- auto S
/-- all lists of so many numbers to top, or None if there are many -/
def w__law_ps_lists : Tw := fun ds Q => ∃ top size : Int, ds = [.int top, .int size] ∧ 0 ≤ top ∧ top ≤ 200 ∧ -1000 ≤ size ∧ size ≤ 1000 ∧ (0 < size → Q .none) ∧ ((allL top size.toNat).length ≤ 300 → Q (.list ((allL top size.toNat).map dI)))
theorem ar__law_ps_lists : ∀ ds G, w__law_ps_lists ds G → ds.length = 2 := by
  rintro ds G ⟨top, size, rfl, _⟩
  rfl
def RowS (s : Sl) (d : D) : Prop := s = .fz d ∨ ∃ b, s = .ow b d
def kb__law_ps_lists_1 : KS := (kAsg (kCat (kFrz 4) (kLc (kRng2 (kC (.int 1)) (kOp (vI noC fun i j => i + j) (kVar 0) (kC (.int 1)))) 6 kYes (kCat (kVar 5) (kMk true 1 (kCons (kVar 6) kNil))))) (kgName 4))
def kr__law_ps_lists_2 : KS := (kIfS (kTest (kOp (vB fun i j => decide (j < i)) (kF 1 vLen (kCons (kVar 2) kNil)) (kC (.int 300))))
  (kRet (kC .none))
  kNext)
def kr__law_ps_lists_3 : KS := (kSeq (kAsg (kMov 4) (kgName 2))
  kr__law_ps_lists_2)
def kr__law_ps_lists_4 : KS := (kSeq (kFor (kIt true (kFrz 2)) (kgName 5) kb__law_ps_lists_1)
  kr__law_ps_lists_3)
def kb__law_ps_lists_5 : KS := (kSeq (kAsg (kLit (.list [])) (kgName 4))
  kr__law_ps_lists_4)
def kr__law_ps_lists_6 : KS := (kRet (kFrz 2))
def kr__law_ps_lists_7 : KS := (kSeq (kFor (kRng1 (kVar 1)) (kgName 3) kb__law_ps_lists_5)
  kr__law_ps_lists_6)
def k__law_ps_lists : KS := (kSeq (kAsg (kLit (.list [(.list [])])) (kgName 2))
  kr__law_ps_lists_7)
local macro_rules | `(tactic| walk_at "go") => `(tactic| ((first | unfold kr__law_ps_lists_2 | unfold kr__law_ps_lists_3 | unfold kr__law_ps_lists_4 | unfold kr__law_ps_lists_6 | unfold kr__law_ps_lists_7); walk_at "ev"))
theorem val__law_ps_lists : ∀ ds G, w__law_ps_lists ds G → k__law_ps_lists ⟨ds.map Sl.fz ++ [.jk, .jk, .jk, .jk, .jk], [], 0⟩ (edS G) := by
  rintro ds Gq ⟨top, size, rfl, t0, t1, s0, s1, qn, q⟩
  unfold k__law_ps_lists
  walk_at "ev"
  walk_at "go"
  refine ⟨⟨by omega, by omega⟩, ?_⟩
  have lr := rg_length 0 size
  refine forL_ints (rg 0 size) (fun pre γ => ∃ (s2 x3 x4 x5 : Sl), γ = ⟨[.fz (.int top), .fz (.int size), s2, x3, x4, x5, .jk], [], 0⟩ ∧ RowS s2 (.list ((allL top pre.length).map dI)) ∧ (allL top pre.length).length ≤ 300) (fun pre x post γ N hl ht hP hN => ?_) (fun γ ht hP => ?_) _ rfl ⟨_, _, _, _, rfl, .inr ⟨true, rfl⟩, by show (allL top 0).length ≤ 300; unfold allL; decide⟩
  · obtain ⟨s2, x3, x4, x5, rfl, hs, l300⟩ := hP
    obtain ⟨ex, hx⟩ := rg_mid hl
    obtain ⟨k, hk⟩ : ∃ k, pre.length = k := ⟨_, rfl⟩
    rw [hk] at ex hx hs l300
    have nx : ∀ (s2 x3 x4 x5 : Sl), RowS s2 (.list ((allL top (k + 1)).map dI)) → (allL top (k + 1)).length ≤ 300 → N ⟨[.fz (.int top), .fz (.int size), s2, x3, x4, x5, .jk], [], 0⟩ := fun s2 x3 x4 x5 h h3 => hN _ rfl ⟨s2, x3, x4, x5, rfl, by rw [List.length_append, List.length_singleton, hk]; exact h, by rw [List.length_append, List.length_singleton, hk]; exact h3⟩
    unfold kb__law_ps_lists_5
    have hlen : (k : Int) < size := by omega
    have stp : ∀ (T : List Sl) (x5 : Sl) (e : KEd), (∀ x5 b, e.nx ⟨[.fz (.int top), .fz (.int size), .fz (.list ((allL top k).map dI)), .fz (.int x), .ow b (.list ((allL top (k + 1)).map dI)), x5, .jk], [.fz (.list ((allL top k).map dI))], 0⟩) → forL (kgName 5) kb__law_ps_lists_1 [.fz (.list ((allL top k).map dI))] ((allL top k).map dI) ⟨[.fz (.int top), .fz (.int size), .fz (.list ((allL top k).map dI)), .fz (.int x), .ow true (.list []), x5, .jk], [.fz (.list ((allL top k).map dI))], 0⟩ e := fun T x5 e fin => by
      have per : ∀ pre : List (List Int), (pre.flatMap fun row => (rg 1 (top + 1)).map fun r => row ++ [r]).length = pre.length * top.toNat := fun pre => by
        induction pre with
        | nil => simp
        | cons y pre ih =>
          rw [List.flatMap_cons, List.length_append, ih, List.length_map, rg_length, List.length_cons, Nat.add_mul]
          omega
      refine forL_inv (allL top k) dI (fun pre γ => ∃ (b : Bool) (x5 : Sl), γ = ⟨[.fz (.int top), .fz (.int size), .fz (.list ((allL top k).map dI)), .fz (.int x), .ow b (.list ((pre.flatMap fun row => (rg 1 (top + 1)).map fun r => row ++ [r]).map dI)), x5, .jk], [.fz (.list ((allL top k).map dI))], 0⟩) (fun pre row post γ N2 hl2 ht2 hP2 hN2 => ?_) (fun γ ht2 hP2 => ?_) _ rfl ⟨true, _, rfl⟩
      · obtain ⟨b, x5, rfl⟩ := hP2
        have hm := mem_allL.mp (show row ∈ allL top k by rw [hl2]; simp)
        have hl3 := congrArg List.length hl2
        rw [List.length_append, List.length_cons] at hl3
        have p1 := per pre
        have p2 : pre.length * top.toNat ≤ 300 * 200 := Nat.mul_le_mul (by omega) (by omega)
        have l1 := rg_length 1 (top + 1)
        unfold kb__law_ps_lists_1
        walk_at "ev"
        refine ⟨⟨by decide, by decide, by omega, by omega⟩, ?_⟩
        refine lc_inv (j := 6) true (rg 1 (top + 1)) PyData.int (fun pr acc n => acc = (pr.map fun r => row ++ [r]).map dI ∧ pr.length ≤ 200 ∧ n = 0) rfl rfl (fun pr acc n hp => ?_) (fun pr r po acc n Y X hl4 hp hY hX => ?_) (fun acc n hp => ?_) [] 0 ⟨rfl, by simp, rfl⟩
        · obtain ⟨rfl, h1, _⟩ := hp
          rw [List.length_map, List.length_map]
          omega
        · obtain ⟨rfl, h1, rfl⟩ := hp
          have hl5 := congrArg List.length hl4
          rw [List.length_append, List.length_cons] at hl5
          walk_at "ev"
          refine ⟨by omega, ?_⟩
          have e1 : List.map PyData.int row ++ [PyData.int r] = (row ++ [r]).map PyData.int := by simp
          rw [e1]
          refine hY _ true (dI (row ++ [r])) _ rfl rfl ⟨by simp, by rw [List.length_append, List.length_singleton]; omega, rfl⟩
        · obtain ⟨rfl, _, rfl⟩ := hp
          walk_at "ev"
          rw [← List.map_append]
          refine ⟨by rw [p1, l1]; omega, hN2 _ rfl ?_⟩
          simp only [List.flatMap_append, List.flatMap_cons, List.flatMap_nil, List.append_nil]
          exact ⟨_, _, rfl⟩
      · obtain ⟨b, x5, rfl⟩ := hP2
        exact fin x5 b
    rcases hs with rfl | ⟨b, rfl⟩
    all_goals
      walk_at "ev"
      walk_at "go"
      refine stp [] _ _ fun x5 b => ?_
      walk_at "go"
      walk_at "go"
      refine iteB (fun c => ?_) (fun c => ?_)
      · exact qn (by omega)
      · have c := of_decide_eq_false c
        exact nx _ _ _ _ (.inr ⟨_, rfl⟩) (by omega)
  · obtain ⟨s2, x3, x4, x5, rfl, hs, l300⟩ := hP
    rw [lr, show (size - 0).toNat = size.toNat by omega] at hs l300
    rcases hs with rfl | ⟨b, rfl⟩
    all_goals
      walk_at "go"
      exact q l300
theorem ok__law_ps_lists (p : Prog K mg) : FnG P w K mg base CX0 1 p.f__law_ps_lists p.fd__law_ps_lists ["_law_top", "_law_size"] (spS w__law_ps_lists) :=
  okSh p.d__law_ps_lists.F sc__law_ps_lists (by decide) ar__law_ps_lists (fun cdv A outer s H E hg hr => ⟨_, (pss_cons (ps_set (i := 2) sc__law_ps_lists.nd rfl (Or.inl rfl) (pe_lst (pa_cons (pe_lst pa_nil) pa_nil)))
      (pss_cons (ps_for PassesOwn.never rfl (pi_range1 (by rfl) p.blt.range (pa_cons (pv 1) pa_nil)) (pg_name (i := 3) sc__law_ps_lists.nd rfl (Or.inl rfl))
      (pss_cons (ps_set (i := 4) sc__law_ps_lists.nd rfl (Or.inl rfl) (pe_lst pa_nil))
      (pss_cons (ps_for PassesOwn.never rfl (pi_list (pv 2)) (pg_name (i := 5) sc__law_ps_lists.nd rfl (Or.inr rfl))
      (pss_one (ps_set (i := 4) sc__law_ps_lists.nd rfl (Or.inl rfl) (pe_op op_cat (pv 4) (pe_lc (own := [("_law_rank", 6)]) (g := gName 6) (tt := tYes) rfl sc__law_ps_lists.nd (pi_range2 (by rfl) p.blt.range (pa_cons pe_int (pa_cons (pe_op op_add (pv 0) pe_int) pa_nil))) (blkOk_by (N := N__law_ps_lists) (sc := defScope s__law_ps_lists) (by decide +kernel)) (fun _ _ _ _ _ => pg_name (i := 6) sc__law_ps_lists.nd rfl (Or.inl rfl)) (fun _ _ _ _ _ => pts_nil) (fun _ _ _ _ _ => (pe_op op_cat (pv 5) (pe_lst (pa_cons (pv 6) pa_nil)))))))))
      (pss_cons (ps_set (i := 2) sc__law_ps_lists.nd rfl (Or.inl rfl) (pv 4))
      (pss_one (ps_if (pt_cmpR op_gt (pe_callB call_len_seq (by rfl) p.blt.len PySem.boot_len (pa_cons (pv 2) pa_nil)) pe_int (nomark _))
      (pss_one (ps_ret pe_non)) pss_nil))))))
      (pss_one (ps_ret (pv 2))))),
    fun C xc => (so_seq (so_asg (so_lit_lst (so_lits_cons (so_lit_lst so_lits_nil) so_lits_nil)) (so_gname (i := 2)))
      (so_seq (so_for (so_rng1 (so_var (i := 1))) (so_gname (i := 3))
      (so_seq (so_asg (so_lit_lst so_lits_nil) (so_gname (i := 4)))
      (so_seq (so_for (so_itL (so_frz (i := 2))) (so_gname (i := 5))
      (so_asg (so_cat (so_frz (i := 4)) (so_lc (so_rng2 (so_c (sca_int _)) (so_op sr_I0 (so_var (i := 0)) (so_c (sca_int _)))) so_yes (so_cat (so_var (i := 5)) (so_lst (so_cons (so_var (i := 6)) so_nil))))) (so_gname (i := 4))))
      (so_seq (so_asg (so_mov (i := 4)) (so_gname (i := 2)))
      (so_ifS (so_test (so_op sr_B (so_f sc_len (so_cons (so_var (i := 2)) so_nil)) (so_c (sca_int _))))
      (so_ret (so_c sca_non)) so_next)))))
      (so_ret (so_frz (i := 2)))))⟩) val__law_ps_lists
/-! ### _law_ps_redo_due -/
-- auto S
def w__law_ps_redo_due : Tw := fun ds Q => ∃ e : Int × List Int, ds = [dE e] ∧ Eff e ∧ Lst e ∧ e.1 ≤ 100 ∧ e.2.length ≤ 100 ∧ Q (redoD e)
theorem ar__law_ps_redo_due : ∀ ds G, w__law_ps_redo_due ds G → ds.length = 1 := by
  rintro ds G ⟨e, rfl, _⟩
  rfl
def kr__law_ps_redo_due_1 : KS := (kIfS (kTest (kOp (vEqD true) (kVar 6) (kLit (.list []))))
  (kRet (kMk false 2 (kCons (kVar 3) (kCons (kIx true (kSortD (kCons (kFrz 6) kNil)) (kC (.int 0))) kNil))))
  kNext)
def kr__law_ps_redo_due_2 : KS := (kSeq (kAsg (kLc (kIt true (kFrz 5)) 9 (kTest (kOp (vEqD false) (kCallT w__law_ps_both 2 (kCons (kMk false 2 (kCons (kVar 3) (kCons (kFrz 9) kNil))) (kCons (kVar 0) kNil))) (kLit (.tuple [(.int 0), (.list [])])))) (kFrz 9)) (kgName 6))
  kr__law_ps_redo_due_1)
def kr__law_ps_redo_due_3 : KS := (kSeq (kIfS (kTest (kOp (vIsN false) (kVar 5) (kC .none)))
  kBreak
  kNext)
  kr__law_ps_redo_due_2)
def kr__law_ps_redo_due_4 : KS := (kSeq (kAsg (kCallS w__law_ps_lists 2 (kCons (kVar 3) (kCons (kVar 4) kNil))) (kgName 5))
  kr__law_ps_redo_due_3)
def kb__law_ps_redo_due_5 : KS := (kSeq (kAsg (kOp (vI noC fun i j => i - j) (kOp (vI noC fun i j => i + j) (kVar 3) (kVar 1)) (kF 1 vLen (kCons (kVar 2) kNil))) (kgName 4))
  kr__law_ps_redo_due_4)
def kb__law_ps_redo_due_6 : KS := (kDrop (kApp (kVar 7) (kIf (kTest (kOp (vIn false) (kVar 8) (kVar 2))) (kOp (vI noC fun i j => i + j) (kM 1 vIdx (kVar 2) (kCons (kVar 8) kNil)) (kC (.int 1))) (kC (.int 1)))))
def kr__law_ps_redo_due_7 : KS := (kRet (kMk false 2 (kCons (kF 1 vLen (kCons (kVar 2) kNil)) (kCons (kFrz 7) kNil))))
def kr__law_ps_redo_due_8 : KS := (kSeq (kFor (kRng2 (kC (.int 1)) (kOp (vI noC fun i j => i + j) (kVar 1) (kC (.int 1)))) (kgName 8) kb__law_ps_redo_due_6)
  kr__law_ps_redo_due_7)
def kr__law_ps_redo_due_9 : KS := (kSeq (kAsg (kLit (.list [])) (kgName 7))
  kr__law_ps_redo_due_8)
def kr__law_ps_redo_due_10 : KS := (kSeq (kIfS (kTest (kOp (vEqD false) (kVar 2) (kLit (.list []))))
  (kRet (kMk false 2 (kCons (kC (.int 1)) (kCons (kRepN (kLit (.list [(.int 1)])) (kOp (vI noC fun i j => i + j) (kVar 1) (kC (.int 1)))) kNil))))
  kNext)
  kr__law_ps_redo_due_9)
def kr__law_ps_redo_due_11 : KS := (kSeq (kFor (kRng1 (kOp (vI noC fun i j => i + j) (kF 1 vLen (kCons (kVar 2) kNil)) (kC (.int 2)))) (kgName 3) kb__law_ps_redo_due_5)
  kr__law_ps_redo_due_10)
def kr__law_ps_redo_due_12 : KS := (kSeq (kIfS (kTest (kOp (vB fun i j => decide (i < j)) (kLenSet (kVar 2)) (kF 1 vLen (kCons (kVar 2) kNil))))
  (kRet (kC .none))
  kNext)
  kr__law_ps_redo_due_11)
def k__law_ps_redo_due : KS := (kSeq (kAsg (kFrz 0) (kgTup 2 (kgCons (kgName 1) (kgCons (kgName 2) kgNil))))
  kr__law_ps_redo_due_12)
local macro_rules | `(tactic| walk_at "go") => `(tactic| ((first | unfold kr__law_ps_redo_due_1 | unfold kr__law_ps_redo_due_2 | unfold kr__law_ps_redo_due_3 | unfold kr__law_ps_redo_due_4 | unfold kr__law_ps_redo_due_7 | unfold kr__law_ps_redo_due_8 | unfold kr__law_ps_redo_due_9 | unfold kr__law_ps_redo_due_10 | unfold kr__law_ps_redo_due_11 | unfold kr__law_ps_redo_due_12); walk_at "ev"))
theorem val__law_ps_redo_due : ∀ ds G, w__law_ps_redo_due ds G → k__law_ps_redo_due ⟨ds.map Sl.fz ++ [.jk, .jk, .jk, .jk, .jk, .jk, .jk, .jk, .jk], [], 0⟩ (edS G) := by
  rintro ds Gq ⟨⟨p, ps⟩, rfl, ef, le, n1, l1, q⟩
  unfold k__law_ps_redo_due
  walk_at "ev"
  have p0 : 0 ≤ p := ef.nn
  change p ≤ 100 at n1
  change ps.length ≤ 100 at l1
  walk_at "go"
  refine ⟨by omega, fun out nd hm => ?_⟩
  have sl := set_nodup (e := (p, ps)) nd hm
  refine iteB (fun c => ?_) (fun c => ?_)
  · have c := sl.mp (by have := of_decide_eq_true c; dsimp only; omega)
    unfold redoD at q
    rw [if_neg c] at q
    exact q
  have nd : ps.Nodup := Classical.byContradiction fun z => absurd (sl.mpr z) (by have := of_decide_eq_false c; dsimp only; omega)
  unfold redoD at q
  rw [if_pos nd] at q
  -- the plain way
  have plain : ∀ (x3 x4 x5 x6 : Sl), (ps = [] → p ≠ 0) → kr__law_ps_redo_due_10 ⟨[.fz (dE (p, ps)), .fz (.int p), .fz (dI ps), x3, x4, x5, x6, .jk, .jk, .jk], [], 0⟩ (edS Gq) := fun x3 x4 x5 x6 hp => by
    walk_at "go"
    refine ⟨shaped_ints _, rfl, ?_⟩
    rw [eqv_il0]
    refine iteB (fun d => ?_) (fun d => ?_)
    · have d := of_decide_eq_true d
      have e1 : redoE (p, ps) = (1, List.replicate (p.toNat + 1) 1) := by
        unfold redoE
        rw [if_pos d, if_neg (hp d)]
      rw [e1] at q
      walk_at "ev"
      refine ⟨⟨by omega, by omega, by decide⟩, ?_⟩
      have e2 : (p + 1).toNat = p.toNat + 1 := by omega
      rw [e2]
      have e3 : (List.replicate (p.toNat + 1) [(1 : Int)]).flatten = List.replicate (p.toNat + 1) 1 := by
        have : ∀ m : Nat, (List.replicate m [(1 : Int)]).flatten = List.replicate m 1 := fun m => by
          induction m with
          | zero => rfl
          | succ m ih => rw [List.replicate_succ, List.replicate_succ, List.flatten_cons, ih]; rfl
        exact this _
      rw [e3]
      exact q
    · have d := of_decide_eq_false d
      rw [redo_pos d] at q
      have lr := rg_length 1 (p + 1)
      walk_at "go"
      walk_at "go"
      refine ⟨⟨by omega, by omega, by omega, by omega⟩, ?_⟩
      refine forL_ints (rg 1 (p + 1)) (fun pre γ => ∃ (x8 : Sl), γ = ⟨[.fz (dE (p, ps)), .fz (.int p), .fz (dI ps), x3, x4, x5, x6, .ow true (dI (pre.map fun s => if s ∈ ps then (ps.idxOf s : Int) + 1 else 1)), x8, .jk], [], 0⟩) (fun pre x post γ N hl ht hP hN => ?_) (fun γ ht hP => ?_) _ rfl ⟨_, rfl⟩
      · obtain ⟨x8, rfl⟩ := hP
        obtain ⟨ex, hx⟩ := rg_mid hl
        have nx : ∀ (x8 : Sl), N ⟨[.fz (dE (p, ps)), .fz (.int p), .fz (dI ps), x3, x4, x5, x6, .ow true (dI (pre.map (fun s => if s ∈ ps then (ps.idxOf s : Int) + 1 else 1) ++ [if x ∈ ps then (ps.idxOf x : Int) + 1 else 1])), x8, .jk], [], 0⟩ := fun x8 => hN _ rfl ⟨x8, by rw [List.map_append]; rfl⟩
        have e4 : ∀ v : Int, dI (pre.map (fun s => if s ∈ ps then (ps.idxOf s : Int) + 1 else 1) ++ [v]) = .list ((pre.map (fun s => if s ∈ ps then (ps.idxOf s : Int) + 1 else 1)).map PyData.int ++ [.int v]) := fun v => by
          show PyData.list ((_ ++ [v]).map PyData.int) = _
          rw [List.map_append]
          rfl
        have nx := nx (.fz (.int x))
        rw [e4] at nx
        unfold kb__law_ps_redo_due_6
        walk_at "ev"
        refine iteB (fun g => ?_) (fun g => ?_)
        · have g := of_decide_eq_true g
          rw [if_pos g] at nx
          exact ⟨g, by omega, nx⟩
        · rw [if_neg (of_decide_eq_false g)] at nx
          exact ⟨by omega, nx⟩
      · obtain ⟨x8, rfl⟩ := hP
        walk_at "go"
        exact q
  walk_at "go"
  refine ⟨⟨by omega, by omega⟩, ?_⟩
  have lr := rg_length 0 ((ps.length : Int) + 2)
  refine forL_ints (rg 0 ((ps.length : Int) + 2)) (fun pre γ => ∃ (x3 x4 x5 x6 : Sl), γ = ⟨[.fz (dE (p, ps)), .fz (.int p), .fz (dI ps), x3, x4, x5, x6, .jk, .jk, .jk], [], 0⟩ ∧ (pre.length : Int) ≤ (redoE (p, ps)).1) (fun pre x post γ N hl ht hP hN => ?_) (fun γ ht hP => ?_) _ rfl ⟨_, _, _, _, rfl, redo_nn ef⟩
  · obtain ⟨x3, x4, x5, x6, rfl, hle⟩ := hP
    obtain ⟨ex, hx⟩ := rg_mid hl
    obtain ⟨k, hk⟩ : ∃ k, pre.length = k := ⟨_, rfl⟩
    rw [hk] at ex hle
    obtain rfl : x = k := by omega
    unfold kb__law_ps_redo_due_5
    walk_at "ev"
    walk_at "go"
    refine ⟨(k : Int), szR (p, ps) k, by unfold szR; rfl, by omega, by omega, by unfold szR; dsimp only; omega, by unfold szR; dsimp only; omega, fun hz => ?_, fun hlR => ?_⟩
    · walk_at "go"
      refine plain _ _ _ _ fun h1 h2 => ?_
      unfold redoE at hle
      unfold szR at hz
      rw [if_pos h1, if_pos h2] at hle
      rw [h1, h2] at hz
      simp at hle hz
      omega
    · walk_at "go"
      walk_at "go"
      obtain ⟨R, hR⟩ : ∃ R, allL (k : Int) (szR (p, ps) k).toNat = R := ⟨_, rfl⟩
      have memR : ∀ row, row ∈ R ↔ row.length = (szR (p, ps) k).toNat ∧ ∀ y ∈ row, 1 ≤ y ∧ y ≤ (k : Int) := fun row => by rw [← hR]; exact mem_allL
      have k0 : k ≤ 102 := by omega
      have sz0 : (szR (p, ps) k).toNat ≤ 300 := by unfold szR; dsimp only; omega
      have effR : ∀ row, row ∈ R → Eff ((k : Int), row) := fun row hr => ⟨by show (0 : Int) ≤ k; omega, fun y hy => (((memR row).mp hr).2 y hy).1, fun y hy => (((memR row).mp hr).2 y hy).2⟩
      rw [hR] at hlR ⊢
      refine lc_invB (j := 9) R dI (fun pre acc n => acc = (pre.filter fun row => decide (joinE (leastE (k : Int) row) (p, ps) = (0, []))).map dI ∧ pre.length ≤ R.length ∧ n = 0) rfl rfl (fun pre acc n hp => ?_) (fun b pre row post acc n Y X hl hp hY hX => ?_) (fun b acc n hp => ?_) _ [] 0 ⟨rfl, by simp, rfl⟩
      · obtain ⟨rfl, h1, _⟩ := hp
        rw [List.length_map]
        have := List.length_filter_le (fun row => decide (joinE (leastE (k : Int) row) (p, ps) = (0, []))) pre
        omega
      · obtain ⟨rfl, h1, rfl⟩ := hp
        have hr : row ∈ R := by rw [hl]; simp
        have hl2 := congrArg List.length hl
        rw [List.length_append, List.length_cons] at hl2
        walk_at "ev"
        have lr2 := ((memR row).mp hr).1
        refine ⟨(k : Int), row, p, ps, rfl, effR row hr, ef, by omega, by omega, by omega, by omega, ?_⟩
        rw [show leastE p ps = (p, ps) from le]
        refine ⟨shaped_dE _, rfl, ?_⟩
        rw [show (PyData.tuple [PyData.int 0, PyData.list []] : D) = dE (0, []) from rfl, eqv_dE]
        refine iteB (fun c => ?_) (fun c => ?_)
        · walk_at "ev"
          refine hY _ _ (dI row) 0 rfl ⟨?_, by rw [List.length_append, List.length_singleton]; omega, rfl⟩
          rw [List.filter_append, List.map_append]
          simp only [List.filter, c, List.map_cons, List.map_nil]
        · refine hX _ ⟨?_, by rw [List.length_append, List.length_singleton]; omega, rfl⟩
          rw [List.filter_append]
          simp only [List.filter, c, List.append_nil]
      obtain ⟨rfl, _, rfl⟩ := hp
      obtain ⟨F, hF⟩ : ∃ F, R.filter (fun row => decide (joinE (leastE (k : Int) row) (p, ps) = (0, []))) = F := ⟨_, rfl⟩
      have memF : ∀ row, row ∈ F ↔ row ∈ R ∧ IdP ((k : Int), row) (p, ps) := fun row => by
        rw [← hF, List.mem_filter]
        constructor
        · rintro ⟨h1, h2⟩
          exact ⟨h1, (idp_least ef).mp ((join_id (leastE_ok (effR row h1)).eff ef).mp (of_decide_eq_true h2))⟩
        · rintro ⟨h1, h2⟩
          exact ⟨h1, decide_eq_true ((join_id (leastE_ok (effR row h1)).eff ef).mpr ((idp_least ef).mpr h2))⟩
      rw [hF]
      walk_at "ev"
      walk_at "go"
      refine ⟨shaped_rows F, rfl, ?_⟩
      rw [eqv_rows0]
      refine iteB (fun c => ?_) (fun c => ?_)
      · have c : F ≠ [] := by simpa using c
        have ek : (redoE (p, ps)).1 = k := by
          apply Classical.byContradiction
          intro z
          obtain ⟨row, hrow⟩ := List.exists_mem_of_ne_nil F c
          obtain ⟨h1, h2⟩ := (memF row).mp hrow
          exact redo_few ef le nd (by omega) (by omega) (by rw [hR]; exact h1) h2
        have xm : (redoE (p, ps)).2 ∈ F := by
          refine (memF _).mpr ⟨?_, ?_⟩
          · have := redo_mem ef
            rw [ek, hR] at this
            exact this
          · have := (redo_ok ef nd).2.1
            intro r hr
            rw [← ek]
            exact this r hr
        obtain ⟨r, hr⟩ := sort_rows xm fun y hy => by
          obtain ⟨h1, h2⟩ := (memF y).mp hy
          refine redo_le ef (by rw [ek, hR]; exact h1) (by rw [ek]; exact h2)
        have fl := List.length_filter_le (fun row => decide (joinE (leastE (k : Int) row) (p, ps) = (0, []))) R
        rw [hF] at fl
        refine ⟨(al_rows F).mpr (by omega), ?_⟩
        rw [hr]
        refine ixD_any (Int.le_refl 0) (by simp) fun x hx => ?_
        obtain rfl : dI (redoE (p, ps)).2 = x := Option.some.inj hx
        rw [show nolists (dI (redoE (p, ps)).2 :: r) = false from rfl]
        have q2 : Gq (.tuple [.int (k : Int), dI (redoE (p, ps)).2]) := by
          rw [← ek]
          exact q
        exact q2
      · have c : F = [] := by simpa using c
        refine hN _ rfl ⟨_, _, _, _, rfl, ?_⟩
        rw [List.length_append, List.length_singleton, hk]
        have ne : (redoE (p, ps)).1 ≠ k := fun ek => by
          have xm : (redoE (p, ps)).2 ∈ F := by
            refine (memF _).mpr ⟨?_, ?_⟩
            · have := redo_mem ef
              rw [ek, hR] at this
              exact this
            · have := (redo_ok ef nd).2.1
              intro r hr
              rw [← ek]
              exact this r hr
          rw [c] at xm
          cases xm
        omega
  · obtain ⟨x3, x4, x5, x6, rfl, hle⟩ := hP
    rw [lr] at hle
    have := (redo_top (e := (p, ps)))
    dsimp only at this
    omega
theorem ok__law_ps_redo_due (p : Prog K mg) : FnG P w K mg base CX0 3 p.f__law_ps_redo_due p.fd__law_ps_redo_due ["_law_alone"] (spS w__law_ps_redo_due) :=
  okSh p.d__law_ps_redo_due.F sc__law_ps_redo_due (by decide) ar__law_ps_redo_due (fun cdv A outer s H E hg hr => ⟨_, (pss_cons (ps_asg (pv 0) (pg_tup rfl (pgs_cons (pg_name (i := 1) sc__law_ps_redo_due.nd rfl (Or.inl rfl)) (pgs_cons (pg_name (i := 2) sc__law_ps_redo_due.nd rfl (Or.inl rfl)) pgs_nil))))
      (pss_cons (ps_if (pt_cmpR op_lt (pe_lenSetN (by rfl) p.blt.len (by rfl) p.blt.set (pv 2)) (pe_callB call_len_seq (by rfl) p.blt.len PySem.boot_len (pa_cons (pv 2) pa_nil)) (nomark _))
      (pss_one (ps_ret pe_non)) pss_nil)
      (pss_cons (ps_for PassesOwn.never rfl (pi_range1 (by rfl) p.blt.range (pa_cons (pe_op op_add (pe_callB call_len_seq (by rfl) p.blt.len PySem.boot_len (pa_cons (pv 2) pa_nil)) pe_int) pa_nil)) (pg_name (i := 3) sc__law_ps_redo_due.nd rfl (Or.inr rfl))
      (pss_cons (ps_set (i := 4) sc__law_ps_redo_due.nd rfl (Or.inl rfl) (pe_op op_sub (pe_op op_add (pv 3) (pv 1)) (pe_callB call_len_seq (by rfl) p.blt.len PySem.boot_len (pa_cons (pv 2) pa_nil))))
      (pss_cons (ps_set (i := 5) sc__law_ps_redo_due.nd rfl (Or.inl rfl) (pe_callG ((ok__law_ps_lists p).mono (by decide)) hg hr (by rfl) p.d__law_ps_lists.gl p.d__law_ps_lists.kp p.d__law_ps_lists.bd pass0 (pa_cons (pv 3) (pa_cons (pv 4) pa_nil))))
      (pss_cons (ps_if (pt_cmpR op_isN (pv 5) pe_non (nomark _))
      (pss_one ps_break) pss_nil)
      (pss_cons (ps_setLc (i := 6) (own := [("_law_row", 9)]) (g := gName 9) rfl sc__law_ps_redo_due.nd rfl rfl (sw_true rfl rfl rfl (by decide +kernel)) (pi_list (pv 5)) (blkOk_by (N := N__law_ps_redo_due) (sc := defScope s__law_ps_redo_due) (by decide +kernel)) (fun _ _ _ _ _ => pg_name (i := 9) sc__law_ps_redo_due.nd rfl (Or.inl rfl)) (fun _ _ _ _ _ => (pts_one (pt_cmpR (op_eqD hr.units) (pe_callG ((ok__law_ps_both p).mono (by decide)) hg hr (by rfl) p.d__law_ps_both.gl p.d__law_ps_both.kp p.d__law_ps_both.bd pass0 (pa_cons (pe_tup (pa_cons (pv 3) (pa_cons (pv 9) pa_nil))) (pa_cons (pv 0) pa_nil))) (pe_tup (pa_cons pe_int (pa_cons (pe_lst pa_nil) pa_nil))) (nomark _)))) (fun _ _ _ _ _ => (pv 9)))
      (pss_one (ps_if (pt_cmpR (op_neD hr.units) (pv 6) (pe_lst pa_nil) (nomark _))
      (pss_one (ps_ret (pe_tup (pa_cons (pv 3) (pa_cons (pe_ix ix_list (pe_callB (cr_sortD hr.units) (by rfl) p.blt.sorted (by decide +kernel) (pa_cons (pv 6) pa_nil)) pe_int (fun _ _ => rfl)) pa_nil))))) pss_nil)))))))
      (pss_cons (ps_if (pt_cmpR (op_eqD hr.units) (pv 2) (pe_lst pa_nil) (nomark _))
      (pss_one (ps_ret (pe_tup (pa_cons pe_int (pa_cons (pe_op op_rep (pe_lst (pa_cons pe_int pa_nil)) (pe_op op_add (pv 1) pe_int)) pa_nil))))) pss_nil)
      (pss_cons (ps_set (i := 7) sc__law_ps_redo_due.nd rfl (Or.inl rfl) (pe_lst pa_nil))
      (pss_cons (ps_for PassesOwn.never rfl (pi_range2 (by rfl) p.blt.range (pa_cons pe_int (pa_cons (pe_op op_add (pv 1) pe_int) pa_nil))) (pg_name (i := 8) sc__law_ps_redo_due.nd rfl (Or.inl rfl))
      (pss_one (ps_expr (pe_bm PySem.F.plainAttrs_list PySem.F.slot_list_append PySem.F.type_list_append mt_append (pv 7) (pa_cons (pe_ifExp (pt_cmpR op_in_seq (pv 8) (pv 2) rfl) (pe_op op_add (pe_bm PySem.F.plainAttrs_list PySem.F.slot_list_index PySem.F.type_list_index mt_index (pv 2) (pa_cons (pv 8) pa_nil)) pe_int) pe_int) pa_nil)))))
      (pss_one (ps_ret (pe_tup (pa_cons (pe_callB call_len_seq (by rfl) p.blt.len PySem.boot_len (pa_cons (pv 2) pa_nil)) (pa_cons (pv 7) pa_nil))))))))))),
    fun C xc => (so_seq (so_asg (so_frz (i := 0)) (so_gtup (so_gcons (so_gname (i := 1)) (so_gcons (so_gname (i := 2)) so_gnil))))
      (so_seq (so_ifS (so_test (so_op sr_B (so_lenSet (so_var (i := 2))) (so_f sc_len (so_cons (so_var (i := 2)) so_nil))))
      (so_ret (so_c sca_non)) so_next)
      (so_seq (so_for (so_rng1 (so_op sr_I0 (so_f sc_len (so_cons (so_var (i := 2)) so_nil)) (so_c (sca_int _)))) (so_gname (i := 3))
      (so_seq (so_asg (so_op sr_I0 (so_op sr_I0 (so_var (i := 3)) (so_var (i := 1))) (so_f sc_len (so_cons (so_var (i := 2)) so_nil))) (so_gname (i := 4)))
      (so_seq (so_asg (so_callS (so_cons (so_var (i := 3)) (so_cons (so_var (i := 4)) so_nil))) (so_gname (i := 5)))
      (so_seq (so_ifS (so_test (so_op sr_isN (so_var (i := 5)) (so_c sca_non)))
      so_break so_next)
      (so_seq (so_asg (so_lc (so_itL (so_frz (i := 5))) (so_test (so_op sr_eqD (so_callT (so_cons (so_tup (so_cons (so_var (i := 3)) (so_cons (so_frz (i := 9)) so_nil))) (so_cons (so_var (i := 0)) so_nil))) (so_lit_tup (so_lits_cons (so_lit_c (sca_int _) rfl) (so_lits_cons (so_lit_lst so_lits_nil) so_lits_nil))))) (so_frz (i := 9))) (so_gname (i := 6)))
      (so_ifS (so_test (so_op sr_neD (so_var (i := 6)) (so_lit_lst so_lits_nil)))
      (so_ret (so_tup (so_cons (so_var (i := 3)) (so_cons (so_ixL (so_sortD (so_cons (so_frz (i := 6)) so_nil)) (so_c (sca_int _))) so_nil)))) so_next))))))
      (so_seq (so_ifS (so_test (so_op sr_eqD (so_var (i := 2)) (so_lit_lst so_lits_nil)))
      (so_ret (so_tup (so_cons (so_c (sca_int _)) (so_cons (so_repN (so_lit_lst (so_lits_cons (so_lit_c (sca_int _) rfl) so_lits_nil)) (so_op sr_I0 (so_var (i := 1)) (so_c (sca_int _)))) so_nil)))) so_next)
      (so_seq (so_asg (so_lit_lst so_lits_nil) (so_gname (i := 7)))
      (so_seq (so_for (so_rng2 (so_c (sca_int _)) (so_op sr_I0 (so_var (i := 1)) (so_c (sca_int _)))) (so_gname (i := 8))
      (so_drop (so_app (so_var (i := 7)) (so_if (so_test (so_op sr_in (so_var (i := 8)) (so_var (i := 2)))) (so_op sr_I0 (so_m sm_index (so_var (i := 2)) (so_cons (so_var (i := 8)) so_nil)) (so_c (sca_int _))) (so_c (sca_int _))))))
      (so_ret (so_tup (so_cons (so_f sc_len (so_cons (so_var (i := 2)) so_nil)) (so_cons (so_frz (i := 7)) so_nil))))))))))⟩) val__law_ps_redo_due
theorem kb_redo_o (p : Prog K mg) : KBinds K p.fd_redo ["one"] ["one"] (gKw [0]) (gKwV [0]) := by
  obtain ⟨oc, od, kV, doc, pm, an, cdv, ct, osl, e, lk, hcd⟩ := p.d_redo.F.ex
  rw [e]
  refine kb_of (by decide) fun ws hl => ?_
  match ws, hl with
  | [], h => simp at h
  | x0 :: r, _ => rfl
/-! ### _law_ps_right -/
-- auto P 16000
def w__law_ps_right : Tw := fun ds Q => ds = [] ∧ Q (.bool true)
theorem ar__law_ps_right : ∀ ds G, w__law_ps_right ds G → ds.length + 1 = 1 := by
  rintro ds G ⟨rfl, _⟩
  rfl
def kr__law_ps_right_1 : KS := (kRet (kCallT w__law_ps_same 2 (kCons (kCallT w_joined 2 (kCons (kCallT w_redo 1 (kCons (kVar 4) kNil)) (kCons (kVar 3) kNil))) (kCons (kLit (.tuple [(.int 0), (.list [])])) kNil))))
def kr__law_ps_right_2 : KS := (kSeq (kIfS (kTest (kOp (vEqD true) (kCallT w_done 2 (kCons (kVar 3) (kCons (kCallT w_done 2 (kCons (kVar 9) (kCons (kListOf (kCons (kVar 10) kNil)) kNil))) kNil))) (kVar 10)))
  (kRet (kC (.bool false)))
  kNext)
  kr__law_ps_right_1)
def kr__law_ps_right_3 : KS := (kSeq (kAsg (kCallP 2000 w__law_ps_heap 1 (kCons (kVar 0) (kCons (kOp (vI noC fun i j => i + j) (kIx false (kVar 9) (kC (.int 0))) (kCallP 1 w__law_coin 1 (kCons (kVar 0) (kCons (kC (.int 3)) kNil)))) kNil))) (kgName 10))
  kr__law_ps_right_2)
def kr__law_ps_right_4 : KS := (kSeq (kIfS (kTOr (kTest (kOp (vB fun i j => decide (j < i)) (kIx false (kVar 9) (kC (.int 0))) (kC (.int 60)))) (kTest (kOp (vB fun i j => decide (j < i)) (kF 1 vLen (kCons (kIx false (kVar 9) (kC (.int 1))) kNil)) (kC (.int 60)))))
  (kRet (kC (.bool true)))
  kNext)
  kr__law_ps_right_3)
def kr__law_ps_right_5 : KS := (kSeq (kAsg (kCallT w_redo 1 (kCons (kVar 3) kNil)) (kgName 9))
  kr__law_ps_right_4)
def kr__law_ps_right_6 : KS := (kSeq (kIfS (kTest (kOp (vIsN false) (kVar 7) (kC .none)))
  (kRet (kC (.bool true)))
  kNext)
  kr__law_ps_right_5)
def kr__law_ps_right_7 : KS := (kSeq (kIfS (kTOr (kTNot (kTest (kCallT w__law_ps_same 2 (kCons (kCallT w_redo 1 (kCons (kVar 3) kNil)) (kCons (kVar 7) kNil))))) (kTNot (kTest (kCallT w__law_ps_same 2 (kCons (kVar 3) (kCons (kVar 5) kNil))))))
  (kRet (kC (.bool false)))
  kNext)
  kr__law_ps_right_6)
def kr__law_ps_right_8 : KS := (kSeq (kIfS (kTOr (kTNot (kTest (kCallT w__law_ps_same 2 (kCons (kVar 8) (kCons (kMk true 3 (kCons (kFrz 7) (kCons (kFrz 7) (kCons (kFrz 7) kNil)))) kNil))))) (kTNot (kTest (kCallE (kCons (kMov 8) kNil)))))
  (kRet (kC (.bool false)))
  kNext)
  kr__law_ps_right_7)
def kr__law_ps_right_9 : KS := (kSeq (kAsg (kMk true 3 (kCons (kCallT w_redo 1 (kCons (kVar 3) kNil)) (kCons (kCallTK w_redo [0] 1 (kCons (kVar 4) kNil)) (kCons (kCallT w_redo 1 (kCons (kVar 3) kNil)) kNil)))) (kgName 8))
  kr__law_ps_right_8)
def kr__law_ps_right_10 : KS := (kSeq (kAsg (kCallS w__law_ps_redo_due 1 (kCons (kFrz 6) kNil)) (kgName 7))
  kr__law_ps_right_9)
def kr__law_ps_right_11 : KS := (kSeq (kAsg (kCallT w__law_ps_least 2 (kCons (kIx false (kVar 3) (kC (.int 0))) (kCons (kIx false (kVar 3) (kC (.int 1))) kNil))) (kgName 6))
  kr__law_ps_right_10)
def kr__law_ps_right_12 : KS := (kSeq (kPar 4 5 (kCons (kCallP 1 w__law_ps_wider 3 (kCons (kVar 0) (kCons (kVar 3) (kCons (kVar 1) (kCons (kVar 2) kNil))))) (kCons (kCallT (w__law_copied 8) 1 (kCons (kVar 3) kNil)) kNil)))
  kr__law_ps_right_11)
def kr__law_ps_right_13 : KS := (kSeq (kIfS (kTest (kOp (vEq false) (kCallP 1 w__law_coin 1 (kCons (kVar 0) (kCons (kC (.int 2)) kNil))) (kC (.int 0))))
  (kAsg (kCallP 1100 w__law_ps_once 2 (kCons (kVar 0) (kCons (kVar 1) (kCons (kVar 2) kNil)))) (kgName 3))
  kNext)
  kr__law_ps_right_12)
def kr__law_ps_right_14 : KS := (kSeq (kAsg (kCallP 10000 w__law_ps_drawn 2 (kCons (kVar 0) (kCons (kVar 1) (kCons (kVar 2) kNil)))) (kgName 3))
  kr__law_ps_right_13)
def k__law_ps_right : KS := (kSeq (kAsg (kCallP 1 w__law_ps_bounds 0 (kCons (kVar 0) kNil)) (kgTup 2 (kgCons (kgName 1) (kgCons (kgName 2) kgNil))))
  kr__law_ps_right_14)
local macro_rules | `(tactic| walk_at "go") => `(tactic| ((first | unfold kr__law_ps_right_1 | unfold kr__law_ps_right_2 | unfold kr__law_ps_right_3 | unfold kr__law_ps_right_4 | unfold kr__law_ps_right_5 | unfold kr__law_ps_right_6 | unfold kr__law_ps_right_7 | unfold kr__law_ps_right_8 | unfold kr__law_ps_right_9 | unfold kr__law_ps_right_10 | unfold kr__law_ps_right_11 | unfold kr__law_ps_right_12 | unfold kr__law_ps_right_13 | unfold kr__law_ps_right_14); walk_at "ev"))
theorem val__law_ps_right : ∀ ds G, w__law_ps_right ds G → k__law_ps_right ⟨.pu :: (ds.map Sl.fz ++ [.jk, .jk, .jk, .jk, .jk, .jk, .jk, .jk, .jk, .jk]), [], 16000⟩ (edP G) := by
  rintro ds Gq ⟨rfl, q⟩
  unfold k__law_ps_right
  walk_at "ev"
  refine ⟨by decide, rfl, fun dd mm hDM => ?_⟩
  have D0 : 0 ≤ dd ∧ dd ≤ 60 ∧ 0 ≤ mm ∧ mm ≤ 60 := by omega
  walk_at "ev"
  walk_at "go"
  refine ⟨by decide, dd, mm, rfl, by omega, by omega, by omega, by omega, fun n gs ef hn hl => ?_⟩
  walk_at "ev"
  have rest : ∀ (n : Int) (gs : List Int) (j : Int), 3000 ≤ j → Eff (n, gs) → n ≤ dd → (gs.length : Int) ≤ mm → kr__law_ps_right_12 ⟨[.pu, .fz (.int dd), .fz (.int mm), .ow true (dE (n, gs)), .jk, .jk, .jk, .jk, .jk, .jk, .jk], [], j⟩ (edP Gq) := fun n gs j hj ef hn hl => by
    have n0 : 0 ≤ n := ef.nn
    have lk := leastE_ok ef
    have e60 : n ≤ 60 ∧ gs.length ≤ 60 := by omega
    have sfx : Sh 3 1700000 (dE (n, gs)) := sh_effE ef (by dsimp only; omega) (by dsimp only; omega)
    walk_at "go"
    refine ⟨⟨by decide, by omega⟩, n, gs, dd, mm, rfl, n0, by omega, by omega, fun m m0 m9 hm => ?_⟩
    have wl : leastE (n + m) (gs ++ rg (n + 1) (n + m + 1)) = leastE n gs := leastE_wideI ef.le m0
    have we := wide_eff ef m0
    have wn : n + m ≤ 69 := by omega
    have wlen : (gs ++ rg (n + 1) (n + m + 1)).length ≤ 69 := by rw [List.length_append, rg_length]; omega
    obtain ⟨wg, hwg⟩ : ∃ wg, gs ++ rg (n + 1) (n + m + 1) = wg := ⟨_, rfl⟩
    rw [hwg] at wl we wlen ⊢
    refine ⟨_, rfl, Nat.lt_of_le_of_lt sfx.dp (by decide), Nat.le_trans sfx.wd (by decide), ?_⟩
    walk_at "ev"
    walk_at "go"
    refine ⟨n, gs, rfl, ef.le, by omega, ?_⟩
    have lkn := lk.le
    have lkl := lk.len
    have lke := lk.eff
    have lkk := lk.lst
    obtain ⟨e, he⟩ : ∃ e, leastE n gs = e := ⟨_, rfl⟩
    rw [he] at lkn lkl lke lkk wl ⊢
    walk_at "ev"
    walk_at "go"
    refine ⟨e, rfl, lke, lkk, by omega, by omega, ?_⟩
    have rd : ∀ Q : D → Prop, Q (redoD e) → w_redo [dE (n, gs)] Q := fun Q h => ⟨n, gs, rfl, ef, by omega, by omega, by rw [he]; exact h⟩
    have rw2 : ∀ Q : D → Prop, Q (redoD e) → w_redo [dE (n + m, wg)] Q := fun Q h => ⟨n + m, wg, rfl, we, by omega, by omega, by rw [wl]; exact h⟩
    have e0 := lke.nn
    -- what redo tells
    have shr : Sh 3 43000 (redoD e) ∧ nl (redoD e) ≤ 1 := by
      unfold redoD
      split
      · rename_i nd
        obtain ⟨r1, r2, r3, r4⟩ := redo_ok lke nd
        refine ⟨(sh_tuple (k := 2) (B := 21117) (n := 2) (ds := [.int (redoE e).1, dI (redoE e).2]) (fun d hd => ?_) (by simp)).mono (by omega) (by omega), by simp [nl, nls, nls_ints]⟩
        have q0 := r1.nn
        simp only [List.mem_cons, List.not_mem_nil, or_false] at hd
        rcases hd with rfl | rfl
        · exact (sh_int (by omega)).mono (by omega) (by omega)
        · exact (sh_ints (n := 102) (fun x hx => by
            have := r1.ge x hx
            have := r1.le x hx
            omega) (by omega)).mono (by omega) (by omega)
      · exact ⟨sh_none.mono (by decide) (by decide), by simp [nl]⟩
    have sh3 : Sh 7 1000000 (.list [redoD e, redoD e, redoD e]) := by
      refine (sh_list (k := 3) (B := 43000) (n := 3) (fun d hd => ?_) (by simp)).mono (by omega) (by omega)
      simp only [List.mem_cons, List.not_mem_nil, or_false, or_self] at hd
      rw [hd]
      exact shr.1
    walk_at "go"
    refine rd _ ?_
    walk_at "ev"
    refine rw2 _ ?_
    walk_at "ev"
    refine rd _ ?_
    walk_at "ev"
    walk_at "go"
    refine ⟨_, _, rfl, rfl, sh3.mono (by omega) (by omega), ?_⟩
    walk_at "ev"
    refine ⟨sh3, by simp only [nl, nls]; have := shr.2; omega, ?_⟩
    walk_at "go"
    refine rd _ ?_
    refine ⟨_, _, rfl, rfl, shr.1.mono (by omega) (by omega), ?_⟩
    walk_at "ev"
    refine ⟨_, _, rfl, rfl, sfx.mono (by omega) (by omega), ?_⟩
    walk_at "ev"
    walk_at "go"
    by_cases nd : e.2.Nodup
    · have eD : redoD e = dE (redoE e) := by unfold redoD; rw [if_pos nd]
      obtain ⟨r1, r2, r3, r4⟩ := redo_ok lke nd
      rw [eD] at rd rw2 ⊢
      rw [if_neg Bool.false_ne_true]
      have jn : joinE (redoE e) e = (0, []) := (join_id r1 lke).mpr r2
      have q0 := r1.nn
      have rl : leastE (redoE e).1 (redoE e).2 = redoE e ∨ True := .inr trivial
      have rsz : e.1 - e.2.length = (redoE e).2.length - ((redoE e).1 : Int) := by
        unfold redoE
        split
        · rename_i z
          rw [z]
          split
          · rename_i z0
            simp
            omega
          · simp
            omega
        · simp only [List.length_map, rg_length]
          omega
      have ge : e.1 ≤ (redoE e).2.length := by
        unfold redoE
        split
        · split
          · rename_i z0
            simp
            omega
          · simp
            omega
        · simp only [List.length_map, rg_length]
          omega
      walk_at "go"
      refine rd _ ?_
      walk_at "ev"
      walk_at "go"
      refine iteB (fun _ => ⟨by omega, q⟩) (fun c1 => ?_)
      refine iteB (fun _ => ⟨by omega, q⟩) (fun c2 => ?_)
      have c1 := of_decide_eq_false c1
      have c2 := of_decide_eq_false c2
      walk_at "go"
      refine ⟨⟨by decide, by omega⟩, 3, rfl, by decide, by decide, fun v v0 v1 => ?_⟩
      walk_at "ev"
      refine ⟨⟨by decide, by omega⟩, (redoE e).1 + v, rfl, by omega, by omega, fun ss hss htx => ?_⟩
      walk_at "go"
      rw [nolists_strs]
      walk_at "ev"
      have kR := leastE_ok (n := (redoE e).1) (gs := (redoE e).2) r1
      have kn := kR.le
      have kl := kR.len
      have ke := kR.eff
      have ki : IdP (leastE (redoE e).1 (redoE e).2) e := (idp_least lke).mpr r2
      obtain ⟨R, hR⟩ : ∃ R, leastE (redoE e).1 (redoE e).2 = R := ⟨_, rfl⟩
      refine ⟨(redoE e).1, (redoE e).2, ss, rfl, r1, by rw [hR]; rw [hR] at kn; omega, by omega, by omega, ?_⟩
      rw [hR] at kn kl ke ki ⊢
      have jR : joinE R e = (0, []) := (join_id ke lke).mpr ki
      have rsR : (R.2.length : Int) - R.1 = (redoE e).2.length - ((redoE e).1 : Int) := by
        have h2 := from_hi (e := e) (r := (R.2.length : Int) + e.2.length + e.1 + (redoE e).1 + (redoE e).2.length + 1) (by omega)
        have h1 := ki ((R.2.length : Int) + e.2.length + e.1 + (redoE e).1 + (redoE e).2.length + 1) (by omega)
        rw [h2, from_hi (by omega)] at h1
        omega
      have len1 := doS_len2 ke (ss := ss) (by omega)
      have dj := doS_join ke lke (ss := ss) (by omega) (by omega)
      rw [jR] at dj
      refine ⟨n, gs, doS R ss, rfl, ef, by rw [he]; omega, by omega, by omega, ?_⟩
      have d0 : doS (0, []) ss = ss := by
        unfold doS
        simp
      rw [he, ← dj.2, d0]
      have xs := shaped_strs (ss := ss) fun s hs => (htx s hs).2
      refine ⟨xs, xs, ?_⟩
      have ee := eqv_strs ss ss
      rw [decide_eq_true rfl] at ee
      rw [show PyData.eqv (dS ss) (.list (ss.map PyData.str)) = true from ee, if_neg (by decide)]
      walk_at "go"
      refine rw2 _ ?_
      refine ⟨(redoE e).1, (redoE e).2, n, gs, rfl, r1, ef, by omega, by omega, by omega, by omega, ?_⟩
      rw [hR, he, jR]
      refine ⟨_, _, rfl, rfl, (sh_effE eff0 (by decide) (by decide)).mono (by omega) (by omega), ?_⟩
      walk_at "ev"
      exact ⟨by omega, q⟩
    · have eD : redoD e = .none := by unfold redoD; rw [if_neg nd]
      rw [eD, if_pos rfl]
      exact ⟨by omega, q⟩
  walk_at "go"
  refine ⟨by decide, 2, rfl, by decide, by decide, fun c c0 c1 => ?_⟩
  walk_at "ev"
  refine iteB (fun _ => ?_) (fun _ => rest n gs _ (by decide) ef hn hl)
  exact ⟨by decide, dd, mm, rfl, by omega, by omega, by omega, by omega, fun n gs ef hn hl => rest n gs _ (by decide) ef hn hl⟩
theorem ok__law_ps_right (p : Prog K mg) : FnG P w K mg base CX0 10 p.f__law_ps_right p.fd__law_ps_right ["_law_sack"] (spP 16000 w__law_ps_right) :=
  okP p.d__law_ps_right.F sc__law_ps_right (by decide) ar__law_ps_right (by decide) (fun cdv A outer s H E hg hr => ⟨_, (pss_cons (ps_asg (pe_callG ((ok__law_ps_bounds p).mono (by decide)) hg hr (by rfl) p.d__law_ps_bounds.gl p.d__law_ps_bounds.kp p.d__law_ps_bounds.bd pass0 (pa_cons (pv 0) pa_nil)) (pg_tup rfl (pgs_cons (pg_name (i := 1) sc__law_ps_right.nd rfl (Or.inl rfl)) (pgs_cons (pg_name (i := 2) sc__law_ps_right.nd rfl (Or.inl rfl)) pgs_nil))))
      (pss_cons (ps_set (i := 3) sc__law_ps_right.nd rfl (Or.inl rfl) (pe_callG ((ok__law_ps_drawn p).mono (by decide)) hg hr (by rfl) p.d__law_ps_drawn.gl p.d__law_ps_drawn.kp p.d__law_ps_drawn.bd pass0 (pa_cons (pv 0) (pa_cons (pv 1) (pa_cons (pv 2) pa_nil)))))
      (pss_cons (ps_if (pt_cmpR op_eq (pe_callG ((ok__law_coin p).mono (by decide)) hg hr (by rfl) p.d__law_coin.gl p.d__law_coin.kp p.d__law_coin.bd pass0 (pa_cons (pv 0) (pa_cons pe_int pa_nil))) pe_int (nomark _))
      (pss_one (ps_set (i := 3) sc__law_ps_right.nd rfl (Or.inl rfl) (pe_callG ((ok__law_ps_once p).mono (by decide)) hg hr (by rfl) p.d__law_ps_once.gl p.d__law_ps_once.kp p.d__law_ps_once.bd pass0 (pa_cons (pv 0) (pa_cons (pv 1) (pa_cons (pv 2) pa_nil)))))) pss_nil)
      (pss_cons (ps_par (i := 4) (j := 5) rfl sc__law_ps_right.nd rfl rfl (by decide) rfl rfl (pa_cons (pe_callG ((ok__law_ps_wider p).mono (by decide)) hg hr (by rfl) p.d__law_ps_wider.gl p.d__law_ps_wider.kp p.d__law_ps_wider.bd pass0 (pa_cons (pv 0) (pa_cons (pv 3) (pa_cons (pv 1) (pa_cons (pv 2) pa_nil))))) (pa_cons (pe_callG ((ok__law_copied p 8).mono (by decide)) hg hr (by rfl) p.d__law_copied.gl p.d__law_copied.kp p.d__law_copied.bd pass0 (pa_cons (pv 3) pa_nil)) pa_nil)) (by rfl))
      (pss_cons (ps_set (i := 6) sc__law_ps_right.nd rfl (Or.inl rfl) (pe_callG ((ok__law_ps_least p).mono (by decide)) hg hr (by rfl) p.d__law_ps_least.gl p.d__law_ps_least.kp p.d__law_ps_least.bd pass0 (pa_cons (pe_ix ix_tup (pv 3) pe_int (fun _ _ => rfl)) (pa_cons (pe_ix ix_tup (pv 3) pe_int (fun _ _ => rfl)) pa_nil))))
      (pss_cons (ps_set (i := 7) sc__law_ps_right.nd rfl (Or.inl rfl) (pe_callG ((ok__law_ps_redo_due p).mono (by decide)) hg hr (by rfl) p.d__law_ps_redo_due.gl p.d__law_ps_redo_due.kp p.d__law_ps_redo_due.bd pass0 (pa_cons (pv 6) pa_nil)))
      (pss_cons (ps_set (i := 8) sc__law_ps_right.nd rfl (Or.inl rfl) (pe_lst (pa_cons (pe_callG ((ok_redo p).mono (by decide)) hg hr (by rfl) p.d_redo.gl p.d_redo.kp p.d_redo.bd pass0 (pa_cons (pv 3) pa_nil)) (pa_cons (pe_callK0G ((ok_redo p).mono (by decide)) hg hr (by rfl) p.d_redo.gl p.d_redo.kp (kb_redo_o p) pass0 (pk_cons (pv 4) pk_nil)) (pa_cons (pe_callG ((ok_redo p).mono (by decide)) hg hr (by rfl) p.d_redo.gl p.d_redo.kp p.d_redo.bd pass0 (pa_cons (pv 3) pa_nil)) pa_nil)))))
      (pss_cons (ps_if (PW.pt (pw_or (pt_not (pt_val (pe_callG ((ok__law_ps_same p).mono (by decide)) hg hr (by rfl) p.d__law_ps_same.gl p.d__law_ps_same.kp p.d__law_ps_same.bd pass0 (pa_cons (pv 8) (pa_cons (pe_lst (pa_cons (pv 7) (pa_cons (pv 7) (pa_cons (pv 7) pa_nil)))) pa_nil))))) (pw_or1 (pt_not (pt_val (pe_callG ((ok__law_ps_alone p).mono (by decide)) hg hr (by rfl) p.d__law_ps_alone.gl p.d__law_ps_alone.kp p.d__law_ps_alone.bd pass0 (pa_cons (pv 8) pa_nil)))))))
      (pss_one (ps_ret pe_bl)) pss_nil)
      (pss_cons (ps_if (PW.pt (pw_or (pt_not (pt_val (pe_callG ((ok__law_ps_same p).mono (by decide)) hg hr (by rfl) p.d__law_ps_same.gl p.d__law_ps_same.kp p.d__law_ps_same.bd pass0 (pa_cons (pe_callG ((ok_redo p).mono (by decide)) hg hr (by rfl) p.d_redo.gl p.d_redo.kp p.d_redo.bd pass0 (pa_cons (pv 3) pa_nil)) (pa_cons (pv 7) pa_nil))))) (pw_or1 (pt_not (pt_val (pe_callG ((ok__law_ps_same p).mono (by decide)) hg hr (by rfl) p.d__law_ps_same.gl p.d__law_ps_same.kp p.d__law_ps_same.bd pass0 (pa_cons (pv 3) (pa_cons (pv 5) pa_nil))))))))
      (pss_one (ps_ret pe_bl)) pss_nil)
      (pss_cons (ps_if (pt_cmpR op_isN (pv 7) pe_non (nomark _))
      (pss_one (ps_ret pe_bl)) pss_nil)
      (pss_cons (ps_set (i := 9) sc__law_ps_right.nd rfl (Or.inl rfl) (pe_callG ((ok_redo p).mono (by decide)) hg hr (by rfl) p.d_redo.gl p.d_redo.kp p.d_redo.bd pass0 (pa_cons (pv 3) pa_nil)))
      (pss_cons (ps_if (PW.pt (pw_or (pt_cmpR op_gt (pe_ix ix_tup (pv 9) pe_int (fun _ _ => rfl)) pe_int (nomark _)) (pw_or1 (pt_cmpR op_gt (pe_callB call_len_seq (by rfl) p.blt.len PySem.boot_len (pa_cons (pe_ix ix_tup (pv 9) pe_int (fun _ _ => rfl)) pa_nil)) pe_int (nomark _)))))
      (pss_one (ps_ret pe_bl)) pss_nil)
      (pss_cons (ps_set (i := 10) sc__law_ps_right.nd rfl (Or.inl rfl) (pe_callG ((ok__law_ps_heap p).mono (by decide)) hg hr (by rfl) p.d__law_ps_heap.gl p.d__law_ps_heap.kp p.d__law_ps_heap.bd pass0 (pa_cons (pv 0) (pa_cons (pe_op op_add (pe_ix ix_tup (pv 9) pe_int (fun _ _ => rfl)) (pe_callG ((ok__law_coin p).mono (by decide)) hg hr (by rfl) p.d__law_coin.gl p.d__law_coin.kp p.d__law_coin.bd pass0 (pa_cons (pv 0) (pa_cons pe_int pa_nil)))) pa_nil))))
      (pss_cons (ps_if (pt_cmpR (op_neD hr.units) (pe_callG ((ok_done p).mono (by decide)) hg hr (by rfl) p.d_done.gl p.d_done.kp p.d_done.bd pass0 (pa_cons (pv 3) (pa_cons (pe_callG ((ok_done p).mono (by decide)) hg hr (by rfl) p.d_done.gl p.d_done.kp p.d_done.bd pass0 (pa_cons (pv 9) (pa_cons (pe_callTy call_list_of (by rfl) p.blt.list (by decide +kernel) (pa_cons (pv 10) pa_nil)) pa_nil))) pa_nil))) (pv 10) (nomark _))
      (pss_one (ps_ret pe_bl)) pss_nil)
      (pss_one (ps_ret (pe_callG ((ok__law_ps_same p).mono (by decide)) hg hr (by rfl) p.d__law_ps_same.gl p.d__law_ps_same.kp p.d__law_ps_same.bd pass0 (pa_cons (pe_callG ((ok_joined p).mono (by decide)) hg hr (by rfl) p.d_joined.gl p.d_joined.kp p.d_joined.bd pass0 (pa_cons (pe_callG ((ok_redo p).mono (by decide)) hg hr (by rfl) p.d_redo.gl p.d_redo.kp p.d_redo.bd pass0 (pa_cons (pv 4) pa_nil)) (pa_cons (pv 3) pa_nil))) (pa_cons (pe_tup (pa_cons pe_int (pa_cons (pe_lst pa_nil) pa_nil))) pa_nil))))))))))))))))))),
    fun C xc => (so_seq (so_asg (so_callP (so_cons (so_var (i := 0)) so_nil)) (so_gtup (so_gcons (so_gname (i := 1)) (so_gcons (so_gname (i := 2)) so_gnil))))
      (so_seq (so_asg (so_callP (so_cons (so_var (i := 0)) (so_cons (so_var (i := 1)) (so_cons (so_var (i := 2)) so_nil)))) (so_gname (i := 3)))
      (so_seq (so_ifS (so_test (so_op sr_eq (so_callP (so_cons (so_var (i := 0)) (so_cons (so_c (sca_int _)) so_nil))) (so_c (sca_int _))))
      (so_asg (so_callP (so_cons (so_var (i := 0)) (so_cons (so_var (i := 1)) (so_cons (so_var (i := 2)) so_nil)))) (so_gname (i := 3))) so_next)
      (so_seq (so_par (i := 4) (j := 5) (by decide) (so_cons (so_callP (so_cons (so_var (i := 0)) (so_cons (so_var (i := 3)) (so_cons (so_var (i := 1)) (so_cons (so_var (i := 2)) so_nil))))) (so_cons (so_callT (so_cons (so_var (i := 3)) so_nil)) so_nil)))
      (so_seq (so_asg (so_callT (so_cons (so_ixT (so_var (i := 3)) (so_c (sca_int _))) (so_cons (so_ixT (so_var (i := 3)) (so_c (sca_int _))) so_nil))) (so_gname (i := 6)))
      (so_seq (so_asg (so_callS (so_cons (so_frz (i := 6)) so_nil)) (so_gname (i := 7)))
      (so_seq (so_asg (so_lst (so_cons (so_callT (so_cons (so_var (i := 3)) so_nil)) (so_cons (so_callTK (ix := [0]) (so_cons (so_var (i := 4)) so_nil)) (so_cons (so_callT (so_cons (so_var (i := 3)) so_nil)) so_nil)))) (so_gname (i := 8)))
      (so_seq (so_ifS (so_tor (so_tnot (so_test (so_callT (so_cons (so_var (i := 8)) (so_cons (so_lst (so_cons (so_frz (i := 7)) (so_cons (so_frz (i := 7)) (so_cons (so_frz (i := 7)) so_nil)))) so_nil))))) (so_tnot (so_test (so_callE (so_cons (so_mov (i := 8)) so_nil)))))
      (so_ret (so_c (sca_bl _))) so_next)
      (so_seq (so_ifS (so_tor (so_tnot (so_test (so_callT (so_cons (so_callT (so_cons (so_var (i := 3)) so_nil)) (so_cons (so_var (i := 7)) so_nil))))) (so_tnot (so_test (so_callT (so_cons (so_var (i := 3)) (so_cons (so_var (i := 5)) so_nil))))))
      (so_ret (so_c (sca_bl _))) so_next)
      (so_seq (so_ifS (so_test (so_op sr_isN (so_var (i := 7)) (so_c sca_non)))
      (so_ret (so_c (sca_bl _))) so_next)
      (so_seq (so_asg (so_callT (so_cons (so_var (i := 3)) so_nil)) (so_gname (i := 9)))
      (so_seq (so_ifS (so_tor (so_test (so_op sr_B (so_ixT (so_var (i := 9)) (so_c (sca_int _))) (so_c (sca_int _)))) (so_test (so_op sr_B (so_f sc_len (so_cons (so_ixT (so_var (i := 9)) (so_c (sca_int _))) so_nil)) (so_c (sca_int _)))))
      (so_ret (so_c (sca_bl _))) so_next)
      (so_seq (so_asg (so_callP (so_cons (so_var (i := 0)) (so_cons (so_op sr_I0 (so_ixT (so_var (i := 9)) (so_c (sca_int _))) (so_callP (so_cons (so_var (i := 0)) (so_cons (so_c (sca_int _)) so_nil)))) so_nil))) (so_gname (i := 10)))
      (so_seq (so_ifS (so_test (so_op sr_neD (so_callT (so_cons (so_var (i := 3)) (so_cons (so_callT (so_cons (so_var (i := 9)) (so_cons (so_listOf (so_cons (so_var (i := 10)) so_nil)) so_nil))) so_nil))) (so_var (i := 10))))
      (so_ret (so_c (sca_bl _))) so_next)
      (so_ret (so_callT (so_cons (so_callT (so_cons (so_callT (so_cons (so_var (i := 4)) so_nil)) (so_cons (so_var (i := 3)) so_nil))) (so_cons (so_lit_tup (so_lits_cons (so_lit_c (sca_int _) rfl) (so_lits_cons (so_lit_lst so_lits_nil) so_lits_nil))) so_nil))))))))))))))))))⟩) val__law_ps_right
/-! ### law -/
def spLaw (K : PySem.W.Frag) : Sp := fun vs H Q _ => ∃ (a : Addr) (ns : List Int), vs = [.ref a] ∧ SqL K H a (ns.map V.int) ∧ ns.length ≤ 63 ∧ (∀ z ∈ ns, Builtin.Int.intBits z ≤ 1048576) ∧ ∀ H', Q (.bl true) H'
theorem ok_law (p : Prog K mg) : FnG P w K mg base CX0 11 p.f_law p.fd_law ["_law_script"] (spLaw K) := by
  refine okG p.d_law.F sc_law (fun vs H Q E h => ?_) (fun cdv A outer s H vs Q E hg hr h => ?_)
  · obtain ⟨a, ns, rfl, _⟩ := h
    rfl
  · obtain ⟨a, ns, rfl, hs, hl, hb, q⟩ := h
    refine ⟨_, (pss_cons (ps_for PassesOwn.never rfl (pi_range1 (by rfl) p.blt.range (pa_cons (pe_callB (call_max2 rfl) (by rfl) p.blt.max (by decide +kernel) (pa_cons pe_int (pa_cons (pe_callB (call_min2 rfl) (by rfl) p.blt.min (by decide +kernel) (pa_cons pe_int (pa_cons (pe_callB call_len_seq (by rfl) p.blt.len PySem.boot_len (pa_cons (pv 0) pa_nil)) pa_nil))) pa_nil))) pa_nil)) (pg_name (i := 1) sc_law.nd rfl (Or.inl rfl))
      (pss_one (ps_if (pt_not (pt_val (pe_callG ((ok__law_ps_right p).mono (by decide)) hg hr (by rfl) p.d__law_ps_right.gl p.d__law_ps_right.kp p.d__law_ps_right.bd pass0 (pa_cons (pe_callG ((ok__law_ps_sack p).mono (by decide)) hg hr (by rfl) p.d__law_ps_sack.gl p.d__law_ps_sack.kp p.d__law_ps_sack.bd pass0 (pa_cons (pv 0) (pa_cons (pv 1) pa_nil))) pa_nil))))
      (pss_one (ps_ret pe_bl)) pss_nil)))
      (pss_one (ps_ret pe_bl))), ?_⟩
    refine ⟨_, rfl, a, _, rfl, .inl hs, _, _, rfl, _, _, rfl, ?_⟩
    rw [ints_len]
    refine ⟨_, rfl, by split <;> split <;> omega, by split <;> split <;> omega, ?_⟩
    refine for_range (fun i σ H1 => ∃ y1, σ = [some (.ref a), y1] ∧ Same H H1) ⟨none, rfl, Same.refl _⟩ (fun i σ H1 hi hI => ?_) (fun σ H1 hI => q _)
    obtain ⟨y1, rfl, sm⟩ := hI
    have hi' : i ≤ 64 := by
      revert hi
      split <;> split <;> omega
    -- right(sack(script, rank))
    refine ⟨_, rfl, _, rfl, a, ns, _, rfl, sm.seq hs, hl, hb, by omega, by omega, fun H2 u sm2 un pu => ?_⟩
    refine ⟨u, _, [], [], [], _, rfl, pu, by omega, .nil, (fun z => nomatch z), ⟨rfl, rfl⟩, fun d v H4 ed fr pu4 nw => ?_⟩
    subst ed
    obtain ⟨S, rp, _⟩ := nw
    cases rp
    refine ⟨_, rfl, iteF ?_⟩
    refine ⟨_, rfl, fun b o e => fr b o (sm2 b o (sm b o e)) fun z => ?_⟩
    rw [z] at e
    have := sm _ _ e
    rw [un] at this
    cases this
theorem all_mk {l : PySem.W.OpenLaw} {w : World} {K : PySem.W.Frag} {h : Heap} {mg : Str → Option Value} {fa : Addr} (X : K.In h) (G : h.Ns mainGlobals mg) (hfa : mg "law" = some (.ref fa))
    {f0 f1 f2 f3 f4 f5 f6 f7 f8 f9 f10 f11 f12 f13 f14 f15 f16 f17 f18 f19 f20 f21 f22 f23 f24 f25 f26 f27 : Addr} {od0 an0 : Option Addr} {sl0 : Array (Option Value)} {oc0 kV0 dc0 pm0 cd0 ct0 : Value} {od1 an1 : Option Addr} {sl1 : Array (Option Value)} {oc1 kV1 dc1 pm1 cd1 ct1 : Value} {od2 an2 : Option Addr} {sl2 : Array (Option Value)} {oc2 kV2 dc2 pm2 cd2 ct2 : Value} {od3 an3 : Option Addr} {sl3 : Array (Option Value)} {oc3 kV3 dc3 pm3 cd3 ct3 : Value} {od4 an4 : Option Addr} {sl4 : Array (Option Value)} {oc4 kV4 dc4 pm4 cd4 ct4 : Value} {od5 an5 : Option Addr} {sl5 : Array (Option Value)} {oc5 kV5 dc5 pm5 cd5 ct5 : Value} {od6 an6 : Option Addr} {sl6 : Array (Option Value)} {oc6 kV6 dc6 pm6 cd6 ct6 : Value} {od7 an7 : Option Addr} {sl7 : Array (Option Value)} {oc7 kV7 dc7 pm7 cd7 ct7 : Value} {od8 an8 : Option Addr} {sl8 : Array (Option Value)} {oc8 kV8 dc8 pm8 cd8 ct8 : Value} {od9 an9 : Option Addr} {sl9 : Array (Option Value)} {oc9 kV9 dc9 pm9 cd9 ct9 : Value} {od10 an10 : Option Addr} {sl10 : Array (Option Value)} {oc10 kV10 dc10 pm10 cd10 ct10 : Value} {od11 an11 : Option Addr} {sl11 : Array (Option Value)} {oc11 kV11 dc11 pm11 cd11 ct11 : Value} {od12 an12 : Option Addr} {sl12 : Array (Option Value)} {oc12 kV12 dc12 pm12 cd12 ct12 : Value} {od13 an13 : Option Addr} {sl13 : Array (Option Value)} {oc13 kV13 dc13 pm13 cd13 ct13 : Value} {od14 an14 : Option Addr} {sl14 : Array (Option Value)} {oc14 kV14 dc14 pm14 cd14 ct14 : Value} {od15 an15 : Option Addr} {sl15 : Array (Option Value)} {oc15 kV15 dc15 pm15 cd15 ct15 : Value} {od16 an16 : Option Addr} {sl16 : Array (Option Value)} {oc16 kV16 dc16 pm16 cd16 ct16 : Value} {od17 an17 : Option Addr} {sl17 : Array (Option Value)} {oc17 kV17 dc17 pm17 cd17 ct17 : Value} {od18 an18 : Option Addr} {sl18 : Array (Option Value)} {oc18 kV18 dc18 pm18 cd18 ct18 : Value} {od19 an19 : Option Addr} {sl19 : Array (Option Value)} {oc19 kV19 dc19 pm19 cd19 ct19 : Value} {od20 an20 : Option Addr} {sl20 : Array (Option Value)} {oc20 kV20 dc20 pm20 cd20 ct20 : Value} {od21 an21 : Option Addr} {sl21 : Array (Option Value)} {oc21 kV21 dc21 pm21 cd21 ct21 : Value} {od22 an22 : Option Addr} {sl22 : Array (Option Value)} {oc22 kV22 dc22 pm22 cd22 ct22 : Value} {od23 an23 : Option Addr} {sl23 : Array (Option Value)} {oc23 kV23 dc23 pm23 cd23 ct23 : Value} {od24 an24 : Option Addr} {sl24 : Array (Option Value)} {oc24 kV24 dc24 pm24 cd24 ct24 : Value} {od25 an25 : Option Addr} {sl25 : Array (Option Value)} {oc25 kV25 dc25 pm25 cd25 ct25 : Value} {od26 an26 : Option Addr} {sl26 : Array (Option Value)} {oc26 kV26 dc26 pm26 cd26 ct26 : Value} {od27 an27 : Option Addr} {sl27 : Array (Option Value)} {oc27 kV27 dc27 pm27 cd27 ct27 : Value}
    (a0 : PySem.W.nsIn K mainGlobals "is_effect" = some (some (.ref f0))) (l0 : K.lookup f0 = some ⟨oc0, od0, .func (PySem.W.fnOf "is_effect" "is_effect" (defArgs s_is_effect) (defBody s_is_effect) (defScope s_is_effect) .none kV0 dc0 pm0 an0 cd0 ct0), sl0⟩) (c0 : PySem.W.codeIn K cd0 "is_effect" = true) (k0 : PySem.W.keepIn K (.ref f0) = true)
    (a1 : PySem.W.nsIn K mainGlobals "least_of" = some (some (.ref f1))) (l1 : K.lookup f1 = some ⟨oc1, od1, .func (PySem.W.fnOf "least_of" "least_of" (defArgs s_least_of) (defBody s_least_of) (defScope s_least_of) .none kV1 dc1 pm1 an1 cd1 ct1), sl1⟩) (c1 : PySem.W.codeIn K cd1 "least_of" = true) (k1 : PySem.W.keepIn K (.ref f1) = true)
    (a2 : PySem.W.nsIn K mainGlobals "checked" = some (some (.ref f2))) (l2 : K.lookup f2 = some ⟨oc2, od2, .func (PySem.W.fnOf "checked" "checked" (defArgs s_checked) (defBody s_checked) (defScope s_checked) .none kV2 dc2 pm2 an2 cd2 ct2), sl2⟩) (c2 : PySem.W.codeIn K cd2 "checked" = true) (k2 : PySem.W.keepIn K (.ref f2) = true)
    (a3 : PySem.W.nsIn K mainGlobals "join_of" = some (some (.ref f3))) (l3 : K.lookup f3 = some ⟨oc3, od3, .func (PySem.W.fnOf "join_of" "join_of" (defArgs s_join_of) (defBody s_join_of) (defScope s_join_of) .none kV3 dc3 pm3 an3 cd3 ct3), sl3⟩) (c3 : PySem.W.codeIn K cd3 "join_of" = true) (k3 : PySem.W.keepIn K (.ref f3) = true)
    (a4 : PySem.W.nsIn K mainGlobals "shifted" = some (some (.ref f4))) (l4 : K.lookup f4 = some ⟨oc4, od4, .func (PySem.W.fnOf "shifted" "shifted" (defArgs s_shifted) (defBody s_shifted) (defScope s_shifted) .none kV4 dc4 pm4 an4 cd4 ct4), sl4⟩) (c4 : PySem.W.codeIn K cd4 "shifted" = true) (k4 : PySem.W.keepIn K (.ref f4) = true)
    (a5 : PySem.W.nsIn K mainGlobals "joined" = some (some (.ref f5))) (l5 : K.lookup f5 = some ⟨oc5, od5, .func (PySem.W.fnOf "joined" "joined" (defArgs s_joined) (defBody s_joined) (defScope s_joined) .none kV5 dc5 pm5 an5 cd5 ct5), sl5⟩) (c5 : PySem.W.codeIn K cd5 "joined" = true) (k5 : PySem.W.keepIn K (.ref f5) = true)
    (a6 : PySem.W.nsIn K mainGlobals "done" = some (some (.ref f6))) (l6 : K.lookup f6 = some ⟨oc6, od6, .func (PySem.W.fnOf "done" "done" (defArgs s_done) (defBody s_done) (defScope s_done) .none kV6 dc6 pm6 an6 cd6 ct6), sl6⟩) (c6 : PySem.W.codeIn K cd6 "done" = true) (k6 : PySem.W.keepIn K (.ref f6) = true)
    (a7 : PySem.W.nsIn K mainGlobals "redo" = some (some (.ref f7))) (l7 : K.lookup f7 = some ⟨oc7, od7, .func (PySem.W.fnOf "redo" "redo" (defArgs s_redo) (defBody s_redo) (defScope s_redo) .none kV7 dc7 pm7 an7 cd7 ct7), sl7⟩) (c7 : PySem.W.codeIn K cd7 "redo" = true) (k7 : PySem.W.keepIn K (.ref f7) = true)
    (a8 : PySem.W.nsIn K mainGlobals "_law_coin" = some (some (.ref f8))) (l8 : K.lookup f8 = some ⟨oc8, od8, .func (PySem.W.fnOf "_law_coin" "_law_coin" (defArgs s__law_coin) (defBody s__law_coin) (defScope s__law_coin) .none kV8 dc8 pm8 an8 cd8 ct8), sl8⟩) (c8 : PySem.W.codeIn K cd8 "_law_coin" = true) (k8 : PySem.W.keepIn K (.ref f8) = true)
    (a9 : PySem.W.nsIn K mainGlobals "_law_copied" = some (some (.ref f9))) (l9 : K.lookup f9 = some ⟨oc9, od9, .func (PySem.W.fnOf "_law_copied" "_law_copied" (defArgs s__law_copied) (defBody s__law_copied) (defScope s__law_copied) .none kV9 dc9 pm9 an9 cd9 ct9), sl9⟩) (c9 : PySem.W.codeIn K cd9 "_law_copied" = true) (k9 : PySem.W.keepIn K (.ref f9) = true)
    (a10 : PySem.W.nsIn K mainGlobals "_law_ps_sack" = some (some (.ref f10))) (l10 : K.lookup f10 = some ⟨oc10, od10, .func (PySem.W.fnOf "_law_ps_sack" "_law_ps_sack" (defArgs s__law_ps_sack) (defBody s__law_ps_sack) (defScope s__law_ps_sack) .none kV10 dc10 pm10 an10 cd10 ct10), sl10⟩) (c10 : PySem.W.codeIn K cd10 "_law_ps_sack" = true) (k10 : PySem.W.keepIn K (.ref f10) = true)
    (a11 : PySem.W.nsIn K mainGlobals "_law_ps_least" = some (some (.ref f11))) (l11 : K.lookup f11 = some ⟨oc11, od11, .func (PySem.W.fnOf "_law_ps_least" "_law_ps_least" (defArgs s__law_ps_least) (defBody s__law_ps_least) (defScope s__law_ps_least) .none kV11 dc11 pm11 an11 cd11 ct11), sl11⟩) (c11 : PySem.W.codeIn K cd11 "_law_ps_least" = true) (k11 : PySem.W.keepIn K (.ref f11) = true)
    (a12 : PySem.W.nsIn K mainGlobals "_law_ps_order" = some (some (.ref f12))) (l12 : K.lookup f12 = some ⟨oc12, od12, .func (PySem.W.fnOf "_law_ps_order" "_law_ps_order" (defArgs s__law_ps_order) (defBody s__law_ps_order) (defScope s__law_ps_order) .none kV12 dc12 pm12 an12 cd12 ct12), sl12⟩) (c12 : PySem.W.codeIn K cd12 "_law_ps_order" = true) (k12 : PySem.W.keepIn K (.ref f12) = true)
    (a13 : PySem.W.nsIn K mainGlobals "_law_ps_drawn" = some (some (.ref f13))) (l13 : K.lookup f13 = some ⟨oc13, od13, .func (PySem.W.fnOf "_law_ps_drawn" "_law_ps_drawn" (defArgs s__law_ps_drawn) (defBody s__law_ps_drawn) (defScope s__law_ps_drawn) .none kV13 dc13 pm13 an13 cd13 ct13), sl13⟩) (c13 : PySem.W.codeIn K cd13 "_law_ps_drawn" = true) (k13 : PySem.W.keepIn K (.ref f13) = true)
    (a14 : PySem.W.nsIn K mainGlobals "_law_ps_wider" = some (some (.ref f14))) (l14 : K.lookup f14 = some ⟨oc14, od14, .func (PySem.W.fnOf "_law_ps_wider" "_law_ps_wider" (defArgs s__law_ps_wider) (defBody s__law_ps_wider) (defScope s__law_ps_wider) .none kV14 dc14 pm14 an14 cd14 ct14), sl14⟩) (c14 : PySem.W.codeIn K cd14 "_law_ps_wider" = true) (k14 : PySem.W.keepIn K (.ref f14) = true)
    (a15 : PySem.W.nsIn K mainGlobals "_law_ps_do" = some (some (.ref f15))) (l15 : K.lookup f15 = some ⟨oc15, od15, .func (PySem.W.fnOf "_law_ps_do" "_law_ps_do" (defArgs s__law_ps_do) (defBody s__law_ps_do) (defScope s__law_ps_do) .none kV15 dc15 pm15 an15 cd15 ct15), sl15⟩) (c15 : PySem.W.codeIn K cd15 "_law_ps_do" = true) (k15 : PySem.W.keepIn K (.ref f15) = true)
    (a16 : PySem.W.nsIn K mainGlobals "_law_ps_both" = some (some (.ref f16))) (l16 : K.lookup f16 = some ⟨oc16, od16, .func (PySem.W.fnOf "_law_ps_both" "_law_ps_both" (defArgs s__law_ps_both) (defBody s__law_ps_both) (defScope s__law_ps_both) .none kV16 dc16 pm16 an16 cd16 ct16), sl16⟩) (c16 : PySem.W.codeIn K cd16 "_law_ps_both" = true) (k16 : PySem.W.keepIn K (.ref f16) = true)
    (a17 : PySem.W.nsIn K mainGlobals "_law_ps_same" = some (some (.ref f17))) (l17 : K.lookup f17 = some ⟨oc17, od17, .func (PySem.W.fnOf "_law_ps_same" "_law_ps_same" (defArgs s__law_ps_same) (defBody s__law_ps_same) (defScope s__law_ps_same) .none kV17 dc17 pm17 an17 cd17 ct17), sl17⟩) (c17 : PySem.W.codeIn K cd17 "_law_ps_same" = true) (k17 : PySem.W.keepIn K (.ref f17) = true)
    (a18 : PySem.W.nsIn K mainGlobals "_law_ps_spoil" = some (some (.ref f18))) (l18 : K.lookup f18 = some ⟨oc18, od18, .func (PySem.W.fnOf "_law_ps_spoil" "_law_ps_spoil" (defArgs s__law_ps_spoil) (defBody s__law_ps_spoil) (defScope s__law_ps_spoil) .none kV18 dc18 pm18 an18 cd18 ct18), sl18⟩) (c18 : PySem.W.codeIn K cd18 "_law_ps_spoil" = true) (k18 : PySem.W.keepIn K (.ref f18) = true)
    (a19 : PySem.W.nsIn K mainGlobals "_law_ps_alone" = some (some (.ref f19))) (l19 : K.lookup f19 = some ⟨oc19, od19, .func (PySem.W.fnOf "_law_ps_alone" "_law_ps_alone" (defArgs s__law_ps_alone) (defBody s__law_ps_alone) (defScope s__law_ps_alone) .none kV19 dc19 pm19 an19 cd19 ct19), sl19⟩) (c19 : PySem.W.codeIn K cd19 "_law_ps_alone" = true) (k19 : PySem.W.keepIn K (.ref f19) = true)
    (a20 : PySem.W.nsIn K mainGlobals "_law_ps_bounds" = some (some (.ref f20))) (l20 : K.lookup f20 = some ⟨oc20, od20, .func (PySem.W.fnOf "_law_ps_bounds" "_law_ps_bounds" (defArgs s__law_ps_bounds) (defBody s__law_ps_bounds) (defScope s__law_ps_bounds) .none kV20 dc20 pm20 an20 cd20 ct20), sl20⟩) (c20 : PySem.W.codeIn K cd20 "_law_ps_bounds" = true) (k20 : PySem.W.keepIn K (.ref f20) = true)
    (a21 : PySem.W.nsIn K mainGlobals "_law_ps_text" = some (some (.ref f21))) (l21 : K.lookup f21 = some ⟨oc21, od21, .func (PySem.W.fnOf "_law_ps_text" "_law_ps_text" (defArgs s__law_ps_text) (defBody s__law_ps_text) (defScope s__law_ps_text) .none kV21 dc21 pm21 an21 cd21 ct21), sl21⟩) (c21 : PySem.W.codeIn K cd21 "_law_ps_text" = true) (k21 : PySem.W.keepIn K (.ref f21) = true)
    (a22 : PySem.W.nsIn K mainGlobals "_law_ps_heap" = some (some (.ref f22))) (l22 : K.lookup f22 = some ⟨oc22, od22, .func (PySem.W.fnOf "_law_ps_heap" "_law_ps_heap" (defArgs s__law_ps_heap) (defBody s__law_ps_heap) (defScope s__law_ps_heap) .none kV22 dc22 pm22 an22 cd22 ct22), sl22⟩) (c22 : PySem.W.codeIn K cd22 "_law_ps_heap" = true) (k22 : PySem.W.keepIn K (.ref f22) = true)
    (a23 : PySem.W.nsIn K mainGlobals "_law_ps_once" = some (some (.ref f23))) (l23 : K.lookup f23 = some ⟨oc23, od23, .func (PySem.W.fnOf "_law_ps_once" "_law_ps_once" (defArgs s__law_ps_once) (defBody s__law_ps_once) (defScope s__law_ps_once) .none kV23 dc23 pm23 an23 cd23 ct23), sl23⟩) (c23 : PySem.W.codeIn K cd23 "_law_ps_once" = true) (k23 : PySem.W.keepIn K (.ref f23) = true)
    (a24 : PySem.W.nsIn K mainGlobals "_law_ps_lists" = some (some (.ref f24))) (l24 : K.lookup f24 = some ⟨oc24, od24, .func (PySem.W.fnOf "_law_ps_lists" "_law_ps_lists" (defArgs s__law_ps_lists) (defBody s__law_ps_lists) (defScope s__law_ps_lists) .none kV24 dc24 pm24 an24 cd24 ct24), sl24⟩) (c24 : PySem.W.codeIn K cd24 "_law_ps_lists" = true) (k24 : PySem.W.keepIn K (.ref f24) = true)
    (a25 : PySem.W.nsIn K mainGlobals "_law_ps_redo_due" = some (some (.ref f25))) (l25 : K.lookup f25 = some ⟨oc25, od25, .func (PySem.W.fnOf "_law_ps_redo_due" "_law_ps_redo_due" (defArgs s__law_ps_redo_due) (defBody s__law_ps_redo_due) (defScope s__law_ps_redo_due) .none kV25 dc25 pm25 an25 cd25 ct25), sl25⟩) (c25 : PySem.W.codeIn K cd25 "_law_ps_redo_due" = true) (k25 : PySem.W.keepIn K (.ref f25) = true)
    (a26 : PySem.W.nsIn K mainGlobals "_law_ps_right" = some (some (.ref f26))) (l26 : K.lookup f26 = some ⟨oc26, od26, .func (PySem.W.fnOf "_law_ps_right" "_law_ps_right" (defArgs s__law_ps_right) (defBody s__law_ps_right) (defScope s__law_ps_right) .none kV26 dc26 pm26 an26 cd26 ct26), sl26⟩) (c26 : PySem.W.codeIn K cd26 "_law_ps_right" = true) (k26 : PySem.W.keepIn K (.ref f26) = true)
    (a27 : PySem.W.nsIn K mainGlobals "law" = some (some (.ref f27))) (l27 : K.lookup f27 = some ⟨oc27, od27, .func (PySem.W.fnOf "law" "law" (defArgs s_law) (defBody s_law) (defScope s_law) .none kV27 dc27 pm27 an27 cd27 ct27), sl27⟩) (c27 : PySem.W.codeIn K cd27 "law" = true) (k27 : PySem.W.keepIn K (.ref f27) = true)
    (z0 : PySem.W.nsIn K mainGlobals "len" = some none)
    (z1 : PySem.W.nsIn K mainGlobals "range" = some none)
    (z2 : PySem.W.nsIn K mainGlobals "max" = some none)
    (z3 : PySem.W.nsIn K mainGlobals "min" = some none)
    (z4 : PySem.W.nsIn K mainGlobals "abs" = some none)
    (z5 : PySem.W.nsIn K mainGlobals "int" = some none)
    (z6 : PySem.W.nsIn K mainGlobals "list" = some none)
    (z7 : PySem.W.nsIn K mainGlobals "tuple" = some none)
    (z8 : PySem.W.nsIn K mainGlobals "repr" = some none)
    (z9 : PySem.W.nsIn K mainGlobals "all" = some none)
    (z10 : PySem.W.nsIn K mainGlobals "any" = some none)
    (z11 : PySem.W.nsIn K mainGlobals "sum" = some none)
    (z12 : PySem.W.nsIn K mainGlobals "sorted" = some none)
    (z13 : PySem.W.nsIn K mainGlobals "isinstance" = some none)
    (z14 : PySem.W.nsIn K mainGlobals "set" = some none)
    (z15 : PySem.W.nsIn K mainGlobals "enumerate" = some none)
    (z16 : PySem.W.nsIn K mainGlobals "zip" = some none)
    (z17 : PySem.W.nsIn K mainGlobals "str" = some none)
    (z18 : PySem.W.nsIn K mainGlobals "divmod" = some none)
    (z19 : PySem.W.nsIn K mainGlobals "dict" = some none)
    (z20 : PySem.W.nsIn K mainGlobals "bool" = some none)
    (z21 : PySem.W.nsIn K mainGlobals "reversed" = some none)
    : ∃ fd : FuncData, (∀ (s : Shared) (v : Value), BindsTo s fd ⟨[v], []⟩ [("_law_script", v)]) ∧ ∀ base : Heap, K.In base → base.Ns mainGlobals mg → FnG l.prog w K mg base CX0 11 fa fd ["_law_script"] (spLaw K) := by
  have e := hfa.symm.trans (PySem.W.mg_of X G a27)
  cases e
  exact ⟨PySem.W.fnOf "law" "law" (defArgs s_law) (defBody s_law) (defScope s_law) .none kV27 dc27 pm27 an27 cd27 ct27, fun s v => .of_eq rfl, fun base _ _ => ok_law (⟨⟨PySem.W.mg_none_of X G z0, PySem.W.mg_none_of X G z1, PySem.W.mg_none_of X G z2, PySem.W.mg_none_of X G z3, PySem.W.mg_none_of X G z4, PySem.W.mg_none_of X G z5, PySem.W.mg_none_of X G z6, PySem.W.mg_none_of X G z7, PySem.W.mg_none_of X G z8, PySem.W.mg_none_of X G z9, PySem.W.mg_none_of X G z10, PySem.W.mg_none_of X G z11, PySem.W.mg_none_of X G z12, PySem.W.mg_none_of X G z13, PySem.W.mg_none_of X G z14, PySem.W.mg_none_of X G z15, PySem.W.mg_none_of X G z16, PySem.W.mg_none_of X G z17, PySem.W.mg_none_of X G z18, PySem.W.mg_none_of X G z19, PySem.W.mg_none_of X G z20, PySem.W.mg_none_of X G z21⟩,
    f0, _, ⟨fun_mk (st := s_is_effect) l0 c0 k0, PySem.W.mg_of X G a0, (fun_mk (st := s_is_effect) l0 c0 k0).binds fun _ _ _ _ _ _ us hl => match us, hl with | [_], _ => rfl⟩,
    f1, _, ⟨fun_mk (st := s_least_of) l1 c1 k1, PySem.W.mg_of X G a1, (fun_mk (st := s_least_of) l1 c1 k1).binds fun _ _ _ _ _ _ us hl => match us, hl with | [_, _], _ => rfl⟩,
    f2, _, ⟨fun_mk (st := s_checked) l2 c2 k2, PySem.W.mg_of X G a2, (fun_mk (st := s_checked) l2 c2 k2).binds fun _ _ _ _ _ _ us hl => match us, hl with | [_], _ => rfl⟩,
    f3, _, ⟨fun_mk (st := s_join_of) l3 c3 k3, PySem.W.mg_of X G a3, (fun_mk (st := s_join_of) l3 c3 k3).binds fun _ _ _ _ _ _ us hl => match us, hl with | [_, _], _ => rfl⟩,
    f4, _, ⟨fun_mk (st := s_shifted) l4 c4 k4, PySem.W.mg_of X G a4, (fun_mk (st := s_shifted) l4 c4 k4).binds fun _ _ _ _ _ _ us hl => match us, hl with | [_, _], _ => rfl⟩,
    f5, _, ⟨fun_mk (st := s_joined) l5 c5 k5, PySem.W.mg_of X G a5, (fun_mk (st := s_joined) l5 c5 k5).binds fun _ _ _ _ _ _ us hl => match us, hl with | [_, _], _ => rfl⟩,
    f6, _, ⟨fun_mk (st := s_done) l6 c6 k6, PySem.W.mg_of X G a6, (fun_mk (st := s_done) l6 c6 k6).binds fun _ _ _ _ _ _ us hl => match us, hl with | [_, _], _ => rfl⟩,
    f7, _, ⟨fun_mk (st := s_redo) l7 c7 k7, PySem.W.mg_of X G a7, (fun_mk (st := s_redo) l7 c7 k7).binds fun _ _ _ _ _ _ us hl => match us, hl with | [_], _ => rfl⟩,
    f8, _, ⟨fun_mk (st := s__law_coin) l8 c8 k8, PySem.W.mg_of X G a8, (fun_mk (st := s__law_coin) l8 c8 k8).binds fun _ _ _ _ _ _ us hl => match us, hl with | [_, _], _ => rfl⟩,
    f9, _, ⟨fun_mk (st := s__law_copied) l9 c9 k9, PySem.W.mg_of X G a9, (fun_mk (st := s__law_copied) l9 c9 k9).binds fun _ _ _ _ _ _ us hl => match us, hl with | [_], _ => rfl⟩,
    f10, _, ⟨fun_mk (st := s__law_ps_sack) l10 c10 k10, PySem.W.mg_of X G a10, (fun_mk (st := s__law_ps_sack) l10 c10 k10).binds fun _ _ _ _ _ _ us hl => match us, hl with | [_, _], _ => rfl⟩,
    f11, _, ⟨fun_mk (st := s__law_ps_least) l11 c11 k11, PySem.W.mg_of X G a11, (fun_mk (st := s__law_ps_least) l11 c11 k11).binds fun _ _ _ _ _ _ us hl => match us, hl with | [_, _], _ => rfl⟩,
    f12, _, ⟨fun_mk (st := s__law_ps_order) l12 c12 k12, PySem.W.mg_of X G a12, (fun_mk (st := s__law_ps_order) l12 c12 k12).binds fun _ _ _ _ _ _ us hl => match us, hl with | [_, _], _ => rfl⟩,
    f13, _, ⟨fun_mk (st := s__law_ps_drawn) l13 c13 k13, PySem.W.mg_of X G a13, (fun_mk (st := s__law_ps_drawn) l13 c13 k13).binds fun _ _ _ _ _ _ us hl => match us, hl with | [_, _, _], _ => rfl⟩,
    f14, _, ⟨fun_mk (st := s__law_ps_wider) l14 c14 k14, PySem.W.mg_of X G a14, (fun_mk (st := s__law_ps_wider) l14 c14 k14).binds fun _ _ _ _ _ _ us hl => match us, hl with | [_, _, _, _], _ => rfl⟩,
    f15, _, ⟨fun_mk (st := s__law_ps_do) l15 c15 k15, PySem.W.mg_of X G a15, (fun_mk (st := s__law_ps_do) l15 c15 k15).binds fun _ _ _ _ _ _ us hl => match us, hl with | [_, _], _ => rfl⟩,
    f16, _, ⟨fun_mk (st := s__law_ps_both) l16 c16 k16, PySem.W.mg_of X G a16, (fun_mk (st := s__law_ps_both) l16 c16 k16).binds fun _ _ _ _ _ _ us hl => match us, hl with | [_, _], _ => rfl⟩,
    f17, _, ⟨fun_mk (st := s__law_ps_same) l17 c17 k17, PySem.W.mg_of X G a17, (fun_mk (st := s__law_ps_same) l17 c17 k17).binds fun _ _ _ _ _ _ us hl => match us, hl with | [_, _], _ => rfl⟩,
    f18, _, ⟨fun_mk (st := s__law_ps_spoil) l18 c18 k18, PySem.W.mg_of X G a18, (fun_mk (st := s__law_ps_spoil) l18 c18 k18).binds fun _ _ _ _ _ _ us hl => match us, hl with | [_, _], _ => rfl⟩,
    f19, _, ⟨fun_mk (st := s__law_ps_alone) l19 c19 k19, PySem.W.mg_of X G a19, (fun_mk (st := s__law_ps_alone) l19 c19 k19).binds fun _ _ _ _ _ _ us hl => match us, hl with | [_], _ => rfl⟩,
    f20, _, ⟨fun_mk (st := s__law_ps_bounds) l20 c20 k20, PySem.W.mg_of X G a20, (fun_mk (st := s__law_ps_bounds) l20 c20 k20).binds fun _ _ _ _ _ _ us hl => match us, hl with | [_], _ => rfl⟩,
    f21, _, ⟨fun_mk (st := s__law_ps_text) l21 c21 k21, PySem.W.mg_of X G a21, (fun_mk (st := s__law_ps_text) l21 c21 k21).binds fun _ _ _ _ _ _ us hl => match us, hl with | [_], _ => rfl⟩,
    f22, _, ⟨fun_mk (st := s__law_ps_heap) l22 c22 k22, PySem.W.mg_of X G a22, (fun_mk (st := s__law_ps_heap) l22 c22 k22).binds fun _ _ _ _ _ _ us hl => match us, hl with | [_, _], _ => rfl⟩,
    f23, _, ⟨fun_mk (st := s__law_ps_once) l23 c23 k23, PySem.W.mg_of X G a23, (fun_mk (st := s__law_ps_once) l23 c23 k23).binds fun _ _ _ _ _ _ us hl => match us, hl with | [_, _, _], _ => rfl⟩,
    f24, _, ⟨fun_mk (st := s__law_ps_lists) l24 c24 k24, PySem.W.mg_of X G a24, (fun_mk (st := s__law_ps_lists) l24 c24 k24).binds fun _ _ _ _ _ _ us hl => match us, hl with | [_, _], _ => rfl⟩,
    f25, _, ⟨fun_mk (st := s__law_ps_redo_due) l25 c25 k25, PySem.W.mg_of X G a25, (fun_mk (st := s__law_ps_redo_due) l25 c25 k25).binds fun _ _ _ _ _ _ us hl => match us, hl with | [_], _ => rfl⟩,
    f26, _, ⟨fun_mk (st := s__law_ps_right) l26 c26 k26, PySem.W.mg_of X G a26, (fun_mk (st := s__law_ps_right) l26 c26 k26).binds fun _ _ _ _ _ _ us hl => match us, hl with | [_], _ => rfl⟩,
    fa, _, ⟨fun_mk (st := s_law) l27 c27 k27, PySem.W.mg_of X G a27, (fun_mk (st := s_law) l27 c27 k27).binds fun _ _ _ _ _ _ us hl => match us, hl with | [_], _ => rfl⟩⟩ : Prog K mg)⟩
end
end My
open PySem PySem.W PyProof.Rows
set_option maxHeartbeats 0 in
theorem PySem.Challenge.cw_pileshifts_k09_redone_ahead_holds : PySem.Challenge.rw_pileshifts_k09_redone_ahead.Holds := by
  w_on; o_law; k_head; (case hw => w_witness2)
  k_fill
  refine G.walk_ofG (l := PySem.Challenge.rw_pileshifts_k09_redone_ahead) (n := 63) (k := 11) (x := "_law_script") (CX := fun _ => L2.CX0) (sp := fun w => My.spLaw _) rfl (by decide) rfl ⟨rfl, by decide, by decide⟩ (fun w h Y => PySem.W.kIn_of Y) ?F (fun _ _ a ns hl hb _ hS => ⟨a, ns, rfl, hS, hl, hb, fun _ => rfl⟩) (fun _ _ _ _ _ h => h)
  case F =>
    intro w mg fa h KX G hmg
    refine' My.all_mk KX G hmg ?a0 ?l0 ?c0 ?k0 ?a1 ?l1 ?c1 ?k1 ?a2 ?l2 ?c2 ?k2 ?a3 ?l3 ?c3 ?k3 ?a4 ?l4 ?c4 ?k4 ?a5 ?l5 ?c5 ?k5 ?a6 ?l6 ?c6 ?k6 ?a7 ?l7 ?c7 ?k7 ?a8 ?l8 ?c8 ?k8 ?a9 ?l9 ?c9 ?k9 ?a10 ?l10 ?c10 ?k10 ?a11 ?l11 ?c11 ?k11 ?a12 ?l12 ?c12 ?k12 ?a13 ?l13 ?c13 ?k13 ?a14 ?l14 ?c14 ?k14 ?a15 ?l15 ?c15 ?k15 ?a16 ?l16 ?c16 ?k16 ?a17 ?l17 ?c17 ?k17 ?a18 ?l18 ?c18 ?k18 ?a19 ?l19 ?c19 ?k19 ?a20 ?l20 ?c20 ?k20 ?a21 ?l21 ?c21 ?k21 ?a22 ?l22 ?c22 ?k22 ?a23 ?l23 ?c23 ?k23 ?a24 ?l24 ?c24 ?k24 ?a25 ?l25 ?c25 ?k25 ?a26 ?l26 ?c26 ?k26 ?a27 ?l27 ?c27 ?k27 ?z0 ?z1 ?z2 ?z3 ?z4 ?z5 ?z6 ?z7 ?z8 ?z9 ?z10 ?z11 ?z12 ?z13 ?z14 ?z15 ?z16 ?z17 ?z18 ?z19 ?z20 ?z21
    (case a0 => k_is)
    (case l0 => k_is)
    (case c0 => k_is)
    (case k0 => k_is)
    (case a1 => k_is)
    (case l1 => k_is)
    (case c1 => k_is)
    (case k1 => k_is)
    (case a2 => k_is)
    (case l2 => k_is)
    (case c2 => k_is)
    (case k2 => k_is)
    (case a3 => k_is)
    (case l3 => k_is)
    (case c3 => k_is)
    (case k3 => k_is)
    (case a4 => k_is)
    (case l4 => k_is)
    (case c4 => k_is)
    (case k4 => k_is)
    (case a5 => k_is)
    (case l5 => k_is)
    (case c5 => k_is)
    (case k5 => k_is)
    (case a6 => k_is)
    (case l6 => k_is)
    (case c6 => k_is)
    (case k6 => k_is)
    (case a7 => k_is)
    (case l7 => k_is)
    (case c7 => k_is)
    (case k7 => k_is)
    (case a8 => k_is)
    (case l8 => k_is)
    (case c8 => k_is)
    (case k8 => k_is)
    (case a9 => k_is)
    (case l9 => k_is)
    (case c9 => k_is)
    (case k9 => k_is)
    (case a10 => k_is)
    (case l10 => k_is)
    (case c10 => k_is)
    (case k10 => k_is)
    (case a11 => k_is)
    (case l11 => k_is)
    (case c11 => k_is)
    (case k11 => k_is)
    (case a12 => k_is)
    (case l12 => k_is)
    (case c12 => k_is)
    (case k12 => k_is)
    (case a13 => k_is)
    (case l13 => k_is)
    (case c13 => k_is)
    (case k13 => k_is)
    (case a14 => k_is)
    (case l14 => k_is)
    (case c14 => k_is)
    (case k14 => k_is)
    (case a15 => k_is)
    (case l15 => k_is)
    (case c15 => k_is)
    (case k15 => k_is)
    (case a16 => k_is)
    (case l16 => k_is)
    (case c16 => k_is)
    (case k16 => k_is)
    (case a17 => k_is)
    (case l17 => k_is)
    (case c17 => k_is)
    (case k17 => k_is)
    (case a18 => k_is)
    (case l18 => k_is)
    (case c18 => k_is)
    (case k18 => k_is)
    (case a19 => k_is)
    (case l19 => k_is)
    (case c19 => k_is)
    (case k19 => k_is)
    (case a20 => k_is)
    (case l20 => k_is)
    (case c20 => k_is)
    (case k20 => k_is)
    (case a21 => k_is)
    (case l21 => k_is)
    (case c21 => k_is)
    (case k21 => k_is)
    (case a22 => k_is)
    (case l22 => k_is)
    (case c22 => k_is)
    (case k22 => k_is)
    (case a23 => k_is)
    (case l23 => k_is)
    (case c23 => k_is)
    (case k23 => k_is)
    (case a24 => k_is)
    (case l24 => k_is)
    (case c24 => k_is)
    (case k24 => k_is)
    (case a25 => k_is)
    (case l25 => k_is)
    (case c25 => k_is)
    (case k25 => k_is)
    (case a26 => k_is)
    (case l26 => k_is)
    (case c26 => k_is)
    (case k26 => k_is)
    (case a27 => k_is)
    (case l27 => k_is)
    (case c27 => k_is)
    (case k27 => k_is)
    (case z0 => k_is)
    (case z1 => k_is)
    (case z2 => k_is)
    (case z3 => k_is)
    (case z4 => k_is)
    (case z5 => k_is)
    (case z6 => k_is)
    (case z7 => k_is)
    (case z8 => k_is)
    (case z9 => k_is)
    (case z10 => k_is)
    (case z11 => k_is)
    (case z12 => k_is)
    (case z13 => k_is)
    (case z14 => k_is)
    (case z15 => k_is)
    (case z16 => k_is)
    (case z17 => k_is)
    (case z18 => k_is)
    (case z19 => k_is)
    (case z20 => k_is)
    (case z21 => k_is)
