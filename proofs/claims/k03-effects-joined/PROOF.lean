import PyProof.Rows.All
import Wide.All
import OpenK.AllK
import Wide.FinOn
import HandS.ForMost
import HandS.Wide
import HandS.EndBits
import HandS.Conv
import HandS.SetFor
import HandS.Codes
import HandS.IsInst
import PyProof.ReprRoads
import PyProof.ReprLen
import PyProof.MaxThree
import PySem.Challenge.RW_pileshifts_k03_effects_joined
set_option Elab.async false
set_option linter.all false
set_option maxRecDepth 100000
set_option maxHeartbeats 4000000
/-! GBase: trees of plain data over the abstract heap, each list with its place; a state of frozen and owned trees. -/
namespace G
open PySem PySem.Spec PyProof.Rows L2

abbrev D := PyData

/-! ### trees -/
mutual
inductive Rep (H : Hp) : List Addr → V → D → Prop
  | non : Rep H [] .non .none
  | bl (b : Bool) : Rep H [] (.bl b) (.bool b)
  | int (i : Int) : Rep H [] (.int i) (.int i)
  | str (x : Str) : Rep H [] (.str x) (.str x)
  | lst {a : Addr} {vs : List V} {S : List Addr} {ds : List D} : H a = some (.lst vs) → Reps H S vs ds → Rep H (a :: S) (.ref a) (.list ds)
  | tup {a : Addr} {vs : List V} {S : List Addr} {ds : List D} : H a = some (.tup vs) → Reps H S vs ds → Rep H S (.ref a) (.tuple ds)
inductive Reps (H : Hp) : List Addr → List V → List D → Prop
  | nil : Reps H [] [] []
  | cons {S T : List Addr} {v : V} {vs : List V} {d : D} {ds : List D} : Rep H S v d → Reps H T vs ds → Reps H (S ++ T) (v :: vs) (d :: ds)
end

section
variable {H H' : Hp}
mutual
theorem Rep.mono (ht : ∀ t vs, H t = some (.tup vs) → H' t = some (.tup vs)) : ∀ (d : D) (S : List Addr) (v : V), Rep H S v d → (∀ a ∈ S, ∀ o, H a = some o → H' a = some o) → Rep H' S v d
  | .none, _, _, h, _ => by cases h; exact .non
  | .bool b, _, _, h, _ => by cases h; exact .bl b
  | .int i, _, _, h, _ => by cases h; exact .int i
  | .str x, _, _, h, _ => by cases h; exact .str x
  | .list ds, _, _, h, k => by
    cases h with
    | lst h1 h2 => exact .lst (k _ List.mem_cons_self _ h1) (Reps.mono ht ds _ _ h2 fun a ha => k a (List.mem_cons_of_mem _ ha))
  | .tuple ds, _, _, h, k => by
    cases h with
    | tup h1 h2 => exact .tup (ht _ _ h1) (Reps.mono ht ds _ _ h2 k)
  | .dict _, _, _, h, _ => by cases h
theorem Reps.mono (ht : ∀ t vs, H t = some (.tup vs) → H' t = some (.tup vs)) : ∀ (ds : List D) (S : List Addr) (vs : List V), Reps H S vs ds → (∀ a ∈ S, ∀ o, H a = some o → H' a = some o) → Reps H' S vs ds
  | [], _, _, h, _ => by cases h; exact .nil
  | d :: ds, _, _, h, k => by
    cases h with
    | cons h1 h2 => exact .cons (Rep.mono ht d _ _ h1 fun a ha => k a (List.mem_append_left _ ha)) (Reps.mono ht ds _ _ h2 fun a ha => k a (List.mem_append_right _ ha))
end
mutual
/-- the lists of a tree stand in the heap -/
theorem Rep.dom : ∀ (d : D) (S : List Addr) (v : V), Rep H S v d → ∀ a ∈ S, ∃ vs, H a = some (.lst vs)
  | .none, _, _, h => by cases h; intro a z; cases z
  | .bool b, _, _, h => by cases h; intro a z; cases z
  | .int i, _, _, h => by cases h; intro a z; cases z
  | .str x, _, _, h => by cases h; intro a z; cases z
  | .list ds, _, _, h => by
    cases h with
    | lst h1 h2 =>
      intro a z
      rcases List.mem_cons.mp z with rfl | z
      · exact ⟨_, h1⟩
      · exact Reps.dom ds _ _ h2 a z
  | .tuple ds, _, _, h => by
    cases h with
    | tup h1 h2 => exact Reps.dom ds _ _ h2
  | .dict _, _, _, h => by cases h
theorem Reps.dom : ∀ (ds : List D) (S : List Addr) (vs : List V), Reps H S vs ds → ∀ a ∈ S, ∃ xs, H a = some (.lst xs)
  | [], _, _, h => by cases h; intro a z; cases z
  | d :: ds, _, _, h => by
    cases h with
    | cons h1 h2 =>
      intro a z
      rcases List.mem_append.mp z with z | z
      · exact Rep.dom d _ _ h1 a z
      · exact Reps.dom ds _ _ h2 a z
end
mutual
/-- read by the layer's own words -/
theorem Rep.dp (K : PySem.W.Frag) : ∀ (d : D) (S : List Addr) (v : V), Rep H S v d → Dp K H v d
  | .none, _, _, h => by cases h; exact .non
  | .bool b, _, _, h => by cases h; exact .bl b
  | .int i, _, _, h => by cases h; exact .int i
  | .str x, _, _, h => by cases h; exact .str x
  | .list ds, _, _, h => by
    cases h with
    | lst h1 h2 => exact .lst (SqL.of h1) (Reps.dp K ds _ _ h2)
  | .tuple ds, _, _, h => by
    cases h with
    | tup h1 h2 => exact .tup (SqT.of h1) (Reps.dp K ds _ _ h2)
  | .dict _, _, _, h => by cases h
theorem Reps.dp (K : PySem.W.Frag) : ∀ (ds : List D) (S : List Addr) (vs : List V), Reps H S vs ds → DpAll K H vs ds
  | [], _, _, h => by cases h; exact .nil
  | d :: ds, _, _, h => by
    cases h with
    | cons h1 h2 => exact .cons (Rep.dp K d _ _ h1) (Reps.dp K ds _ _ h2)
end
theorem Reps.length : ∀ {ds : List D} {S : List Addr} {vs : List V}, Reps H S vs ds → vs.length = ds.length
  | [], _, _, h => by cases h; rfl
  | d :: ds, _, _, h => by
    cases h with
    | cons h1 h2 => simp [Reps.length h2]
theorem Reps.append : ∀ {ds es : List D} {S T : List Addr} {vs us : List V}, Reps H S vs ds → Reps H T us es → Reps H (S ++ T) (vs ++ us) (ds ++ es)
  | [], _, _, _, _, _, h, k => by cases h; exact k
  | d :: ds, _, _, _, _, _, h, k => by
    cases h with
    | cons h1 h2 =>
      have q := Reps.cons h1 (Reps.append h2 k)
      rw [← List.append_assoc] at q
      exact q
theorem Reps.split : ∀ {ds es : List D} {S : List Addr} {us : List V}, Reps H S us (ds ++ es) → ∃ S1 S2 u1 u2, S = S1 ++ S2 ∧ us = u1 ++ u2 ∧ Reps H S1 u1 ds ∧ Reps H S2 u2 es
  | [], _, S, us, h => ⟨[], S, [], us, rfl, rfl, .nil, h⟩
  | d :: ds, _, _, _, h => by
    cases h with
    | cons h1 h2 =>
      obtain ⟨S1, S2, u1, u2, rfl, rfl, a, b⟩ := Reps.split h2
      exact ⟨_, S2, _, u2, (List.append_assoc ..).symm, rfl, .cons h1 a, b⟩
theorem Reps.intsR : ∀ (ns : List Int), Reps H [] (ns.map V.int) (ns.map PyData.int)
  | [] => .nil
  | n :: ns => .cons (S := []) (.int n) (Reps.intsR ns)
theorem Reps.intsInv : ∀ {ns : List Int} {S : List Addr} {vs : List V}, Reps H S vs (ns.map PyData.int) → S = [] ∧ vs = ns.map V.int
  | [], _, _, h => by cases h; exact ⟨rfl, rfl⟩
  | n :: ns, _, _, h => by
    cases h with
    | cons h1 h2 =>
      cases h1
      obtain ⟨rfl, rfl⟩ := Reps.intsInv h2
      exact ⟨rfl, rfl⟩
/-- one item -/
theorem Reps.get : ∀ {ds : List D} {S : List Addr} {vs : List V} {i : Nat} {d : D}, Reps H S vs ds → ds[i]? = some d → ∃ v T, vs[i]? = some v ∧ Rep H T v d ∧ ∀ a ∈ T, a ∈ S
  | [], _, _, _, _, _, e => by simp at e
  | d :: ds, _, _, 0, _, h, e => by
    cases h with
    | cons h1 h2 =>
      simp at e
      subst e
      exact ⟨_, _, rfl, h1, fun a z => List.mem_append_left _ z⟩
  | d :: ds, _, _, i + 1, _, h, e => by
    cases h with
    | cons h1 h2 =>
      obtain ⟨v, T, e1, r, s⟩ := Reps.get (i := i) h2 (by simpa using e)
      exact ⟨v, T, by simpa using e1, r, fun a z => List.mem_append_right _ (s a z)⟩
end

/-- a list of ints as data -/
abbrev dI (ns : List Int) : D := .list (ns.map PyData.int)

/-- a new tree: its lists are all new, each once -/
def New (H H' : Hp) (v : V) (d : D) : Prop := ∃ S, Rep H' S v d ∧ S.Nodup ∧ ∀ a ∈ S, H a = none

/-! ### the purse that draws come from -/
/-- three whole numbers, the last one (how many draws so far) at most b -/
def PuAt (H : Hp) (p : Addr) (b : Int) : Prop := ∃ x y z : Int, H p = some (.lst [.int x, .int y, .int z]) ∧ 0 ≤ y ∧ y < 10 ^ 25 ∧ 0 ≤ z ∧ z ≤ b
theorem PuAt.le {H : Hp} {p : Addr} {b c : Int} (h : PuAt H p b) (k : b ≤ c) : PuAt H p c := by
  obtain ⟨x, y, z, h1, h2, h3, h4, h5⟩ := h
  exact ⟨x, y, z, h1, h2, h3, h4, by omega⟩

/-! ### the state -/
/-- H0: the heap at the entry; M: its one list that may be changed; pu: the purse and a bound on its draws; Fz: trees that stay; Ow: trees whose lists each stand in one place alone, and may change; Tp: tuples -/
def St (H0 : Hp) (M : Option Addr) (pu : Option (Addr × Int)) (Fz Ow : List (V × D)) (Tp : List (Addr × List V)) (H : Hp) : Prop :=
  ∃ (Z : Addr → Prop) (S : List Addr),
    (∀ a o, H0 a = some o → some a ≠ M → Z a ∧ H a = some o) ∧
    (∀ x ∈ Fz, ∃ T, Rep H T x.1 x.2 ∧ ∀ a ∈ T, Z a) ∧
    Reps H S (Ow.map (·.1)) (Ow.map (·.2)) ∧ S.Nodup ∧ (∀ a ∈ S, ¬ Z a ∧ some a ≠ M) ∧
    (∀ x ∈ Tp, H x.1 = some (.tup x.2)) ∧
    (∀ p b, pu = some (p, b) → PuAt H p b ∧ ¬ Z p ∧ p ∉ S) ∧ (∀ a, Z a ∨ M = some a → ∃ o, H a = some o)

/-- pick one out of a list -/
inductive Pick {α : Type} (x : α) : List α → List α → Prop
  | hd {l : List α} : Pick x (x :: l) l
  | tl {y : α} {l l' : List α} : Pick x l l' → Pick x (y :: l) (y :: l')
/-- readable: v is the tree d -/
inductive Rdb (Fz Ow : List (V × D)) (Tp : List (Addr × List V)) : V → D → Prop
  | non : Rdb Fz Ow Tp .non .none
  | bl (b : Bool) : Rdb Fz Ow Tp (.bl b) (.bool b)
  | int (i : Int) : Rdb Fz Ow Tp (.int i) (.int i)
  | str (x : Str) : Rdb Fz Ow Tp (.str x) (.str x)
  | fz {v : V} {d : D} : (v, d) ∈ Fz → Rdb Fz Ow Tp v d
  | ow {v : V} {d : D} : (v, d) ∈ Ow → Rdb Fz Ow Tp v d
  | tp0 {t : Addr} : (t, []) ∈ Tp → Rdb Fz Ow Tp (.ref t) (.tuple [])
  | tp1 {t : Addr} {v1 : V} {d1 : D} : (t, [v1]) ∈ Tp → Rdb Fz Ow Tp v1 d1 → Rdb Fz Ow Tp (.ref t) (.tuple [d1])
  | tp2 {t : Addr} {v1 v2 : V} {d1 d2 : D} : (t, [v1, v2]) ∈ Tp → Rdb Fz Ow Tp v1 d1 → Rdb Fz Ow Tp v2 d2 → Rdb Fz Ow Tp (.ref t) (.tuple [d1, d2])
  | tp3 {t : Addr} {v1 v2 v3 : V} {d1 d2 d3 : D} : (t, [v1, v2, v3]) ∈ Tp → Rdb Fz Ow Tp v1 d1 → Rdb Fz Ow Tp v2 d2 → Rdb Fz Ow Tp v3 d3 → Rdb Fz Ow Tp (.ref t) (.tuple [d1, d2, d3])
inductive Rdbs (Fz Ow : List (V × D)) (Tp : List (Addr × List V)) : List V → List D → Prop
  | nil : Rdbs Fz Ow Tp [] []
  | cons {v : V} {vs : List V} {d : D} {ds : List D} : Rdb Fz Ow Tp v d → Rdbs Fz Ow Tp vs ds → Rdbs Fz Ow Tp (v :: vs) (d :: ds)

section
variable {H0 H H' : Hp} {M : Option Addr} {pu : Option (Addr × Int)} {Fz Ow Ow' : List (V × D)} {Tp : List (Addr × List V)} {v : V} {d : D}

theorem reps_of_mem {Ow : List (V × D)} {S : List Addr} (h : Reps H S (Ow.map (·.1)) (Ow.map (·.2))) : ∀ {x : V × D}, x ∈ Ow → ∃ T, Rep H T x.1 x.2 ∧ ∀ a ∈ T, a ∈ S := by
  induction Ow generalizing S with
  | nil => intro x z; cases z
  | cons y Ow ih =>
    intro x z
    cases h with
    | cons h1 h2 =>
      rcases List.mem_cons.mp z with rfl | z
      · exact ⟨_, h1, fun a m => List.mem_append_left _ m⟩
      · obtain ⟨T, r, s⟩ := ih h2 z
        exact ⟨T, r, fun a m => List.mem_append_right _ (s a m)⟩
/-- what is readable is read, away from the purse -/
theorem St.rd (h : St H0 M pu Fz Ow Tp H) (r : Rdb Fz Ow Tp v d) : ∃ T, Rep H T v d ∧ ∀ p b, pu = some (p, b) → p ∉ T := by
  obtain ⟨Z, S, h1, h2, h3, h4, h5, h6, h7, h8⟩ := h
  induction r with
  | non => exact ⟨_, .non, fun _ _ _ z => nomatch z⟩
  | bl b => exact ⟨_, .bl b, fun _ _ _ z => nomatch z⟩
  | int i => exact ⟨_, .int i, fun _ _ _ z => nomatch z⟩
  | str x => exact ⟨_, .str x, fun _ _ _ z => nomatch z⟩
  | fz m =>
    obtain ⟨T, r, z⟩ := h2 _ m
    exact ⟨T, r, fun p b e hp => (h7 p b e).2.1 (z p hp)⟩
  | ow m =>
    obtain ⟨T, r, z⟩ := reps_of_mem h3 m
    exact ⟨T, r, fun p b e hp => (h7 p b e).2.2 (z p hp)⟩
  | tp0 m => exact ⟨_, .tup (h6 _ m) .nil, fun _ _ _ z => nomatch z⟩
  | tp1 m _ i1 =>
    obtain ⟨T1, r1, z1⟩ := i1
    refine ⟨_, .tup (h6 _ m) (.cons r1 .nil), fun p b e hp => ?_⟩
    simp at hp
    exact z1 p b e hp
  | tp2 m _ _ i1 i2 =>
    obtain ⟨T1, r1, z1⟩ := i1
    obtain ⟨T2, r2, z2⟩ := i2
    refine ⟨_, .tup (h6 _ m) (.cons r1 (.cons r2 .nil)), fun p b e hp => ?_⟩
    simp at hp
    rcases hp with hp | hp
    · exact z1 p b e hp
    · exact z2 p b e hp
  | tp3 m _ _ _ i1 i2 i3 =>
    obtain ⟨T1, r1, z1⟩ := i1
    obtain ⟨T2, r2, z2⟩ := i2
    obtain ⟨T3, r3, z3⟩ := i3
    refine ⟨_, .tup (h6 _ m) (.cons r1 (.cons r2 (.cons r3 .nil))), fun p b e hp => ?_⟩
    simp at hp
    rcases hp with hp | hp | hp
    · exact z1 p b e hp
    · exact z2 p b e hp
    · exact z3 p b e hp
theorem St.rds (h : St H0 M pu Fz Ow Tp H) {vs : List V} {ds : List D} (r : Rdbs Fz Ow Tp vs ds) : ∃ T, Reps H T vs ds ∧ ∀ p b, pu = some (p, b) → p ∉ T := by
  induction r with
  | nil => exact ⟨_, .nil, fun _ _ _ z => nomatch z⟩
  | cons r _ ih =>
    obtain ⟨T1, r1, z1⟩ := h.rd r
    obtain ⟨T2, r2, z2⟩ := ih
    exact ⟨_, .cons r1 r2, fun p b e hp => (List.mem_append.mp hp).elim (z1 p b e) (z2 p b e)⟩

theorem Reps.pick {x : V × D} (k : Pick x Ow Ow') : ∀ {S : List Addr}, Reps H S (Ow.map (·.1)) (Ow.map (·.2)) → ∃ S1 S2, Rep H S1 x.1 x.2 ∧ Reps H S2 (Ow'.map (·.1)) (Ow'.map (·.2)) ∧ S.Perm (S1 ++ S2) := by
  induction k with
  | hd =>
    intro S h
    cases h with
    | cons h1 h2 => exact ⟨_, _, h1, h2, .refl _⟩
  | @tl y l l' k ih =>
    intro S h
    cases h with
    | @cons Sy T _ _ _ _ h1 h2 =>
      obtain ⟨S1, S2, r1, r2, pm⟩ := ih h2
      refine ⟨S1, Sy ++ S2, r1, .cons h1 r2, ?_⟩
      refine (List.Perm.append_left Sy pm).trans ?_
      rw [← List.append_assoc, ← List.append_assoc]
      exact List.Perm.append_right S2 List.perm_append_comm
/-- an owned tree to the front -/
theorem St.front {x : V × D} (h : St H0 M pu Fz Ow Tp H) (k : Pick x Ow Ow') : St H0 M pu Fz (x :: Ow') Tp H := by
  obtain ⟨Z, S, h1, h2, h3, h4, h5, h6, h7, h8⟩ := h
  obtain ⟨S1, S2, r1, r2, pm⟩ := Reps.pick k h3
  exact ⟨Z, S1 ++ S2, h1, h2, .cons r1 r2, pm.nodup_iff.mp h4, fun a m => h5 a (pm.mem_iff.mpr m), h6, fun p b e => ⟨(h7 p b e).1, (h7 p b e).2.1, fun m => (h7 p b e).2.2 (pm.mem_iff.mpr m)⟩, h8⟩
/-- forget an owned tree -/
theorem St.drop {x : V × D} (h : St H0 M pu Fz (x :: Ow) Tp H) : St H0 M pu Fz Ow Tp H := by
  obtain ⟨Z, S, h1, h2, h3, h4, h5, h6, h7, h8⟩ := h
  cases h3 with
  | cons r1 r2 => exact ⟨Z, _, h1, h2, r2, (List.nodup_append.mp h4).2.1, fun a m => h5 a (List.mem_append_right _ m), h6, fun p b e => ⟨(h7 p b e).1, (h7 p b e).2.1, fun m => (h7 p b e).2.2 (List.mem_append_right _ m)⟩, h8⟩
theorem St.tps {Tp' : List (Addr × List V)} (h : St H0 M pu Fz Ow Tp H) (k : ∀ x ∈ Tp', x ∈ Tp) : St H0 M pu Fz Ow Tp' H := by
  obtain ⟨Z, S, h1, h2, h3, h4, h5, h6, h7, h8⟩ := h
  exact ⟨Z, S, h1, h2, h3, h4, h5, fun x m => h6 x (k x m), h7, h8⟩
theorem St.fzs {Fz' : List (V × D)} (h : St H0 M pu Fz Ow Tp H) (k : ∀ x ∈ Fz', x ∈ Fz) : St H0 M pu Fz' Ow Tp H := by
  obtain ⟨Z, S, h1, h2, h3, h4, h5, h6, h7, h8⟩ := h
  exact ⟨Z, S, h1, fun x m => h2 x (k x m), h3, h4, h5, h6, h7, h8⟩
/-- an owned tree is from now on left as it is -/
theorem St.freeze (h : St H0 M pu Fz ((v, d) :: Ow) Tp H) : St H0 M pu ((v, d) :: Fz) Ow Tp H := by
  obtain ⟨Z, S, h1, h2, h3, h4, h5, h6, h7, h8⟩ := h
  cases h3 with
  | @cons S1 S2 _ _ _ _ r1 r2 =>
    have nd := List.nodup_append.mp h4
    refine ⟨fun a => Z a ∨ a ∈ S1, S2, fun a o e m => ⟨.inl (h1 a o e m).1, (h1 a o e m).2⟩, fun x m => ?_, r2, nd.2.1, fun a m => ⟨?_, (h5 a (List.mem_append_right _ m)).2⟩, h6, fun p b e => ⟨(h7 p b e).1, ?_, fun m => (h7 p b e).2.2 (List.mem_append_right _ m)⟩, fun a z => ?_⟩
    · rcases List.mem_cons.mp m with rfl | m
      · exact ⟨S1, r1, fun a z => .inr z⟩
      · obtain ⟨T, r, z⟩ := h2 x m
        exact ⟨T, r, fun a q => .inl (z a q)⟩
    · rintro (z | z)
      · exact (h5 a (List.mem_append_right _ m)).1 z
      · exact nd.2.2 a z a m rfl
    · rintro (z | z)
      · exact (h7 p b e).2.1 z
      · exact (h7 p b e).2.2 (List.mem_append_left _ z)
    · rcases z with (z | z) | z
      · exact h8 a (.inl z)
      · obtain ⟨xs, q⟩ := Rep.dom d S1 v r1 a z
        exact ⟨_, q⟩
      · exact h8 a (.inr z)
/-- the same trees, otherwise told -/
theorem St.is {d' : D} (h : St H0 M pu Fz ((v, d) :: Ow) Tp H) (e : d = d') : St H0 M pu Fz ((v, d') :: Ow) Tp H := e ▸ h
theorem St.pule {p : Addr} {b c : Int} (h : St H0 M (some (p, b)) Fz Ow Tp H) (e : b ≤ c) : St H0 M (some (p, c)) Fz Ow Tp H := by
  obtain ⟨Z, S, h1, h2, h3, h4, h5, h6, h7, h8⟩ := h
  refine ⟨Z, S, h1, h2, h3, h4, h5, h6, fun q b' e' => ?_, h8⟩
  cases e'
  exact ⟨(h7 p b rfl).1.le e, (h7 p b rfl).2⟩

/-! ### steps of the heap -/
theorem St.step (h : St H0 M pu Fz Ow Tp H) (k : ∀ a o, H a = some o → (∀ p b, pu = some (p, b) → a ≠ p) → H' a = some o) (kp : ∀ p b, pu = some (p, b) → PuAt H' p b) : St H0 M pu Fz Ow Tp H' := by
  obtain ⟨Z, S, h1, h2, h3, h4, h5, h6, h7, h8⟩ := h
  have nt : ∀ t vs, H t = some (.tup vs) → H' t = some (.tup vs) := fun t vs e => k t _ e fun p b q z => by
    subst z
    obtain ⟨x, y, z, e2, _⟩ := (h7 t b q).1
    rw [e] at e2
    cases e2
  refine ⟨Z, S, fun a o e m => ⟨(h1 a o e m).1, k a o (h1 a o e m).2 fun p b q z => (h7 p b q).2.1 (z ▸ (h1 a o e m).1)⟩, fun x m => ?_, ?_, h4, h5, fun x m => nt _ _ (h6 x m), fun p b q => ⟨kp p b q, (h7 p b q).2⟩, fun a z => ?_⟩
  · obtain ⟨T, r, z⟩ := h2 x m
    exact ⟨T, Rep.mono nt _ _ _ r fun a q o e => k a o e fun p b e' y => (h7 p b e').2.1 (y ▸ z a q), z⟩
  · exact Reps.mono nt _ _ _ h3 fun a q o e => k a o e fun p b e' y => (h7 p b e').2.2 (y ▸ q)
  · obtain ⟨o, e⟩ := h8 a z
    cases hp : pu with
    | none => exact ⟨o, k a o e fun p b e' y => by rw [hp] at e'; cases e'⟩
    | some q =>
      by_cases hq : a = q.1
      · subst hq
        obtain ⟨x, y, zz, e2, _⟩ := kp q.1 q.2 (by rw [hp])
        exact ⟨_, e2⟩
      · exact ⟨o, k a o e fun p b e' y => hq (by rw [hp] at e'; cases e'; exact y)⟩
theorem PuAt.mono {p : Addr} {b : Int} (h : PuAt H p b) (k : ∀ o, H p = some o → H' p = some o) : PuAt H' p b := by
  obtain ⟨x, y, z, e, r⟩ := h
  exact ⟨x, y, z, k _ e, r⟩
/-- all is kept -/
theorem St.same (h : St H0 M pu Fz Ow Tp H) (k : Same H H') : St H0 M pu Fz Ow Tp H' := by
  have h7 := h
  obtain ⟨Z, S, _, _, _, _, _, _, h7, _⟩ := h7
  exact h.step (fun a o e _ => k a o e) fun p b e => (h7 p b e).1.mono (k p)
theorem same_upd {p : Addr} {o : HO} (h : H p = none) : Same H (upd H p o) := fun b x e => by
  rw [upd_ne (ne_of_none e h)]
  exact e
/-- a new tree comes -/
theorem St.new (h : St H0 M pu Fz Ow Tp H) (k : Same H H') (n : New H H' v d) : St H0 M pu Fz ((v, d) :: Ow) Tp H' := by
  obtain ⟨Z, S, h1, h2, h3, h4, h5, h6, h7, h8⟩ := h
  obtain ⟨S1, r, nd, fr⟩ := n
  have nt : ∀ t vs, H t = some (.tup vs) → H' t = some (.tup vs) := fun t vs e => k t _ e
  have out : ∀ a, Z a ∨ M = some a → a ∉ S1 := fun a z m => by
    obtain ⟨o, e⟩ := h8 a z
    rw [fr a m] at e
    cases e
  refine ⟨Z, S1 ++ S, fun a o e m => ⟨(h1 a o e m).1, k a o (h1 a o e m).2⟩, fun x m => ?_, .cons r (Reps.mono nt _ _ _ h3 fun a _ o e => k a o e), ?_, fun a m => ?_, fun x m => nt _ _ (h6 x m), fun p b e => ⟨(h7 p b e).1.mono (k p), (h7 p b e).2.1, fun m => ?_⟩, fun a z => ?_⟩
  · obtain ⟨T, r, z⟩ := h2 x m
    exact ⟨T, Rep.mono nt _ _ _ r fun a _ o e => k a o e, z⟩
  · refine List.nodup_append.mpr ⟨nd, h4, fun a m b m' e => ?_⟩
    subst e
    obtain ⟨xs, q⟩ := Reps.dom _ _ _ h3 a m'
    rw [fr a m] at q
    cases q
  · rcases List.mem_append.mp m with m | m
    · exact ⟨fun z => out a (.inl z) m, fun z => out a (.inr z.symm) m⟩
    · exact h5 a m
  · rcases List.mem_append.mp m with m | m
    · obtain ⟨x, y, z, e2, _⟩ := (h7 p b e).1
      rw [fr p m] at e2
      cases e2
    · exact (h7 p b e).2.2 m
  · obtain ⟨o, e⟩ := h8 a z
    exact ⟨o, k a o e⟩
/-- behind a call that drew from the purse -/
theorem St.newP {p : Addr} {b c : Int} (h : St H0 M (some (p, b)) Fz Ow Tp H) (k : ∀ a o, H a = some o → a ≠ p → H' a = some o) (kp : PuAt H' p c) (n : New H H' v d) : St H0 M (some (p, c)) Fz ((v, d) :: Ow) Tp H' := by
  obtain ⟨Z, S, h1, h2, h3, h4, h5, h6, h7, h8⟩ := h
  obtain ⟨S1, r, nd, fr⟩ := n
  obtain ⟨hp, nz, ns⟩ := h7 p b rfl
  have hpu : ∃ x y z, H p = some (.lst [V.int x, .int y, .int z]) := by
    obtain ⟨x, y, z, e, _⟩ := hp
    exact ⟨x, y, z, e⟩
  have nt : ∀ t vs, H t = some (.tup vs) → H' t = some (.tup vs) := fun t vs e => k t _ e fun z => by
    subst z
    obtain ⟨x, y, z, e2⟩ := hpu
    rw [e] at e2
    cases e2
  have out : ∀ a, Z a ∨ M = some a → a ∉ S1 := fun a z m => by
    obtain ⟨o, e⟩ := h8 a z
    rw [fr a m] at e
    cases e
  refine ⟨Z, S1 ++ S, fun a o e m => ⟨(h1 a o e m).1, k a o (h1 a o e m).2 fun z => nz (z ▸ (h1 a o e m).1)⟩, fun x m => ?_, .cons r (Reps.mono nt _ _ _ h3 fun a m o e => k a o e fun z => ns (z ▸ m)), ?_, fun a m => ?_, fun x m => nt _ _ (h6 x m), fun q b' e => ?_, fun a z => ?_⟩
  · obtain ⟨T, r, z⟩ := h2 x m
    exact ⟨T, Rep.mono nt _ _ _ r fun a q o e => k a o e fun y => nz (y ▸ z a q), z⟩
  · refine List.nodup_append.mpr ⟨nd, h4, fun a m b m' e => ?_⟩
    subst e
    obtain ⟨xs, q⟩ := Reps.dom _ _ _ h3 a m'
    rw [fr a m] at q
    cases q
  · rcases List.mem_append.mp m with m | m
    · exact ⟨fun z => out a (.inl z) m, fun z => out a (.inr z.symm) m⟩
    · exact h5 a m
  · cases e
    refine ⟨kp, nz, fun m => ?_⟩
    rcases List.mem_append.mp m with m | m
    · obtain ⟨x, y, z, e2⟩ := hpu
      rw [fr p m] at e2
      cases e2
    · exact ns m
  · obtain ⟨o, e⟩ := h8 a z
    by_cases hq : a = p
    · subst hq
      obtain ⟨x, y, zz, e2, _⟩ := kp
      exact ⟨_, e2⟩
    · exact ⟨o, k a o e hq⟩
/-- a tree that is an int, a truth value, None, a text -/
theorem St.int {i : Int} (h : St H0 M pu Fz ((v, .int i) :: Ow) Tp H) : v = .int i ∧ St H0 M pu Fz Ow Tp H := by
  refine ⟨?_, h.drop⟩
  obtain ⟨Z, S, h1, h2, h3, h4, h5, h6, h7, h8⟩ := h
  cases h3 with
  | cons r _ => cases r; rfl
theorem St.bool {b : Bool} (h : St H0 M pu Fz ((v, .bool b) :: Ow) Tp H) : v = .bl b ∧ St H0 M pu Fz Ow Tp H := by
  refine ⟨?_, h.drop⟩
  obtain ⟨Z, S, h1, h2, h3, h4, h5, h6, h7, h8⟩ := h
  cases h3 with
  | cons r _ => cases r; rfl
theorem St.none (h : St H0 M pu Fz ((v, .none) :: Ow) Tp H) : v = .non ∧ St H0 M pu Fz Ow Tp H := by
  refine ⟨?_, h.drop⟩
  obtain ⟨Z, S, h1, h2, h3, h4, h5, h6, h7, h8⟩ := h
  cases h3 with
  | cons r _ => cases r; rfl
theorem St.str {x : Str} (h : St H0 M pu Fz ((v, .str x) :: Ow) Tp H) : v = .str x ∧ St H0 M pu Fz Ow Tp H := by
  refine ⟨?_, h.drop⟩
  obtain ⟨Z, S, h1, h2, h3, h4, h5, h6, h7, h8⟩ := h
  cases h3 with
  | cons r _ => cases r; rfl
/-- an owned tuple is opened -/
theorem St.tup {ds : List D} (h : St H0 M pu Fz ((v, .tuple ds) :: Ow) Tp H) : ∃ t vs, v = .ref t ∧ vs.length = ds.length ∧ St H0 M pu Fz (vs.zip ds ++ Ow) ((t, vs) :: Tp) H := by
  obtain ⟨Z, S, h1, h2, h3, h4, h5, h6, h7, h8⟩ := h
  cases h3 with
  | cons r r' =>
    cases r with
    | @tup a vs S1 _ e rs =>
      have el := rs.length
      refine ⟨a, vs, rfl, el, Z, _, h1, h2, ?_, h4, h5, fun x m => ?_, h7, h8⟩
      · rw [List.map_append, List.map_append, List.map_fst_zip (by omega), List.map_snd_zip (by omega)]
        exact rs.append r'
      · rcases List.mem_cons.mp m with rfl | m
        · exact e
        · exact h6 x m
theorem St.tup2 {d1 d2 : D} (h : St H0 M pu Fz ((v, .tuple [d1, d2]) :: Ow) Tp H) : ∃ t v1 v2, v = .ref t ∧ St H0 M pu Fz ((v1, d1) :: (v2, d2) :: Ow) ((t, [v1, v2]) :: Tp) H := by
  obtain ⟨t, vs, rfl, e, h'⟩ := h.tup
  match vs, e, h' with
  | [v1, v2], _, h' => exact ⟨t, v1, v2, rfl, h'⟩
theorem St.tup3 {d1 d2 d3 : D} (h : St H0 M pu Fz ((v, .tuple [d1, d2, d3]) :: Ow) Tp H) : ∃ t v1 v2 v3, v = .ref t ∧ St H0 M pu Fz ((v1, d1) :: (v2, d2) :: (v3, d3) :: Ow) ((t, [v1, v2, v3]) :: Tp) H := by
  obtain ⟨t, vs, rfl, e, h'⟩ := h.tup
  match vs, e, h' with
  | [v1, v2, v3], _, h' => exact ⟨t, v1, v2, v3, rfl, h'⟩
/-- a frozen tuple is opened -/
theorem St.ftup {ds : List D} (h : St H0 M pu Fz Ow Tp H) (m : (v, .tuple ds) ∈ Fz) : ∃ t vs, v = .ref t ∧ vs.length = ds.length ∧ St H0 M pu (vs.zip ds ++ Fz) Ow ((t, vs) :: Tp) H := by
  obtain ⟨Z, S, h1, h2, h3, h4, h5, h6, h7, h8⟩ := h
  obtain ⟨T, r, z⟩ := h2 _ m
  cases r with
  | @tup a vs S1 _ e rs =>
    have el := rs.length
    refine ⟨a, vs, rfl, el, Z, S, h1, fun x m => ?_, h3, h4, h5, fun x m => ?_, h7, h8⟩
    · rcases List.mem_append.mp m with m | m
      · have rs' : Reps H T ((vs.zip ds).map (·.1)) ((vs.zip ds).map (·.2)) := by
          rw [List.map_fst_zip (by omega), List.map_snd_zip (by omega)]
          exact rs
        obtain ⟨T', r, z'⟩ := reps_of_mem rs' m
        exact ⟨T', r, fun a q => z a (z' a q)⟩
      · exact h2 x m
    · rcases List.mem_cons.mp m with rfl | m
      · exact e
      · exact h6 x m
theorem St.ftup2 {d1 d2 : D} (h : St H0 M pu Fz Ow Tp H) (m : (v, .tuple [d1, d2]) ∈ Fz) : ∃ t v1 v2, v = .ref t ∧ St H0 M pu ((v1, d1) :: (v2, d2) :: Fz) Ow ((t, [v1, v2]) :: Tp) H := by
  obtain ⟨t, vs, rfl, e, h'⟩ := h.ftup m
  match vs, e, h' with
  | [v1, v2], _, h' => exact ⟨t, v1, v2, rfl, h'⟩
theorem St.ftup3 {d1 d2 d3 : D} (h : St H0 M pu Fz Ow Tp H) (m : (v, .tuple [d1, d2, d3]) ∈ Fz) : ∃ t v1 v2 v3, v = .ref t ∧ St H0 M pu ((v1, d1) :: (v2, d2) :: (v3, d3) :: Fz) Ow ((t, [v1, v2, v3]) :: Tp) H := by
  obtain ⟨t, vs, rfl, e, h'⟩ := h.ftup m
  match vs, e, h' with
  | [v1, v2, v3], _, h' => exact ⟨t, v1, v2, v3, rfl, h'⟩
theorem St.fint {i : Int} (h : St H0 M pu Fz Ow Tp H) (m : (v, .int i) ∈ Fz) : v = .int i := by
  obtain ⟨Z, S, h1, h2, h3, h4, h5, h6, h7, h8⟩ := h
  obtain ⟨T, r, z⟩ := h2 _ m
  cases r
  rfl
/-- the heap at a tuple that is known -/
theorem St.tp {t : Addr} {vs : List V} (h : St H0 M pu Fz Ow Tp H) (m : (t, vs) ∈ Tp) : H t = some (.tup vs) := by
  obtain ⟨Z, S, h1, h2, h3, h4, h5, h6, h7, h8⟩ := h
  exact h6 _ m
theorem St.purse {p : Addr} {b : Int} (h : St H0 M (some (p, b)) Fz Ow Tp H) : PuAt H p b := by
  obtain ⟨Z, S, h1, h2, h3, h4, h5, h6, h7, h8⟩ := h
  exact (h7 p b rfl).1
/-- the heap at a readable list -/
theorem St.rlst {ds : List D} (h : St H0 M pu Fz Ow Tp H) (r : Rdb Fz Ow Tp v (.list ds)) : ∃ a vs T, v = .ref a ∧ H a = some (.lst vs) ∧ Reps H T vs ds := by
  obtain ⟨T, r, _⟩ := h.rd r
  cases r with
  | lst e rs => exact ⟨_, _, _, rfl, e, rs⟩
theorem St.rints {ns : List Int} (h : St H0 M pu Fz Ow Tp H) (r : Rdb Fz Ow Tp v (dI ns)) : ∃ a, v = .ref a ∧ H a = some (.lst (ns.map V.int)) := by
  obtain ⟨a, vs, T, rfl, e, rs⟩ := h.rlst r
  obtain ⟨_, rfl⟩ := Reps.intsInv rs
  exact ⟨a, rfl, e⟩
theorem St.rtup {ds : List D} (h : St H0 M pu Fz Ow Tp H) (r : Rdb Fz Ow Tp v (.tuple ds)) : ∃ a vs T, v = .ref a ∧ H a = some (.tup vs) ∧ Reps H T vs ds := by
  obtain ⟨T, r, _⟩ := h.rd r
  cases r with
  | tup e rs => exact ⟨_, _, _, rfl, e, rs⟩
/-- the items of a frozen list -/
theorem St.flst {ds : List D} (h : St H0 M pu Fz Ow Tp H) (m : (v, .list ds) ∈ Fz) : ∃ a vs, v = .ref a ∧ H a = some (.lst vs) ∧ vs.length = ds.length ∧ St H0 M pu (vs.zip ds ++ Fz) Ow Tp H := by
  obtain ⟨Z, S, h1, h2, h3, h4, h5, h6, h7, h8⟩ := h
  obtain ⟨T, r, z⟩ := h2 _ m
  cases r with
  | @lst a vs S1 _ e rs =>
    have el := rs.length
    refine ⟨a, vs, rfl, e, el, Z, S, h1, fun x m => ?_, h3, h4, h5, h6, h7, h8⟩
    rcases List.mem_append.mp m with m | m
    · have rs' : Reps H S1 ((vs.zip ds).map (·.1)) ((vs.zip ds).map (·.2)) := by
        rw [List.map_fst_zip (by omega), List.map_snd_zip (by omega)]
        exact rs
      obtain ⟨T', r, z'⟩ := reps_of_mem rs' m
      exact ⟨T', r, fun a q => z a (List.mem_cons_of_mem _ (z' a q))⟩
    · exact h2 x m

/-! ### building -/
/-- a value taken out of what is owned, as a whole tree -/
inductive Take (Tp : List (Addr × List V)) : List (V × D) → V → D → List (V × D) → Prop
  | non {Ow : List (V × D)} : Take Tp Ow .non .none Ow
  | bl {Ow : List (V × D)} (b : Bool) : Take Tp Ow (.bl b) (.bool b) Ow
  | int {Ow : List (V × D)} (i : Int) : Take Tp Ow (.int i) (.int i) Ow
  | str {Ow : List (V × D)} (x : Str) : Take Tp Ow (.str x) (.str x) Ow
  | own {Ow Ow' : List (V × D)} {v : V} {d : D} : Pick (v, d) Ow Ow' → Take Tp Ow v d Ow'
  | tp0 {Ow : List (V × D)} {t : Addr} : (t, []) ∈ Tp → Take Tp Ow (.ref t) (.tuple []) Ow
  | tp1 {Ow Ow1 : List (V × D)} {t : Addr} {v1 : V} {d1 : D} : (t, [v1]) ∈ Tp → Take Tp Ow v1 d1 Ow1 → Take Tp Ow (.ref t) (.tuple [d1]) Ow1
  | tp2 {Ow Ow1 Ow2 : List (V × D)} {t : Addr} {v1 v2 : V} {d1 d2 : D} : (t, [v1, v2]) ∈ Tp → Take Tp Ow v1 d1 Ow1 → Take Tp Ow1 v2 d2 Ow2 → Take Tp Ow (.ref t) (.tuple [d1, d2]) Ow2
  | tp3 {Ow Ow1 Ow2 Ow3 : List (V × D)} {t : Addr} {v1 v2 v3 : V} {d1 d2 d3 : D} : (t, [v1, v2, v3]) ∈ Tp → Take Tp Ow v1 d1 Ow1 → Take Tp Ow1 v2 d2 Ow2 → Take Tp Ow2 v3 d3 Ow3 → Take Tp Ow (.ref t) (.tuple [d1, d2, d3]) Ow3
inductive Takes (Tp : List (Addr × List V)) : List (V × D) → List V → List D → List (V × D) → Prop
  | nil {Ow : List (V × D)} : Takes Tp Ow [] [] Ow
  | cons {Ow Ow1 Ow2 : List (V × D)} {v : V} {vs : List V} {d : D} {ds : List D} : Take Tp Ow v d Ow1 → Takes Tp Ow1 vs ds Ow2 → Takes Tp Ow (v :: vs) (d :: ds) Ow2
theorem Take.reps (hT : ∀ x ∈ Tp, H x.1 = some (.tup x.2)) (k : Take Tp Ow v d Ow') : ∀ {S : List Addr}, Reps H S (Ow.map (·.1)) (Ow.map (·.2)) → ∃ S1 S2, Rep H S1 v d ∧ Reps H S2 (Ow'.map (·.1)) (Ow'.map (·.2)) ∧ S.Perm (S1 ++ S2) := by
  induction k with
  | non => exact fun h => ⟨_, _, .non, h, .refl _⟩
  | bl b => exact fun h => ⟨_, _, .bl b, h, .refl _⟩
  | int i => exact fun h => ⟨_, _, .int i, h, .refl _⟩
  | str x => exact fun h => ⟨_, _, .str x, h, .refl _⟩
  | own p => exact fun h => Reps.pick p h
  | tp0 m => exact fun h => ⟨_, _, .tup (hT _ m) .nil, h, .refl _⟩
  | tp1 m _ i1 =>
    intro S h
    obtain ⟨S1, S2, r1, r2, p1⟩ := i1 h
    refine ⟨_, _, .tup (hT _ m) (.cons r1 .nil), r2, ?_⟩
    rw [List.append_nil]
    exact p1
  | tp2 m _ _ i1 i2 =>
    intro S h
    obtain ⟨S1, S2, r1, r2, p1⟩ := i1 h
    obtain ⟨S3, S4, r3, r4, p2⟩ := i2 r2
    refine ⟨_, _, .tup (hT _ m) (.cons r1 (.cons r3 .nil)), r4, ?_⟩
    rw [List.append_nil, List.append_assoc]
    exact p1.trans (List.Perm.append_left _ p2)
  | tp3 m _ _ _ i1 i2 i3 =>
    intro S h
    obtain ⟨S1, S2, r1, r2, p1⟩ := i1 h
    obtain ⟨S3, S4, r3, r4, p2⟩ := i2 r2
    obtain ⟨S5, S6, r5, r6, p3⟩ := i3 r4
    refine ⟨_, _, .tup (hT _ m) (.cons r1 (.cons r3 (.cons r5 .nil))), r6, ?_⟩
    rw [List.append_nil, List.append_assoc, List.append_assoc]
    exact p1.trans (List.Perm.append_left _ (p2.trans (List.Perm.append_left _ p3)))
theorem Takes.reps {vs : List V} {ds : List D} (hT : ∀ x ∈ Tp, H x.1 = some (.tup x.2)) (k : Takes Tp Ow vs ds Ow') : ∀ {S : List Addr}, Reps H S (Ow.map (·.1)) (Ow.map (·.2)) → ∃ S1 S2, Reps H S1 vs ds ∧ Reps H S2 (Ow'.map (·.1)) (Ow'.map (·.2)) ∧ S.Perm (S1 ++ S2) := by
  induction k with
  | nil => exact fun h => ⟨_, _, .nil, h, .refl _⟩
  | cons k1 _ ih =>
    intro S h
    obtain ⟨S1, S2, r1, r2, p1⟩ := k1.reps hT h
    obtain ⟨S3, S4, r3, r4, p2⟩ := ih r2
    refine ⟨_, _, .cons r1 r3, r4, ?_⟩
    rw [List.append_assoc]
    exact p1.trans (List.Perm.append_left _ p2)
theorem St.take (h : St H0 M pu Fz Ow Tp H) (k : Take Tp Ow v d Ow') : St H0 M pu Fz ((v, d) :: Ow') Tp H := by
  obtain ⟨Z, S, h1, h2, h3, h4, h5, h6, h7, h8⟩ := h
  obtain ⟨S1, S2, r1, r2, pm⟩ := k.reps h6 h3
  exact ⟨Z, S1 ++ S2, h1, h2, .cons r1 r2, pm.nodup_iff.mp h4, fun a m => h5 a (pm.mem_iff.mpr m), h6, fun p b e => ⟨(h7 p b e).1, (h7 p b e).2.1, fun m => (h7 p b e).2.2 (pm.mem_iff.mpr m)⟩, h8⟩
/-- a new tuple -/
theorem St.mkTup {p : Addr} {vs : List V} (h : St H0 M pu Fz Ow Tp H) (hp : H p = Option.none) : St H0 M pu Fz Ow ((p, vs) :: Tp) (upd H p (.tup vs)) := by
  have k := same_upd (o := .tup vs) hp
  obtain ⟨Z, S, h1, h2, h3, h4, h5, h6, h7, h8⟩ := h.same k
  refine ⟨Z, S, h1, h2, h3, h4, h5, fun x m => ?_, h7, h8⟩
  rcases List.mem_cons.mp m with rfl | m
  · exact upd_same
  · exact h6 x m
/-- a new list of things that are taken -/
theorem St.mkLst {p : Addr} {vs : List V} {ds : List D} (h : St H0 M pu Fz Ow Tp H) (hp : H p = Option.none) (t : Takes Tp Ow vs ds Ow') : St H0 M pu Fz ((.ref p, .list ds) :: Ow') Tp (upd H p (.lst vs)) := by
  obtain ⟨Z0, S0, g1, g2, g3, g4, g5, g6, g7, g8⟩ := h
  have pS0 : p ∉ S0 := fun m => by
    obtain ⟨xs, q⟩ := Reps.dom _ _ _ g3 p m
    rw [hp] at q
    cases q
  have h : St H0 M pu Fz Ow Tp H := ⟨Z0, S0, g1, g2, g3, g4, g5, g6, g7, g8⟩
  have k := same_upd (o := .lst vs) hp
  have nz : ∀ a, Z0 a ∨ M = some a → a ≠ p := fun a z e => by
    obtain ⟨o, q⟩ := g8 a z
    rw [e, hp] at q
    cases q
  obtain ⟨S1, S2, r1, r2, pm⟩ := t.reps g6 g3
  have k1 : ∀ a ∈ S1, ∀ o, H a = some o → upd H p (.lst vs) a = some o := fun a m o e => k a o e
  refine ⟨Z0, (p :: S1) ++ S2, fun a o e m => ⟨(g1 a o e m).1, k a o (g1 a o e m).2⟩, fun x m => ?_, .cons (.lst upd_same (Reps.mono (fun t xs e => k t _ e) _ _ _ r1 k1)) (Reps.mono (fun t xs e => k t _ e) _ _ _ r2 fun a m o e => k a o e), ?_, fun a m => ?_, fun x m => k _ _ (g6 x m), fun q b e => ⟨(g7 q b e).1.mono (k q), (g7 q b e).2.1, fun m => ?_⟩, fun a z => ?_⟩
  · obtain ⟨T, r, z⟩ := g2 x m
    exact ⟨T, Rep.mono (fun t xs e => k t _ e) _ _ _ r fun a _ o e => k a o e, z⟩
  · rw [List.cons_append]
    exact List.nodup_cons.mpr ⟨fun m => pS0 (pm.mem_iff.mpr m), pm.nodup_iff.mp g4⟩
  · rcases List.mem_cons.mp (List.cons_append ▸ m) with rfl | m
    · exact ⟨fun z => nz a (.inl z) rfl, fun z => nz a (.inr z.symm) rfl⟩
    · exact g5 a (pm.mem_iff.mpr m)
  · rcases List.mem_cons.mp (List.cons_append ▸ m) with rfl | m
    · obtain ⟨x, y, z, e2, _⟩ := (g7 q b e).1
      rw [hp] at e2
      cases e2
    · exact (g7 q b e).2.2 (pm.mem_iff.mpr m)
  · obtain ⟨o, e⟩ := g8 a z
    exact ⟨o, k a o e⟩
/-- a new list of ints -/
theorem St.mkInts {p : Addr} {ns : List Int} (h : St H0 M pu Fz Ow Tp H) (hp : H p = Option.none) : St H0 M pu Fz ((.ref p, dI ns) :: Ow) Tp (upd H p (.lst (ns.map V.int))) :=
  h.new (same_upd hp) ⟨[p], .lst upd_same (Reps.intsR ns), by simp, fun a m => by simp at m; rw [m]; exact hp⟩

/-! ### an owned list is changed -/
/-- the list at the front: its items are exchanged for others that are taken -/
theorem St.put {l : Addr} {ds es : List D} (h : St H0 M pu Fz ((.ref l, .list ds) :: Ow) Tp H)
    : ∃ vs, H l = some (.lst vs) ∧ vs.length = ds.length ∧ ∀ us, Takes Tp (vs.zip ds ++ Ow) us es Ow' → St H0 M pu Fz ((.ref l, .list es) :: Ow') Tp (upd H l (.lst us)) := by
  obtain ⟨Z, S, h1, h2, h3, h4, h5, h6, h7, h8⟩ := h
  cases h3 with
  | @cons Sl S' _ _ _ _ r r' =>
    cases r with
    | @lst _ vs Sd _ e rs =>
      have el := rs.length
      refine ⟨vs, e, el, fun us t => ?_⟩
      have q : Reps H (Sd ++ S') ((vs.zip ds ++ Ow).map (·.1)) ((vs.zip ds ++ Ow).map (·.2)) := by
        rw [List.map_append, List.map_append, List.map_fst_zip (by omega), List.map_snd_zip (by omega)]
        exact rs.append r'
      obtain ⟨S1, S2, r1, r2, pm⟩ := t.reps h6 q
      rw [List.cons_append] at h4
      have nd := List.nodup_cons.mp h4
      have nl1 : ∀ a ∈ S1 ++ S2, a ≠ l := fun a m z => nd.1 (z ▸ pm.mem_iff.mpr m)
      have nlz : ¬ Z l := (h5 l (by simp)).1
      have nlt : ∀ t xs, H t = some (.tup xs) → t ≠ l := fun t xs et z => by
        rw [z, e] at et
        cases et
      have kt : ∀ t xs, H t = some (.tup xs) → upd H l (.lst us) t = some (.tup xs) := fun t xs et => by
        rw [upd_ne (nlt t xs et)]
        exact et
      refine ⟨Z, (l :: S1) ++ S2, fun a o ea m => ⟨(h1 a o ea m).1, ?_⟩, fun x m => ?_, .cons (.lst upd_same (Reps.mono kt _ _ _ r1 fun a m o ea => ?_)) (Reps.mono kt _ _ _ r2 fun a m o ea => ?_), ?_, fun a m => ?_, fun x m => kt _ _ (h6 x m), fun p b ep => ?_, fun a z => ?_⟩
      · rw [upd_ne (show a ≠ l from fun z => nlz (z ▸ (h1 a o ea m).1))]
        exact (h1 a o ea m).2
      · obtain ⟨T, r, z⟩ := h2 x m
        refine ⟨T, Rep.mono kt _ _ _ r fun a q o ea => ?_, z⟩
        rw [upd_ne (show a ≠ l from fun y => nlz (y ▸ z a q))]
        exact ea
      · rw [upd_ne (nl1 a (List.mem_append_left _ m))]
        exact ea
      · rw [upd_ne (nl1 a (List.mem_append_right _ m))]
        exact ea
      · rw [List.cons_append]
        exact List.nodup_cons.mpr ⟨fun m => nd.1 (pm.mem_iff.mpr m), pm.nodup_iff.mp nd.2⟩
      · rcases List.mem_cons.mp (List.cons_append ▸ m) with rfl | m
        · exact h5 a (by simp)
        · exact h5 a (by rw [List.cons_append]; exact List.mem_cons_of_mem _ (pm.mem_iff.mpr m))
      · have npl : p ≠ l := fun z => (h7 p b ep).2.2 (by rw [z]; simp)
        refine ⟨(h7 p b ep).1.mono fun o eo => by rw [upd_ne npl]; exact eo, (h7 p b ep).2.1, fun m => ?_⟩
        rcases List.mem_cons.mp (List.cons_append ▸ m) with z | m
        · exact npl z
        · exact (h7 p b ep).2.2 (by rw [List.cons_append]; exact List.mem_cons_of_mem _ (pm.mem_iff.mpr m))
      · by_cases hl : a = l
        · exact ⟨_, by rw [hl]; exact upd_same⟩
        · obtain ⟨o, ea⟩ := h8 a z
          exact ⟨o, by rw [upd_ne hl]; exact ea⟩
theorem Takes.intsT {Tp : List (Addr × List V)} {Ow : List (V × D)} : ∀ (ns : List Int), Takes Tp Ow (ns.map V.int) (ns.map PyData.int) Ow
  | [] => .nil
  | n :: ns => .cons (.int n) (Takes.intsT ns)
/-- an owned list of ints -/
theorem St.putInts {l : Addr} {ns : List Int} (h : St H0 M pu Fz ((.ref l, dI ns) :: Ow) Tp H) : H l = some (.lst (ns.map V.int)) ∧ ∀ ms : List Int, St H0 M pu Fz ((.ref l, dI ms) :: Ow) Tp (upd H l (.lst (ms.map V.int))) := by
  obtain ⟨a, e0, e⟩ := h.rints (.ow List.mem_cons_self)
  cases e0
  refine ⟨e, fun ms => ?_⟩
  obtain ⟨vs, e1, el, k⟩ := h.put (es := ms.map PyData.int) (Ow' := (ns.map V.int).zip (ns.map PyData.int) ++ Ow)
  rw [e] at e1
  cases e1
  have q := k (ms.map V.int) (Takes.intsT ms)
  -- the old ints are dropped
  have dropN : ∀ (xs : List Int) {Ow : List (V × D)} {x : V × D} {H : Hp}, St H0 M pu Fz (x :: ((xs.map V.int).zip (xs.map PyData.int) ++ Ow)) Tp H → St H0 M pu Fz (x :: Ow) Tp H := by
    intro xs
    induction xs with
    | nil => exact fun h => h
    | cons y ys ih => exact fun h => ih ((h.front (.tl .hd)).drop)
  exact dropN ns q
/-- append -/
theorem St.app {l : Addr} {ds : List D} (h : St H0 M pu Fz ((.ref l, .list ds) :: Ow) Tp H) : ∃ vs, H l = some (.lst vs) ∧ vs.length = ds.length ∧ ∀ v d Ow', Take Tp Ow v d Ow' → St H0 M pu Fz ((.ref l, .list (ds ++ [d])) :: Ow') Tp (upd H l (.lst (vs ++ [v]))) := by
  obtain ⟨Z, S, h1, h2, h3, h4, h5, h6, h7, h8⟩ := id h
  cases h3 with
  | @cons Sl S' _ _ _ _ r r' =>
    cases r with
    | @lst _ vs Sd _ e rs =>
      have el := rs.length
      refine ⟨vs, e, el, fun v d Ow' t => ?_⟩
      obtain ⟨vs', e', el', k⟩ := h.put (es := ds ++ [d]) (Ow' := Ow')
      rw [e] at e'
      cases e'
      refine k _ ?_
      have all : ∀ (vs : List V) (ds : List D), vs.length = ds.length → Takes Tp (vs.zip ds ++ Ow) (vs ++ [v]) (ds ++ [d]) Ow' := by
        intro vs
        induction vs with
        | nil =>
          intro ds e
          match ds, e with
          | [], _ => exact .cons t .nil
        | cons y ys ih =>
          intro ds e
          match ds, e with
          | x :: xs, e => exact .cons (.own .hd) (ih xs (by simpa using e))
      exact all vs ds el
/-- an item of a frozen list -/
theorem St.fget {ds : List D} {i : Nat} (h : St H0 M pu Fz Ow Tp H) (m : (v, .list ds) ∈ Fz) (e : ds[i]? = some d) : ∃ a vs w, v = .ref a ∧ H a = some (.lst vs) ∧ vs.length = ds.length ∧ vs[i]? = some w ∧ St H0 M pu ((w, d) :: Fz) Ow Tp H := by
  obtain ⟨Z, S, h1, h2, h3, h4, h5, h6, h7, h8⟩ := h
  obtain ⟨T, r, z⟩ := h2 _ m
  cases r with
  | @lst a vs S1 _ ea rs =>
    obtain ⟨w, T', ew, r', z'⟩ := rs.get e
    refine ⟨a, vs, w, rfl, ea, rs.length, ew, Z, S, h1, fun x m => ?_, h3, h4, h5, h6, h7, h8⟩
    rcases List.mem_cons.mp m with rfl | m
    · exact ⟨T', r', fun a q => z a (List.mem_cons_of_mem _ (z' a q))⟩
    · exact h2 x m
mutual
/-- data without a list -/
def nolist : D → Bool
  | .list _ => false
  | .tuple ds => nolists ds
  | .dict _ => false
  | _ => true
def nolists : List D → Bool
  | [] => true
  | d :: ds => nolist d && nolists ds
end
mutual
theorem Rep.nolist : ∀ (d : D) (S : List Addr) (v : V), Rep H S v d → G.nolist d = true → S = []
  | .none, _, _, h, _ => by cases h; rfl
  | .bool b, _, _, h, _ => by cases h; rfl
  | .int i, _, _, h, _ => by cases h; rfl
  | .str x, _, _, h, _ => by cases h; rfl
  | .list ds, _, _, _, e => by simp [G.nolist] at e
  | .tuple ds, _, _, h, e => by
    cases h with
    | tup _ h2 => exact Reps.nolist ds _ _ h2 (by simpa [G.nolist] using e)
  | .dict _, _, _, h, _ => by cases h
theorem Reps.nolist : ∀ (ds : List D) (S : List Addr) (vs : List V), Reps H S vs ds → nolists ds = true → S = []
  | [], _, _, h, _ => by cases h; rfl
  | d :: ds, _, _, h, e => by
    cases h with
    | cons h1 h2 =>
      rw [nolists, Bool.and_eq_true] at e
      rw [Rep.nolist d _ _ h1 e.1, Reps.nolist ds _ _ h2 e.2]
      rfl
end
/-- frozen data without a list may be taken for owned -/
theorem St.unfreeze (h : St H0 M pu Fz Ow Tp H) (m : (v, d) ∈ Fz) (e : nolist d = true) : St H0 M pu Fz ((v, d) :: Ow) Tp H := by
  obtain ⟨Z, S, h1, h2, h3, h4, h5, h6, h7, h8⟩ := h
  obtain ⟨T, r, z⟩ := h2 _ m
  obtain rfl := Rep.nolist _ _ _ r e
  exact ⟨Z, S, h1, h2, .cons (S := []) r h3, h4, h5, h6, h7, h8⟩
/-- written data: what is made, item by item -/
def Lit (t : TE) (d : D) : Prop := ∀ (σ : L2.St) (H : Hp) (Q : VK) (H0 : Hp) (M : Option Addr) (pu : Option (Addr × Int)) (Fz Ow : List (V × D)) (Tp : List (Addr × List V)), St H0 M pu Fz Ow Tp H → (∀ v H', St H0 M pu Fz ((v, d) :: Ow) Tp H' → Q v H') → t σ H Q
def LitA (t : TA) (ds : List D) : Prop := ∀ (σ : L2.St) (H : Hp) (Q : List V → Hp → Prop) (H0 : Hp) (M : Option Addr) (pu : Option (Addr × Int)) (Fz Ow : List (V × D)) (Tp : List (Addr × List V)), St H0 M pu Fz Ow Tp H → (∀ vs H', vs.length = ds.length → St H0 M pu Fz ((vs.zip ds).reverse ++ Ow) Tp H' → Q vs H') → t σ H Q
theorem lit_int {i : Int} : Lit (tC (.int i)) (.int i) := fun _ H _ _ _ _ _ _ _ h k => k _ _ (h.take (.int i))
theorem lit_str {x : Str} : Lit (tC (.str x)) (.str x) := fun _ H _ _ _ _ _ _ _ h k => k _ _ (h.take (.str x))
theorem lit_bool {b : Bool} : Lit (tC (.bl b)) (.bool b) := fun _ H _ _ _ _ _ _ _ h k => k _ _ (h.take (.bl b))
theorem lit_none : Lit (tC .non) .none := fun _ H _ _ _ _ _ _ _ h k => k _ _ (h.take .non)
theorem litA_nil : LitA tNil [] := fun _ _ _ _ _ _ _ _ _ h k => k [] _ rfl h
theorem litA_cons {t : TE} {ts : TA} {d : D} {ds : List D} (h1 : Lit t d) (h2 : LitA ts ds) : LitA (tCons t ts) (d :: ds) := fun σ H Q H0 M pu Fz Ow Tp h k =>
  h1 σ H _ H0 M pu Fz Ow Tp h fun v H1 k1 => h2 σ H1 _ H0 M pu Fz _ Tp k1 fun vs H2 el k2 => k (v :: vs) H2 (by simp [el]) (by simpa using k2)
theorem takes_rev {Tp : List (Addr × List V)} {Ow : List (V × D)} : ∀ (vs : List V) (ds : List D) (pre : List (V × D)), vs.length = ds.length → Takes Tp (pre.reverse ++ (vs.zip ds) ++ Ow) vs ds (pre.reverse ++ Ow)
  | [], [], pre, _ => by simpa using Takes.nil
  | v :: vs, d :: ds, pre, e => by
    have pk : ∀ (l r : List (V × D)), Pick (v, d) (l ++ (v, d) :: r) (l ++ r) := fun l => by
      induction l with
      | nil => intro r; exact .hd
      | cons x l ih => intro r; exact .tl (ih r)
    have q := takes_rev (Tp := Tp) (Ow := Ow) vs ds pre (by simpa using e)
    refine .cons (Ow1 := pre.reverse ++ vs.zip ds ++ Ow) (.own ?_) q
    have := pk pre.reverse (vs.zip ds ++ Ow)
    simpa using this
theorem St.unrev (vs : List V) (ds : List D) (h : St H0 M pu Fz ((vs.zip ds).reverse ++ Ow) Tp H) : St H0 M pu Fz (vs.zip ds ++ Ow) Tp H := by
  obtain ⟨Z, S, h1, h2, h3, h4, h5, h6, h7, h8⟩ := h
  have perm : ∀ (l l' : List (V × D)), l.Perm l' → ∀ S, Reps H S (l.map (·.1)) (l.map (·.2)) → ∃ S', Reps H S' (l'.map (·.1)) (l'.map (·.2)) ∧ S.Perm S' := by
    intro l l' pm
    induction pm with
    | nil => exact fun S r => ⟨S, r, .refl _⟩
    | cons x _ ih =>
      intro S r
      cases r with
      | cons r1 r2 =>
        obtain ⟨S', r', p'⟩ := ih _ r2
        exact ⟨_, .cons r1 r', List.Perm.append_left _ p'⟩
    | swap x y l =>
      intro S r
      cases r with
      | @cons Sy _ _ _ _ _ r1 r2 =>
        cases r2 with
        | @cons Sx Sl _ _ _ _ r2 r3 =>
          refine ⟨_, .cons r2 (.cons r1 r3), ?_⟩
          rw [← List.append_assoc, ← List.append_assoc]
          exact List.Perm.append_right _ List.perm_append_comm
    | trans _ _ ih1 ih2 =>
      intro S r
      obtain ⟨S1, r1, p1⟩ := ih1 S r
      obtain ⟨S2, r2, p2⟩ := ih2 S1 r1
      exact ⟨S2, r2, p1.trans p2⟩
  obtain ⟨S', r', pm⟩ := perm _ _ (List.Perm.append_right Ow (List.reverse_perm (vs.zip ds))) S h3
  exact ⟨Z, S', h1, h2, r', pm.nodup_iff.mp h4, fun a m => h5 a (pm.mem_iff.mpr m), h6, fun p b e => ⟨(h7 p b e).1, (h7 p b e).2.1, fun m => (h7 p b e).2.2 (pm.mem_iff.mpr m)⟩, h8⟩
theorem lit_lst {t : TA} {ds : List D} (h1 : LitA t ds) (hl : ds.length ≤ 1000000 := by decide) : Lit (tLst t) (.list ds) := fun σ H Q H0 M pu Fz Ow Tp h k =>
  h1 σ H _ H0 M pu Fz Ow Tp h fun vs H1 el k1 => ⟨by rw [el]; exact Nat.le_trans hl (by decide), fun p hp => k _ _ ((k1.unrev vs ds).mkLst hp (takes_rev vs ds [] el))⟩
theorem lit_tup {t : TA} {ds : List D} (h1 : LitA t ds) (hl : ds.length ≤ 1000000 := by decide) : Lit (tTup t) (.tuple ds) := fun σ H Q H0 M pu Fz Ow Tp h k =>
  h1 σ H _ H0 M pu Fz Ow Tp h fun vs H1 el k1 => ⟨by rw [el]; exact Nat.le_trans hl (by decide), fun p hp => by
    have q := (k1.unrev vs ds).mkTup (vs := vs) hp
    obtain ⟨Z, S, h1, h2, h3, h4, h5, h6, h7, h8⟩ := q
    have h6' := h6 _ List.mem_cons_self
    rw [List.map_append, List.map_append, List.map_fst_zip (by omega), List.map_snd_zip (by omega)] at h3
    obtain ⟨S1, S2, u1, u2, eS, eu, r1, r2⟩ := h3.split
    have e1 : u1 = vs ∧ u2 = Ow.map (·.1) := by
      have l1 := r1.length
      have := List.append_inj eu (by omega)
      exact ⟨this.1.symm, this.2.symm⟩
    obtain ⟨rfl, rfl⟩ := e1
    refine k _ _ ⟨Z, S, h1, h2, ?_, h4, h5, fun x m => h6 x (List.mem_cons_of_mem _ m), h7, h8⟩
    rw [eS]
    exact .cons (.tup h6' r1) r2⟩
theorem rdF {Z : Addr → Prop} (h2 : ∀ x ∈ Fz, ∃ T, Rep H T x.1 x.2 ∧ ∀ a ∈ T, Z a) (h6 : ∀ x ∈ Tp, H x.1 = some (.tup x.2)) (r : Rdb Fz [] Tp v d) : ∃ T, Rep H T v d ∧ ∀ a ∈ T, Z a := by
  induction r with
  | non => exact ⟨_, .non, fun _ z => nomatch z⟩
  | bl b => exact ⟨_, .bl b, fun _ z => nomatch z⟩
  | int i => exact ⟨_, .int i, fun _ z => nomatch z⟩
  | str x => exact ⟨_, .str x, fun _ z => nomatch z⟩
  | fz m => exact h2 _ m
  | ow m => cases m
  | tp0 m => exact ⟨_, .tup (h6 _ m) .nil, fun _ z => nomatch z⟩
  | tp1 m _ i1 =>
    obtain ⟨T1, r1, z1⟩ := i1
    exact ⟨_, .tup (h6 _ m) (.cons r1 .nil), fun a q => z1 a (by simpa using q)⟩
  | tp2 m _ _ i1 i2 =>
    obtain ⟨T1, r1, z1⟩ := i1
    obtain ⟨T2, r2, z2⟩ := i2
    refine ⟨_, .tup (h6 _ m) (.cons r1 (.cons r2 .nil)), fun a q => ?_⟩
    simp at q
    exact q.elim (z1 a) (z2 a)
  | tp3 m _ _ _ i1 i2 i3 =>
    obtain ⟨T1, r1, z1⟩ := i1
    obtain ⟨T2, r2, z2⟩ := i2
    obtain ⟨T3, r3, z3⟩ := i3
    refine ⟨_, .tup (h6 _ m) (.cons r1 (.cons r2 (.cons r3 .nil))), fun a q => ?_⟩
    simp at q
    exact q.elim (z1 a) fun q => q.elim (z2 a) (z3 a)
theorem rdsF {Z : Addr → Prop} {vs : List V} {ds : List D} (h2 : ∀ x ∈ Fz, ∃ T, Rep H T x.1 x.2 ∧ ∀ a ∈ T, Z a) (h6 : ∀ x ∈ Tp, H x.1 = some (.tup x.2)) (r : Rdbs Fz [] Tp vs ds) : ∃ T, Reps H T vs ds ∧ ∀ a ∈ T, Z a := by
  induction r with
  | nil => exact ⟨[], .nil, fun _ z => nomatch z⟩
  | cons r _ ih =>
    obtain ⟨T2, r2, z2⟩ := ih
    obtain ⟨T1, r1, z1⟩ := rdF h2 h6 r
    exact ⟨_, .cons r1 r2, fun a q => (List.mem_append.mp q).elim (z1 a) (z2 a)⟩
/-- a tree of frozen things -/
theorem St.addF (h : St H0 M pu Fz Ow Tp H) (r : Rdb Fz [] Tp v d) : St H0 M pu ((v, d) :: Fz) Ow Tp H := by
  obtain ⟨Z, S, h1, h2, h3, h4, h5, h6, h7, h8⟩ := h
  refine ⟨Z, S, h1, fun x m => ?_, h3, h4, h5, h6, h7, h8⟩
  rcases List.mem_cons.mp m with rfl | m
  · exact rdF h2 h6 r
  · exact h2 x m
/-- a new list of frozen things, frozen itself -/
theorem St.mkLstF {p : Addr} {vs : List V} {ds : List D} (h : St H0 M pu Fz Ow Tp H) (hp : H p = Option.none) (r : Rdbs Fz [] Tp vs ds) : St H0 M pu ((.ref p, .list ds) :: Fz) Ow Tp (upd H p (.lst vs)) := by
  obtain ⟨Z, S, h1, h2, h3, h4, h5, h6, h7, h8⟩ := h
  obtain ⟨T, rs, zT⟩ := rdsF h2 h6 r
  have k := same_upd (o := .lst vs) hp
  have kt : ∀ t xs, H t = some (.tup xs) → upd H p (.lst vs) t = some (.tup xs) := fun t xs e => k t _ e
  have pS : p ∉ S := fun m => by
    obtain ⟨xs, q⟩ := Reps.dom _ _ _ h3 p m
    rw [hp] at q
    cases q
  refine ⟨fun a => Z a ∨ a = p, S, fun a o e m => ⟨.inl (h1 a o e m).1, k a o (h1 a o e m).2⟩, fun x m => ?_, Reps.mono kt _ _ _ h3 fun a _ o e => k a o e, h4, fun a m => ⟨?_, (h5 a m).2⟩, fun x m => kt _ _ (h6 x m), fun q b e => ⟨(h7 q b e).1.mono (k q), ?_, (h7 q b e).2.2⟩, fun a z => ?_⟩
  · rcases List.mem_cons.mp m with rfl | m
    · refine ⟨p :: T, .lst upd_same (Reps.mono kt _ _ _ rs fun a _ o e => k a o e), fun a q => ?_⟩
      rcases List.mem_cons.mp q with rfl | q
      · exact .inr rfl
      · exact .inl (zT a q)
    · obtain ⟨T', r, z⟩ := h2 x m
      exact ⟨T', Rep.mono kt _ _ _ r fun a _ o e => k a o e, fun a q => .inl (z a q)⟩
  · rintro (z | z)
    · exact (h5 a m).1 z
    · exact pS (z ▸ m)
  · rintro (z | z)
    · exact (h7 q b e).2.1 z
    · subst z
      obtain ⟨x, y, z, e2, _⟩ := (h7 q b e).1
      rw [hp] at e2
      cases e2
  · rcases z with (z | z) | z
    · obtain ⟨o, e⟩ := h8 a (.inl z)
      exact ⟨o, k a o e⟩
    · exact ⟨_, by rw [z]; exact upd_same⟩
    · obtain ⟨o, e⟩ := h8 a (.inr z)
      exact ⟨o, k a o e⟩
/-! ### the entry, the end -/
theorem St.enter {S : List Addr} {vs : List V} {ds : List D} (h : Reps H S vs ds) : St H .none .none (vs.zip ds) [] [] H := by
  have el := h.length
  refine ⟨fun a => ∃ o, H a = some o, [], fun a o e _ => ⟨⟨o, e⟩, e⟩, fun x m => ?_, .nil, List.nodup_nil, fun _ z => (nomatch z), fun _ z => (nomatch z), fun _ _ z => (nomatch z), fun a z => ?_⟩
  · have rs' : Reps H S ((vs.zip ds).map (·.1)) ((vs.zip ds).map (·.2)) := by
      rw [List.map_fst_zip (by omega), List.map_snd_zip (by omega)]
      exact h
    obtain ⟨T, r, z⟩ := reps_of_mem rs' m
    refine ⟨T, r, fun a q => ?_⟩
    obtain ⟨xs, e⟩ := Rep.dom _ _ _ r a q
    exact ⟨_, e⟩
  · rcases z with z | z
    · exact z
    · cases z
theorem St.enterP {p : Addr} {b : Int} {S : List Addr} {vs : List V} {ds : List D} (h : Reps H S vs ds) (hp : PuAt H p b) (np : p ∉ S) : St H (some p) (some (p, b)) (vs.zip ds) [] [] H := by
  have el := h.length
  refine ⟨fun a => a ≠ p ∧ ∃ o, H a = some o, [], fun a o e m => ⟨⟨fun z => m (by rw [z]), o, e⟩, e⟩, fun x m => ?_, .nil, List.nodup_nil, fun _ z => (nomatch z), fun _ z => (nomatch z), fun q b' z => ?_, fun a z => ?_⟩
  · have rs' : Reps H S ((vs.zip ds).map (·.1)) ((vs.zip ds).map (·.2)) := by
      rw [List.map_fst_zip (by omega), List.map_snd_zip (by omega)]
      exact h
    obtain ⟨T, r, z⟩ := reps_of_mem rs' m
    refine ⟨T, r, fun a q => ⟨fun e => np (e ▸ z a q), ?_⟩⟩
    obtain ⟨xs, e⟩ := Rep.dom _ _ _ r a q
    exact ⟨_, e⟩
  · cases z
    exact ⟨hp, fun z => z.1 rfl, fun z => (nomatch z)⟩
  · rcases z with z | z
    · exact z.2
    · cases z
      obtain ⟨x, y, z, e, _⟩ := hp
      exact ⟨_, e⟩
theorem St.leave (h : St H0 .none pu Fz ((v, d) :: Ow) Tp H) : Same H0 H ∧ New H0 H v d := by
  obtain ⟨Z, S, h1, h2, h3, h4, h5, h6, h7, h8⟩ := h
  refine ⟨fun a o e => (h1 a o e (by intro z; cases z)).2, ?_⟩
  cases h3 with
  | @cons S1 S2 _ _ _ _ r _ =>
    refine ⟨S1, r, (List.nodup_append.mp h4).1, fun a m => ?_⟩
    cases q : H0 a with
    | none => rfl
    | some o => exact absurd (h1 a o q (by intro z; cases z)).1 (h5 a (List.mem_append_left _ m)).1
theorem St.leaveP {p : Addr} {b c : Int} (h : St H0 (some p) (some (p, b)) Fz ((v, d) :: Ow) Tp H) (hc : b ≤ c) : (∀ a o, H0 a = some o → a ≠ p → H a = some o) ∧ PuAt H p c ∧ New H0 H v d := by
  obtain ⟨Z, S, h1, h2, h3, h4, h5, h6, h7, h8⟩ := h
  refine ⟨fun a o e n => (h1 a o e (by intro z; cases z; exact n rfl)).2, (h7 p b rfl).1.le hc, ?_⟩
  cases h3 with
  | @cons S1 S2 _ _ _ _ r _ =>
    refine ⟨S1, r, (List.nodup_append.mp h4).1, fun a m => ?_⟩
    have h5' := h5 a (List.mem_append_left _ m)
    cases q : H0 a with
    | none => rfl
    | some o => exact absurd (h1 a o q h5'.2).1 h5'.1
end

/-! ### promises -/
/-- what a def makes of trees: W says of the arguments what the result may be -/
abbrev Tw := List D → (D → Prop) → Prop
/-- a def that changes nothing, and whose lists are new -/
def spT (W : Tw) : Sp := fun vs H Q _ => ∃ S ds G, Reps H S vs ds ∧ W ds G ∧ ∀ d v H', G d → Same H H' → New H H' v d → Q v H'
/-- a def that draws at most c times from the purse, its first argument -/
def spP (c : Int) (W : Tw) : Sp := fun vs H Q _ => ∃ p b vs' S ds G, vs = .ref p :: vs' ∧ PuAt H p b ∧ b + c ≤ 2 ^ 100 ∧ Reps H S vs' ds ∧ p ∉ S ∧ W ds G ∧ ∀ d v H', G d → (∀ a o, H a = some o → a ≠ p → H' a = some o) → PuAt H' p (b + c) → New H H' v d → Q v H'

section
variable {H0 H H' : Hp} {M : Option Addr} {pu : Option (Addr × Int)} {Fz Ow Ow' : List (V × D)} {Tp : List (Addr × List V)} {v : V} {d : D} {Q : VK} {E : XK} {W : Tw} {vs : List V} {ds : List D}
theorem St.call (h : St H0 M pu Fz Ow Tp H) (r : Rdbs Fz Ow Tp vs ds) (w : W ds fun d => ∀ v H', St H0 M pu Fz ((v, d) :: Ow) Tp H' → Q v H') : spT W (vs ++ []) H Q E0 := by
  obtain ⟨T, r, _⟩ := h.rds r
  rw [List.append_nil]
  exact ⟨T, ds, _, r, w, fun d v H' k s n => k v H' (h.new s n)⟩
theorem St.callP {p : Addr} {b c : Int} (h : St H0 M (some (p, b)) Fz Ow Tp H) (hb : b + c ≤ 2 ^ 100) (r : Rdbs Fz Ow Tp vs ds) (w : W ds fun d => ∀ v H', St H0 M (some (p, b + c)) Fz ((v, d) :: Ow) Tp H' → Q v H') : spP c W (.ref p :: vs ++ []) H Q E0 := by
  obtain ⟨T, r, n⟩ := h.rds r
  rw [List.append_nil]
  exact ⟨p, b, vs, T, ds, _, rfl, h.purse, hb, r, n p b rfl, w, fun d v H' k s kp n => k v H' (h.newP s kp n)⟩
end
end G
/-! GCall: promises of defs in whose surroundings no repr is under way (guards told), so that repr of lists may be called. -/
namespace G
open PySem PySem.Spec PyProof.Rows L2

/-- no repr is under way -/
abbrev Bare (A : Around) : Prop := A.guards = some []
theorem Bare.deeper {A : Around} (h : Bare A) (env : Env) : Bare (A.deeper env) := h

/-- a def's promise, called where no repr is under way -/
structure FnG (P : Program) (w : World) (K : PySem.W.Frag) (mg : Str → Option Value) (base : Heap) (CX : CXT) (k : Nat) (f : Addr) (fd : FuncData) (ps : List Str) (sp : Sp) : Prop where
  len : ∀ vs H Q E, sp vs H Q E → vs.length = ps.length
  run : ∀ (A : Around) (outer : List Env) (s : Shared) (H : Hp) (args : Args) (us : List Value) (vs : List V) (Q : VK) (E : XK), Bare A → Room k A → Env0 P w K mg base A outer s H → BindsTo s fd args (ps.zip us) → Vals vs us → sp vs H Q E →
    codeAny (model P w) A (.call (.ref f) args) (CR CX outer P w H s Q E) s
section
variable {P : Program} {w : World} {K : PySem.W.Frag} {mg : Str → Option Value} {base : Heap} {CX : CXT} {k j : Nat} {f : Addr} {fd : FuncData} {ps : List Str} {sp : Sp}
theorem FnG.mono (F : FnG P w K mg base CX j f fd ps sp) (h : j ≤ k) : FnG P w K mg base CX k f fd ps sp :=
  ⟨F.len, fun A o s H args us vs Q E hg hr => F.run A o s H args us vs Q E hg (hr.mono h)⟩
theorem FnG.of (F : FnOk P w K mg base CX k f fd ps sp) : FnG P w K mg base CX k f fd ps sp := ⟨F.len, fun A o s H args us vs Q E _ hr => F.run A o s H args us vs Q E hr⟩

/-- a def by its body: as the layer's rule, with the guards told to the body -/
theorem fn_ofG {name qual : Str} {params : Arguments} {body : List Stmt} {scope : Scope} {dV kV doc pm cdv ct oc : Value} {an od : Option Addr} {osl : Array (Option Value)} {N : List Str}
    (lk : K.lookup f = some ⟨oc, od, .func (PySem.W.fnOf name qual params body scope dV kV doc pm an cdv ct), osl⟩) (hcd : PySem.W.codeIn K cdv qual = true) (S : FnScope N ps scope) (len : ∀ vs H Q E, sp vs H Q E → vs.length = ps.length)
    (hb : ∀ (A : Around) (outer : List Env) (s : Shared) (H : Hp) (vs : List V) (Q : VK) (E : XK), Bare (A.deeper (envOfC qual scope s.heap.objs.size f cdv)) → Room k (A.deeper (envOfC qual scope s.heap.objs.size f cdv)) → sp vs H Q E →
      ∃ t, PSs (cxOf CX P w K mg base N qual scope f cdv A outer s H E) body t ∧ t ⟨fun _ H' => Q .non H', Q, fun _ _ => False, fun _ _ => False⟩ (start N vs) H) :
    FnG P w K mg base CX (k + 1) f (PySem.W.fnOf name qual params body scope dV kV doc pm an cdv ct) ps sp := by
  refine ⟨len, fun A outer s H args us vs Q E hg hr e0 bt r q => ?_⟩
  have keep : ∀ b o, base.get? b = some o → s.heap.get? b = some o := fun b o e => (e0.bs b o e).1
  have KX : K.In s.heap := e0.mod.kin.keeps keep
  refine codeAny_call_function hr.depth (KX _ _ lk) rfl S.co S.gen rfl (PySem.W.codeRec_of KX hcd) (bt _ _ _ _ (wpAny_newFunctionEnv_cells S.kind (fun y hy => ?_) fun env he s1 x => ?_))
  · rcases S.par y.1 (List.of_mem_zip (a := y.1) (b := y.2) hy).1 with z | z
    · exact Or.inl z
    · exact Or.inr ⟨z, PySem.W.cellsFrom_some _ _ _ (Or.inl z)⟩
  · subst he
    obtain ⟨t, ht, hq⟩ := hb A outer s H vs Q E (hg.deeper _) (hr.deeper _) q
    refine ⟨(e0.mod.nolimit.keeps keep).keeps x.toInCall.keep, codeAny_func (wpAny_mono (ht.run [] s1 (start N vs) H _ (inv_start S hr.hd e0 (len _ _ _ _ q) r x) hq) (fun fl s' hs => ?_) fun e s' z => z)⟩
    cases fl with
    | next =>
      obtain ⟨_, H', J, z⟩ := hs
      exact ⟨V.non, H', J.os, J.bare, J.base, J.hok, rfl, z⟩
    | ret u =>
      obtain ⟨v, _, H', J, rv, z⟩ := hs
      exact ⟨v, H', J.os, J.bare, J.base, J.hok, rv, z⟩
    | brk => exact hs.elim fun _ z => z.elim fun _ z => z.2.elim
    | cont => exact hs.elim fun _ z => z.elim fun _ z => z.2.elim
/-- .. where no exception leaves the def -/
theorem okG {x qual : Str} {st : Stmt} {N : List Str} (F : Fun K x qual st f fd) (S : FnScope N ps (defScope st)) (len : ∀ vs H Q E, sp vs H Q E → vs.length = ps.length)
    (hb : ∀ (cdv : Value) (A : Around) (outer : List Env) (s : Shared) (H : Hp) (vs : List V) (Q : VK) (E : XK), Bare (A.deeper (envOfC qual (defScope st) s.heap.objs.size f cdv)) → Room k (A.deeper (envOfC qual (defScope st) s.heap.objs.size f cdv)) → sp vs H Q E →
      ∃ t, PSs (cxOf CX0 P w K mg base N qual (defScope st) f cdv A outer s H E).nox (defBody st) t ∧ t ⟨fun _ H' => Q .non H', Q, fun _ _ => False, fun _ _ => False⟩ (start N vs) H) : FnG P w K mg base CX0 (k + 1) f fd ps sp := by
  obtain ⟨oc, od, kV, doc, pm, an, cdv, ct, osl, rfl, lk, hcd⟩ := F.ex
  refine fn_ofG lk hcd S len fun A outer s H vs Q E hg hr q => ?_
  obtain ⟨t, h, z⟩ := hb cdv A outer s H vs Q E hg hr q
  exact ⟨t, h.nox, z⟩
end

/-! ### calls -/
section
variable {X : Cx} {CX : CXT} {k : Nat} {f : Addr} {fd : FuncData} {ps ks : List Str} {sp : Sp} {E : XK} {x : Str} {p pos kpos : Pos} {e : Expr} {es : List Expr} {kws : List Keyword} {t tk : TA}
theorem end_callG {pins : List (Addr × Obj)} {σ : L2.St} {H : Hp} {s : Shared} {Q : VK} (hx : Passes CX X E) (I : Inv X pins σ H s) {r : Result} {s' : Shared} (hq : CR CX X.stack X.prog X.w H s Q E r s') : callEnd (EP X pins σ Q) X.xe r s' := by
  match r, hq with
  | .error e, hq => exact hx pins σ H s e s' I hq
  | .ok (.ret u), hq => exact I.after hq
/-- f(e, ..) of a def of the module, all parameters given by place -/
theorem pe_callG (F : FnG X.prog X.w X.K X.mg X.base CX k f fd ps sp) (hb : Bare X.A) (hr : Room k X.A) (hg : Gl X x) (hm : X.mg x = some (.ref f)) (hk : PySem.W.keepIn X.K (.ref f) = true) (bd : Binds X.K fd ps []) (hx : Passes CX X E)
    (ha : PA X (e :: es) t) (hdb : (x == ("__debug__" : Str)) = false := by decide) (he : starEach (e :: es) X.env = (false, eval e X.env) :: starEach es X.env := by rfl) (hpl : (backTo pos (starEach es X.env)).any (·.1) = false := by rfl) :
    PE X (.Call (.Name x p) (e :: es) [] pos) (tCall sp [] E t) := by
  refine ⟨fun pins s σ H Q I h => wpAny_Call_Name_kw (ld_glob I hg hm (PySem.W.callWith_K (h₀ := X.base) I.ok.mod.kin hk (thn (ha.run pos pins s σ H _ I h) fun us s1 ⟨vs, H1, I1, r, q⟩ => ⟨I1.kIn, ?_⟩) he hpl) hdb)⟩
  have r2 : Vals (vs ++ []) (us ++ []) := by
    rw [List.append_nil, List.append_nil]
    exact r
  refine wpAny_call (codeAny_mono (F.run X.A X.stack s1 H1 ⟨us, []⟩ (us ++ []) (vs ++ []) Q E hb hr I1.env0 (bd s1 us I1.kIn (r2.length.symm.trans (F.len _ _ _ _ q))) r2 q) fun r s' hq => end_callG hx I1 hq)
variable {g : List Value → List Value → List Value} {gV : List V → List V → List V}
theorem run_fnkG {pins : List (Addr × Obj)} {σ : L2.St} {H : Hp} {s : Shared} {Q : VK} {us ws : List Value} {vs zs : List V} (F : FnG X.prog X.w X.K X.mg X.base CX k f fd ps sp) (hg : Bare X.A) (hr : Room k X.A) (hb : KBinds X.K fd ps ks g gV) (hx : Passes CX X E)
    (I : Inv X pins σ H s) (r : Vals vs us) (rz : Vals zs ws) (h : sp (gV vs zs) H Q E) : wpAny (model X.prog X.w) X.A (call (.ref f) us (ks.zip ws)) (EP X pins σ Q) X.xe s := by
  have r2 := hb.rel r rz
  exact wpAny_call (codeAny_mono (F.run X.A X.stack s H ⟨us, ks.zip ws⟩ (g us ws) (gV vs zs) Q E hg hr I.env0 (hb.to s us ws I.kIn (r2.length.symm.trans (F.len _ _ _ _ h))) r2 h) fun r s' hq => end_callG hx I hq)
/-- f(k = v, ..): all parameters given by name -/
theorem pe_callK0G (F : FnG X.prog X.w X.K X.mg X.base CX k f fd ps sp) (hb : Bare X.A) (hr : Room k X.A) (hg : Gl X x) (hm : X.mg x = some (.ref f)) (hk : PySem.W.keepIn X.K (.ref f) = true) (kb : KBinds X.K fd ps ks g gV) (hx : Passes CX X E)
    (hkw : PK X kws tk) (hall : (backToKw pos (keywordEach kws X.env)).all (·.1.isSome) = true := by rfl) (hks : (backToKw pos (keywordEach kws X.env)).filterMap (·.1) = ks := by rfl) (hdb : (x == ("__debug__" : Str)) = false := by decide)
    (hpl : ((backTo pos (starEach [] X.env)).any (·.1) || (backToKw pos (keywordEach kws X.env)).any (·.1.isNone)) = false := by rfl) : PE X (.Call (.Name x p) [] kws pos) (tCallK sp gV E tNil tk) := by
  refine ⟨fun pins s σ H Q I h => wpAny_Call_Name_kw (ld_glob I hg hm (PySem.W.callWith_KW0 (h₀ := X.base) I.ok.mod.kin hk hall (thn (hkw.run pos pins s σ H _ I h) fun ws s1 ⟨zs, H1, I1, rz, q⟩ => ⟨I1.kIn, ?_⟩) hpl) hdb)⟩
  rw [hks]
  exact run_fnkG F hb hr kb hx I1 .nil rz q
end

/-- all parameters by name: f i tells which of the keywords' values is the i-th parameter's -/
def gKw (ix : List Nat) (us ws : List Value) : List Value := match us with
  | [] => ix.filterMap fun i => ws[i]?
  | _ :: _ => []
def gKwV (ix : List Nat) (vs zs : List V) : List V := match vs with
  | [] => ix.filterMap fun i => zs[i]?
  | _ :: _ => []
theorem vals_pick {zs : List V} {ws : List Value} (r : Vals zs ws) : ∀ ix : List Nat, Vals (ix.filterMap fun i => zs[i]?) (ix.filterMap fun i => ws[i]?)
  | [] => .nil
  | i :: ix => by
    cases e : zs[i]? with
    | none =>
      have e2 := r.none_of e
      rw [List.filterMap_cons_none e, List.filterMap_cons_none e2]
      exact vals_pick r ix
    | some v =>
      obtain ⟨u, e2, ru⟩ := r.get e
      rw [List.filterMap_cons_some e, List.filterMap_cons_some e2]
      exact .cons ru (vals_pick r ix)
theorem kb_of {K : PySem.W.Frag} {fd : FuncData} {ps ks : List Str} {ix : List Nat} (h0 : 0 < ps.length) (h : ∀ ws : List Value, (ix.filterMap fun i => ws[i]?).length = ps.length → bindArgs fd ⟨[], ks.zip ws⟩ = pure (ps.zip (ix.filterMap fun i => ws[i]?))) : KBinds K fd ps ks (gKw ix) (gKwV ix) := by
  refine ⟨fun s us ws _ hl => ?_, fun {vs us zs ws} r rz => ?_⟩
  · cases us with
    | nil => exact .of_eq (h ws hl)
    | cons u us =>
      change ([] : List Value).length = ps.length at hl
      simp at hl
      omega
  · cases r with
    | nil => exact vals_pick rz ix
    | cons _ _ => exact .nil

/-! ### the law's call -/
theorem law_callG {P : Program} {w : World} {K : PySem.W.Frag} {mg mb : Str → Option Value} {CX : CXT} {k : Nat} {fa a : Addr} {fd : FuncData} {x : Str} {sp : Sp} {s : Shared} {vs : List Value} {ns : List Int}
    (KX : K.In s.heap) (hns : s.heap.Ns mainGlobals mg) (hb : s.heap.Ns builtinsNs mb) (hbb : ∀ y : Str, y ≠ "__name__" → mb y = bootBuiltins y) (hlim : s.heap.NoLimit) (hg : s.gens = #[])
    (ha : s.heap.get? a = some { cls := .type "list", data := .seq vs.toArray }) (hi : IntsAre vs ns) (hl : ns.length ≤ sizeLine) (hr : Room k callerA)
    (F : ∀ base : Heap, K.In base → base.Ns mainGlobals mg → FnG P w K mg base CX k fa fd [x] sp) (hbind : ∀ (s : Shared) (u : Value), BindsTo s fd ⟨[u], []⟩ [(x, u)])
    (hsp : ∀ H : Hp, Only H → SqL K H a (ns.map V.int) → sp [.ref a] H (fun v _ => v = .bl true) fun _ _ _ => False) (hCX : ∀ H e s', CX [] H s (fun _ _ _ => False) e s' → False) :
    codeAny (model P w) callerA (.call (.ref fa) ⟨[.ref a], []⟩) (fun r s' => r = .ok (.ret (.bool true)) ∧ OldK s.heap s'.heap ∧ s'.os = s.os ∧ AllBare s'.gens) s := by
  have rv : Vals (ns.map V.int) vs := vals_ints hi
  have lenV : vs.length = ns.length := by rw [← rv.length, List.length_map]
  -- for a heap H that tracks the script alone, or nothing
  have main : ∀ H : Hp, Only H → SqL K H a (ns.map V.int) → HOk P w H s.heap → (∀ b, H b ≠ none → b = a) → (H a ≠ none → K.lookup a = none) →
      codeAny (model P w) callerA (.call (.ref fa) ⟨[.ref a], []⟩) (fun r s' => r = .ok (.ret (.bool true)) ∧ OldK s.heap s'.heap ∧ s'.os = s.os ∧ AllBare s'.gens) s := fun H hO hS hok hA hK => by
    have dictless : ∀ {b : Addr} {o : Obj} {es : Array DictEntry} {ep : Nat}, s.heap.get? b = some o → o.data = .dict es ep → H b = none := fun {b o es ep} e d => by
      cases z : H b with
      | none => rfl
      | some u =>
        rw [hA b (by rw [z]; intro q; cases q), ha] at e
        cases e
        cases (show Data.seq vs.toArray _ = Data.dict es ep from d)
    have nsB : ∀ {b : Addr} {m : Str → Option Value}, s.heap.Ns b m → (hidT s.heap H).Ns b m := fun {b m} ⟨o, es, ep, e, d, r⟩ => ⟨o, es, ep, hidT_get e (dictless e d), d, r⟩
    have kinB : K.In (hidT s.heap H) := fun b o e => hidT_get (KX b o e) (by
      cases z : H b with
      | none => rfl
      | some u =>
        have eb := hA b (by rw [z]; intro q; cases q)
        subst eb
        rw [hK (by rw [z]; intro q; cases q)] at e
        cases e)
    obtain ⟨mc, l1, l2⟩ := hlim
    have e0 : Env0 P w K mg (hidT s.heap H) callerA [] s H := ⟨rfl, ⟨kinB, nsB hns, ⟨mb, nsB hb, hbb⟩, ⟨mc, nsB l1, l2⟩⟩, fun b o e => of_hidT e, Nat.le_of_eq (hidT_size _ _), trivial, fun b z => (nomatch (show b ∈ ([] : List Addr) from z)), hok, .of_eq hg⟩
    refine codeAny_mono ((F _ kinB (nsB hns)).run callerA [] s H ⟨[.ref a], []⟩ [.ref a] [.ref a] _ _ rfl hr e0 (hbind s (.ref a)) (.cons rfl .nil) (hsp H hO hS)) fun r s' h => ?_
    match r, h with
    | .error e, h => exact (hCX H e s' h).elim
    | .ok (.ret u), ⟨v, H', os, bare, un, hok', r', q⟩ =>
      have q' : v = .bl true := q
      subst q'
      obtain rfl : u = Value.bool true := r'
      refine ⟨rfl, OldK.of_keep fun b o e => ?_, os, bare⟩
      cases z : H b with
      | none => exact un.keep b o e z (fun m => nomatch (show b ∈ ([] : List Addr) from m)) (fun m => nomatch m)
      | some u =>
        rcases hO b with y | ⟨ob, xs, y⟩
        · rw [z] at y
          cases y
        · have e1 := (hok b _ y).1
          rw [e] at e1
          cases e1
          exact (hok' b _ (un.frzs b _ _ y)).1
  cases hk : K.lookup a with
  | some o =>
    have e := KX a o hk
    rw [ha] at e
    cases e
    exact main (fun _ => none) (fun _ => .inl rfl) (.inr ⟨_, vs.toArray, _, hk, rfl, rfl, rfl, by rw [List.size_toArray, lenV]; exact hl, by simpa using rv⟩) (fun b u z => nomatch z) (fun b z => absurd rfl z) fun z => absurd rfl z
  | none =>
    have at_a : (fun b : Addr => if b = a then some (HO.frz { cls := .type "list", data := .seq vs.toArray } (.lst (ns.map V.int))) else none) a = some (HO.frz { cls := .type "list", data := .seq vs.toArray } (.lst (ns.map V.int))) := if_pos rfl
    have off : ∀ b, b ≠ a → (fun b : Addr => if b = a then some (HO.frz { cls := .type "list", data := .seq vs.toArray } (.lst (ns.map V.int))) else none) b = none := fun b h => if_neg h
    refine main (fun b => if b = a then some (.frz { cls := .type "list", data := .seq vs.toArray } (.lst (ns.map V.int))) else none) (fun b => ?_) (.inl (.inr ⟨_, at_a⟩)) (fun b u z => ?_) (fun b z => ?_) fun _ => hk
    · by_cases h : b = a
      · exact .inr ⟨_, _, by subst h; exact at_a⟩
      · exact .inl (off b h)
    · by_cases h : b = a
      · subst h
        rw [at_a] at z
        cases z
        exact ⟨ha, by rw [List.length_map]; exact hl, vs, _, rv, ha⟩
      · rw [off b h] at z
        cases z
    · exact Classical.byContradiction fun h => z (off b h)
theorem walk_ofG {l : PySem.W.OpenLaw} {n k : Nat} {q : Program} {loose : List Str} {XP : (Str → Option Value) → Heap → Prop} {YP : World → Heap → Prop} {d : DefRec} {K : Params → PySem.W.Frag} {CX : World → CXT} {sp : World → Sp} {x : Str}
    (hn : l.most = some n) (hn2 : n ≤ sizeLine) (hdf : d.params.defaults = []) (hr : Room k callerA) (hY : ∀ (w : World) (h : Heap), YP w h → (K w.params).In h)
    (F : ∀ (w : World) (mg : Str → Option Value) (fa : Addr) (h : Heap), (K w.params).In h → h.Ns mainGlobals mg → mg d.name = some (.ref fa) →
      ∃ fd : FuncData, (∀ (s : Shared) (u : Value), BindsTo s fd ⟨[u], []⟩ [(x, u)]) ∧ ∀ base : Heap, (K w.params).In base → base.Ns mainGlobals mg → FnG l.prog w (K w.params) mg base (CX w) k fa fd [x] (sp w))
    (hsp : ∀ (w : World) (H : Hp) (a : Addr) (ns : List Int), ns.length ≤ n → (∀ z ∈ ns, Builtin.Int.intBits z ≤ 1048576) → Only H → SqL (K w.params) H a (ns.map V.int) → sp w [.ref a] H (fun v _ => v = .bl true) fun _ _ _ => False)
    (hCX : ∀ (w : World) (H : Hp) (s : Shared) (e : Value) (s' : Shared), CX w [] H s (fun _ _ _ => False) e s' → False) : PySem.W.WalkO q loose XP YP l.row.toRowW d [] (fun f vs => PySem.call f vs) :=
  Att.attach_callB hn hdf fun w _ s1 mg mb fa _ _ _ _ a vs ns G Y _ _ _ hmg hobj hints hlen hbits hg => by
    have KX := hY w _ Y
    obtain ⟨fd, hb, hF⟩ := F w mg fa _ KX G.T.g hmg
    exact law_callG KX G.T.g G.T.b G.T.builtins G.T.nolimit hg hobj hints (Nat.le_trans hlen hn2) hr hF hb (fun H hO hS => hsp w H a ns hlen hbits hO hS) fun H e s' => hCX w H s1 e s'

/-! ### operations -/
section
variable {X : Cx}
/-- repr of plain data -/
def rRepr (K : PySem.W.Frag) : List V → Hp → VK → Prop := fun vs H Q => ∃ x d, vs = [x] ∧ Dp K H x d ∧ d.showable = true ∧ d.depth ≤ 60 ∧ d.shown.length ≤ sizeLine ∧ Q (.str d.shown) H
theorem Dp.nodict {K : PySem.W.Frag} {H : Hp} : ∀ (d : D) (x : V), Dp K H x d → d.hasDict = false
  | .none, _, _ => by simp [PyData.hasDict]
  | .bool _, _, _ => by simp [PyData.hasDict]
  | .int _, _, _ => by simp [PyData.hasDict]
  | .str _, _, _ => by simp [PyData.hasDict]
  | .list ds, _, h => by
    cases h with
    | lst _ hs =>
      rw [PyData.hasDict]
      exact all ds _ hs
  | .tuple ds, _, h => by
    cases h with
    | tup _ hs =>
      rw [PyData.hasDict]
      exact all ds _ hs
  | .dict _, _, h => by cases h
where all : ∀ (ds : List D) (vs : List V), DpAll K H vs ds → PyData.hasDictAll ds = false
  | [], _, _ => by simp [PyData.hasDictAll]
  | d :: ds, _, h => by
    cases h with
    | cons h1 h2 =>
      rw [PyData.hasDictAll, Dp.nodict d _ h1, all ds _ h2]
      rfl
theorem cr_repr (hg : Bare X.A) (hu : X.A.units + 64 < cLine) : CallR X (.builtin "repr") (rRepr X.K) := by
  intro pins s σ H xs us Q I r h
  obtain ⟨x, d, rfl, hd, sh, dp, sz, q⟩ := h
  obtain ⟨u, rfl, rx⟩ := vals1 r
  obtain ⟨as, hr⟩ := Dp.reads I d x u hd rx
  have nd := Dp.nodict d x hd
  cases d with
  | none =>
    cases hd
    cases rx
    exact PySem.P.repr_of_none ⟨.str _, H, I.tok _, ⟨_, rfl⟩, q⟩
  | bool b =>
    cases hd
    cases rx
    refine PySem.P.repr_of_bool ⟨.str _, H, I.tok _, ⟨_, rfl⟩, ?_⟩
    cases b <;> exact q
  | int i =>
    cases hd
    obtain ⟨t, rfl⟩ := rx
    refine PySem.P.repr_of_int (by simpa [PyData.showable] using sh) ⟨.str _, H, I.tok _, ⟨_, rfl⟩, q⟩
  | str z =>
    cases hd
    obtain ⟨t, rfl⟩ := rx
    exact PySem.P.repr_of_str ⟨.str _, H, I.tok _, ⟨_, rfl⟩, q⟩ (by simpa [PyData.shown] using sz)
  | list ds =>
    cases hd
    cases rx
    exact repr_of_reads' hr sh (fun z => by rw [nd] at z; cases z) hg (by omega) (fun _ _ e => e) (fun h' u tk k => ⟨.str _, H, I.kept k, ⟨_, rfl⟩, q⟩) sz
  | tuple ds =>
    cases hd
    cases rx
    exact repr_of_reads' hr sh (fun z => by rw [nd] at z; cases z) hg (by omega) (fun _ _ e => e) (fun h' u tk k => ⟨.str _, H, I.kept k, ⟨_, rfl⟩, q⟩) sz
  | dict _ => cases hd
/-- a ** b of great numbers -/
def CPowW (i j : Int) : Prop := 0 ≤ j ∧ (Builtin.Int.intBits i : Int) * j ≤ 2 ^ 27
theorem op_powW : OpR X (binaryOp .Pow) (rI CPowW fun i j => .int (i ^ j.toNat)) := opI fun _ _ _ _ _ _ _ hc q => pow_int hc.1 hc.2 q
/-- a * b: together below a hundred million bits -/
def CMulB (i j : Int) : Prop := Builtin.Int.intBits i + Builtin.Int.intBits j < 100000000
theorem CMulB.ok {i j : Int} (h : CMulB i j) : IntMulOk i j := by
  have e : bitsLine = 134217728 := by decide
  unfold IntMulOk
  intro z
  rw [Bool.and_eq_true] at z
  have z2 := z.2
  unfold Builtin.Int.intTooBig at z2
  have z3 := of_decide_eq_true z2
  rw [e] at z3
  unfold CMulB at h
  omega
theorem op_mulB : OpR X (binaryOp .Mult) (rI CMulB fun i j => .int (i * j)) := opI fun _ _ _ _ _ _ _ hc q => mul_int q hc.ok
theorem call_min3 (hc : X.calm = true) : CallR X (.builtin "min") (fun xs H Q => ∃ i j k, xs = [.int i, .int j, .int k] ∧ Q (.int (min i (min j k))) H) := by
  intro pins s σ H xs us Q I r h
  obtain ⟨i, j, k, rfl, q⟩ := h
  cases r with
  | cons r1 r =>
    cases r with
    | cons r2 r =>
      cases r with
      | cons r3 r =>
        cases r
        obtain ⟨t1, rfl⟩ := r1
        obtain ⟨t2, rfl⟩ := r2
        obtain ⟨t3, rfl⟩ := r3
        refine min_three_ints (I.ok.hd hc) fun h' tk kk => ⟨_, H, I.kept kk, ?_, q⟩
        split <;> split <;> exact ⟨_, by congr 1; omega⟩
end
end G
/-! GStep: what the top leaves, entries, loops, reads. -/
namespace G
open PySem PySem.Spec PyProof.Rows L2

/-- the built-in names that no def hides -/
structure Blt (mg : Str → Option Value) : Prop where
  len : mg "len" = none
  range : mg "range" = none
  max : mg "max" = none
  min : mg "min" = none
  abs : mg "abs" = none
  int : mg "int" = none
  list : mg "list" = none
  tuple : mg "tuple" = none
  repr : mg "repr" = none
  all : mg "all" = none
  any : mg "any" = none
  sum : mg "sum" = none
  sorted : mg "sorted" = none
  isinstance : mg "isinstance" = none
  set : mg "set" = none
  enumerate : mg "enumerate" = none
  zip : mg "zip" = none
  str : mg "str" = none
  divmod : mg "divmod" = none
  dict : mg "dict" = none
  bool : mg "bool" = none
  reversed : mg "reversed" = none
/-- a def of the top as it stands -/
structure DefAt (K : PySem.W.Frag) (mg : Str → Option Value) (x : Str) (st : Stmt) (f : Addr) (fd : FuncData) (ps : List Str) : Prop where
  F : Fun K x x st f fd
  gl : mg x = some (.ref f)
  bd : Binds K fd ps []
theorem DefAt.kp {K : PySem.W.Frag} {mg : Str → Option Value} {x : Str} {st : Stmt} {f : Addr} {fd : FuncData} {ps : List Str} (d : DefAt K mg x st f fd ps) : PySem.W.keepIn K (.ref f) = true := d.F.kp

theorem szle {n : Nat} (h : n ≤ 10000000) : n ≤ sizeLine := Nat.le_trans h (by decide)
theorem szlt {n : Nat} (h : n ≤ 10000000) : n < sizeLine := Nat.lt_of_le_of_lt h (by decide)

section
variable {H : Hp} {S : List Addr} {vs : List V}
theorem Reps.one {d1 : D} (r : Reps H S vs [d1]) : ∃ v1, vs = [v1] := by
  cases r with
  | cons _ r => cases r; exact ⟨_, rfl⟩
theorem Reps.two {d1 d2 : D} (r : Reps H S vs [d1, d2]) : ∃ v1 v2, vs = [v1, v2] := by
  cases r with
  | cons _ r => obtain ⟨_, rfl⟩ := Reps.one r; exact ⟨_, _, rfl⟩
theorem Reps.three {d1 d2 d3 : D} (r : Reps H S vs [d1, d2, d3]) : ∃ v1 v2 v3, vs = [v1, v2, v3] := by
  cases r with
  | cons _ r => obtain ⟨_, _, rfl⟩ := Reps.two r; exact ⟨_, _, _, rfl⟩
theorem Reps.four {d1 d2 d3 d4 : D} (r : Reps H S vs [d1, d2, d3, d4]) : ∃ v1 v2 v3 v4, vs = [v1, v2, v3, v4] := by
  cases r with
  | cons _ r => obtain ⟨_, _, _, rfl⟩ := Reps.three r; exact ⟨_, _, _, _, rfl⟩
/-- the entry of a def that only reads -/
theorem enter1 {d1 : D} (r : Reps H S vs [d1]) : ∃ v1, vs = [v1] ∧ St H .none .none [(v1, d1)] [] [] H := by
  obtain ⟨v1, rfl⟩ := r.one
  exact ⟨v1, rfl, St.enter r⟩
theorem enter2 {d1 d2 : D} (r : Reps H S vs [d1, d2]) : ∃ v1 v2, vs = [v1, v2] ∧ St H .none .none [(v1, d1), (v2, d2)] [] [] H := by
  obtain ⟨v1, v2, rfl⟩ := r.two
  exact ⟨v1, v2, rfl, St.enter r⟩
theorem enter3 {d1 d2 d3 : D} (r : Reps H S vs [d1, d2, d3]) : ∃ v1 v2 v3, vs = [v1, v2, v3] ∧ St H .none .none [(v1, d1), (v2, d2), (v3, d3)] [] [] H := by
  obtain ⟨v1, v2, v3, rfl⟩ := r.three
  exact ⟨v1, v2, v3, rfl, St.enter r⟩
theorem enter4 {d1 d2 d3 d4 : D} (r : Reps H S vs [d1, d2, d3, d4]) : ∃ v1 v2 v3 v4, vs = [v1, v2, v3, v4] ∧ St H .none .none [(v1, d1), (v2, d2), (v3, d3), (v4, d4)] [] [] H := by
  obtain ⟨v1, v2, v3, v4, rfl⟩ := r.four
  exact ⟨v1, v2, v3, v4, rfl, St.enter r⟩
/-- .. of a def that draws -/
theorem enterP0 {p : Addr} {b : Int} (r : Reps H S vs []) (hp : PuAt H p b) (n : p ∉ S) : vs = [] ∧ St H (some p) (some (p, b)) [] [] [] H := by
  cases r
  exact ⟨rfl, St.enterP .nil hp (by simp)⟩
theorem enterP1 {p : Addr} {b : Int} {d1 : D} (r : Reps H S vs [d1]) (hp : PuAt H p b) (n : p ∉ S) : ∃ v1, vs = [v1] ∧ St H (some p) (some (p, b)) [(v1, d1)] [] [] H := by
  obtain ⟨v1, rfl⟩ := r.one
  exact ⟨v1, rfl, St.enterP r hp n⟩
theorem enterP2 {p : Addr} {b : Int} {d1 d2 : D} (r : Reps H S vs [d1, d2]) (hp : PuAt H p b) (n : p ∉ S) : ∃ v1 v2, vs = [v1, v2] ∧ St H (some p) (some (p, b)) [(v1, d1), (v2, d2)] [] [] H := by
  obtain ⟨v1, v2, rfl⟩ := r.two
  exact ⟨v1, v2, rfl, St.enterP r hp n⟩
theorem enterP3 {p : Addr} {b : Int} {d1 d2 d3 : D} (r : Reps H S vs [d1, d2, d3]) (hp : PuAt H p b) (n : p ∉ S) : ∃ v1 v2 v3, vs = [v1, v2, v3] ∧ St H (some p) (some (p, b)) [(v1, d1), (v2, d2), (v3, d3)] [] [] H := by
  obtain ⟨v1, v2, v3, rfl⟩ := r.three
  exact ⟨v1, v2, v3, rfl, St.enterP r hp n⟩
end

/-! ### loops -/
section
variable {K : PySem.W.Frag} {g : TG} {tb : TS} {De : Ends} {σ : L2.St} {H : Hp}
/-- for over a list of ints: the word speaks of the part that is done -/
theorem for_ints {a : Addr} {ns : List Int} (Pv : List Int → L2.St → Hp → Prop) (h0 : Pv [] σ H) (hl : ∀ pre σ H, Pv pre σ H → H a = some (.lst (ns.map V.int)))
    (hs : ∀ pre n post σ H, ns = pre ++ n :: post → Pv pre σ H → g (.int n) σ H fun σ2 H2 => tb ⟨Pv (pre ++ [n]), De.rt, De.nx, Pv (pre ++ [n])⟩ σ2 H2) (hd : ∀ σ H, Pv ns σ H → De.nx σ H) :
    ∃ W : Nat → Nat → L2.St → Hp → Prop, (∃ m, W 0 m σ H) ∧ ∀ i m σ H, W i m σ H →
      ((Itl K a).stop i H ∧ De.nx σ H) ∨ ((Itl K a).go i H ∧ ∃ N : L2.St → Hp → Prop, (∀ σ' H', N σ' H' → ∃ m', m' < m ∧ W (i + 1) m' σ' H') ∧ ∀ x H', (Itl K a).yld i H x H' → g x σ H' fun σ2 H2 => tb { De with nx := N, ct := N, bk := De.nx } σ2 H2) := by
  refine for_list (K := K) (a := a) (xs := ns.map V.int) (fun i σ H => i ≤ ns.length ∧ Pv (ns.take i) σ H) ⟨Nat.zero_le _, h0⟩ (fun i σ H _ h => SqL.of (hl _ _ _ h.2)) (fun i x σ H e h => ?_) (fun σ H h => ?_)
  · rw [List.getElem?_map] at e
    cases q : ns[i]? with
    | none => rw [q] at e; cases e
    | some n =>
      rw [q] at e
      cases e
      have hi : i < ns.length := (List.getElem?_eq_some_iff.mp q).1
      have en : ns[i] = n := (List.getElem?_eq_some_iff.mp q).2
      have e2 : ns = ns.take i ++ n :: ns.drop (i + 1) := by
        rw [← en, List.getElem_cons_drop, List.take_append_drop]
      have e3 : ns.take (i + 1) = ns.take i ++ [n] := by rw [List.take_add_one, q]; rfl
      have e4 : (fun (σ : L2.St) (H : Hp) => i + 1 ≤ ns.length ∧ Pv (ns.take (i + 1)) σ H) = Pv (ns.take i ++ [n]) := by
        funext σ H
        rw [e3]
        exact propext ⟨fun z => z.2, fun z => ⟨hi, z⟩⟩
      show g (.int n) σ H fun σ2 H2 => tb ⟨fun σ H => i + 1 ≤ ns.length ∧ Pv (ns.take (i + 1)) σ H, De.rt, De.nx, fun σ H => i + 1 ≤ ns.length ∧ Pv (ns.take (i + 1)) σ H⟩ σ2 H2
      rw [e4]
      exact hs _ _ _ _ _ e2 h.2
  · have e : ns.take (ns.map V.int).length = ns := by rw [List.length_map, List.take_length]
    rw [e] at h
    exact hd _ _ h.2
end
section
variable {g : TG} {tt : TT} {te : TE} {ws : List Nat} {σ : L2.St} {H1 : Hp} {Dl : Addr} {Qd : Hp → Prop} {K : PySem.W.Frag}
/-- a comprehension over a list of ints -/
theorem lc_ints {a : Addr} {ns : List Int} (Pv : List Int → Hp → Prop) (h0 : Pv [] (upd H1 Dl (.lst []))) (hl : ∀ pre H, Pv pre H → H a = some (.lst (ns.map V.int)))
    (hs : ∀ pre n post H, ns = pre ++ n :: post → Pv pre H → g (.int n) (wipe σ ws) H fun σ2 H2 => wipe σ2 ws = wipe σ ws ∧ tt σ2 H2 fun b H3 =>
      if b = true then te σ2 H3 fun y H4 => ∃ acc, H4 Dl = some (.lst acc) ∧ acc.length < sizeLine ∧ Pv (pre ++ [n]) (upd H4 Dl (.lst (acc ++ [y]))) else Pv (pre ++ [n]) H3) (hd : ∀ H, Pv ns H → Qd H) :
    ∃ W : Nat → Nat → Hp → Prop, (∃ m, W 0 m (upd H1 Dl (.lst []))) ∧ ∀ i m H, W i m H →
      ((Itl K a).stop i H ∧ Qd H) ∨ ((Itl K a).go i H ∧ ∃ Nx : Hp → Prop, (∀ H', Nx H' → ∃ m', m' < m ∧ W (i + 1) m' H') ∧ ∀ x H', (Itl K a).yld i H x H' → g x (wipe σ ws) H' fun σ2 H2 => wipe σ2 ws = wipe σ ws ∧ tt σ2 H2 fun b H3 =>
        if b = true then te σ2 H3 fun y H4 => ∃ acc, H4 Dl = some (.lst acc) ∧ acc.length < sizeLine ∧ Nx (upd H4 Dl (.lst (acc ++ [y]))) else Nx H3) := by
  refine lc_list (K := K) (a := a) (xs := ns.map V.int) (fun i H => i ≤ ns.length ∧ Pv (ns.take i) H) ⟨Nat.zero_le _, h0⟩ (fun i H _ h => SqL.of (hl _ _ h.2)) (fun i x H e h => ?_) (fun H h => ?_)
  · rw [List.getElem?_map] at e
    cases q : ns[i]? with
    | none => rw [q] at e; cases e
    | some n =>
      rw [q] at e
      cases e
      have hi : i < ns.length := (List.getElem?_eq_some_iff.mp q).1
      have en : ns[i] = n := (List.getElem?_eq_some_iff.mp q).2
      have e2 : ns = ns.take i ++ n :: ns.drop (i + 1) := by
        rw [← en, List.getElem_cons_drop, List.take_append_drop]
      have e3 : ns.take (i + 1) = ns.take i ++ [n] := by rw [List.take_add_one, q]; rfl
      have e4 : (fun (H : Hp) => i + 1 ≤ ns.length ∧ Pv (ns.take (i + 1)) H) = Pv (ns.take i ++ [n]) := by
        funext H
        rw [e3]
        exact propext ⟨fun z => z.2, fun z => ⟨hi, z⟩⟩
      show g (.int n) (wipe σ ws) H fun σ2 H2 => wipe σ2 ws = wipe σ ws ∧ tt σ2 H2 fun b H3 =>
        if b = true then te σ2 H3 fun y H4 => ∃ acc, H4 Dl = some (.lst acc) ∧ acc.length < sizeLine ∧ (fun (H : Hp) => i + 1 ≤ ns.length ∧ Pv (ns.take (i + 1)) H) (upd H4 Dl (.lst (acc ++ [y]))) else (fun (H : Hp) => i + 1 ≤ ns.length ∧ Pv (ns.take (i + 1)) H) H3
      rw [e4]
      exact hs _ _ _ _ e2 h.2
  · have e : ns.take (ns.map V.int).length = ns := by rw [List.length_map, List.take_length]
    rw [e] at h
    exact hd _ h.2
end

/-! ### slices, items of lists of ints -/
theorem cutV_to (xs : List V) (n : Nat) : cutV xs none (some (n : Int)) = xs.take n := by
  unfold cutV
  rw [HT.sIx_none, HT.sIx_nat]
  simp
theorem cutV_from (xs : List V) (n : Nat) : cutV xs (some (n : Int)) none = xs.drop n := by
  unfold cutV
  rw [HT.sIx_none, HT.sIx_nat]
  by_cases h : n ≤ xs.length
  · rw [Nat.min_eq_left h]
    exact List.take_of_length_le (by rw [List.length_drop]; omega)
  · rw [Nat.min_eq_right (by omega), List.drop_of_length_le (Nat.le_refl _), List.drop_of_length_le (by omega)]
    simp
theorem at_nat {xs : List V} {i : Int} {k : Nat} {v : V} (hi : i = (k : Int)) (h : xs[k]? = some v) : atI xs i = some v := by
  subst hi
  exact atI_nat h
theorem ints_at {ns : List Int} {k : Nat} {n : Int} (h : ns[k]? = some n) : (ns.map V.int)[k]? = some (.int n) := by
  rw [List.getElem?_map, h]
  rfl
theorem ints_len {ns : List Int} : (ns.map V.int).length = ns.length := List.length_map ..
/-- the ints a, a + 1, .. below b -/
def rg (a b : Int) : List Int := (List.range (b - a).toNat).map fun i => a + (i : Nat)
theorem rgV_map (a b : Int) : rgV a b = (rg a b).map V.int := by
  unfold rgV rg
  rw [List.map_map]
  rfl
theorem map_erase {α β : Type} (f : α → β) : ∀ (l : List α) (k : Nat), (l.map f).eraseIdx k = (l.eraseIdx k).map f
  | [], _ => rfl
  | _ :: _, 0 => rfl
  | x :: l, k + 1 => by simp [map_erase f l k]
theorem rg_length (a b : Int) : (rg a b).length = (b - a).toNat := by unfold rg; rw [List.length_map, List.length_range]
theorem mem_rg {a b x : Int} : x ∈ rg a b ↔ a ≤ x ∧ x < b := by
  unfold rg
  rw [List.mem_map]
  constructor
  · rintro ⟨i, hi, rfl⟩
    rw [List.mem_range] at hi
    omega
  · rintro ⟨h1, h2⟩
    exact ⟨(x - a).toNat, by rw [List.mem_range]; omega, by omega⟩
theorem dec_eq_int {i j : Int} : decide (V.int i = V.int j) = decide (i = j) := by
  by_cases h : i = j
  · subst h; simp
  · rw [decide_eq_false h, decide_eq_false fun e => h (V.int.inj e)]

theorem iteB {b : Bool} {A B : Prop} (h1 : b = true → A) (h2 : b = false → B) : if b = true then A else B := by
  cases b with
  | true => exact iteT (h1 rfl)
  | false => exact iteF (h2 rfl)
/-- a, b, .. <= .. <= .. of ints, whatever the outcome -/
theorem w_chain {ta tb tc : TE} {σ : L2.St} {H : Hp} {Q : VK} {i j k : Int} (h : ta σ H fun x H1 => x = .int i ∧ tb σ H1 fun y H2 => y = .int j ∧ ∀ Q' : VK, Q' (.int k) H2 → tc σ H2 Q') : True := trivial
/-- an effect as data -/
abbrev dE (e : Int × List Int) : D := .tuple [.int e.1, dI e.2]
end G
/-! GShow: how long the text of plain data may be; == and in over lists of ints. -/
namespace G
open PySem PySem.Spec PyProof.Rows L2

mutual
/-- no less than the signs of the text -/
def wd : D → Nat
  | .none => 4
  | .bool _ => 5
  | .int i => i.natAbs.log2 + 3
  | .str x => (reprText x).length
  | .list ds => wds ds + 3
  | .tuple ds => wds ds + 3
  | .dict _ => 0
def wds : List D → Nat
  | [] => 0
  | d :: ds => wd d + 2 + wds ds
end
theorem shownAll_len : ∀ ds : List D, (PyData.shownAll ds).length = ds.length
  | [] => by simp [PyData.shownAll]
  | d :: ds => by simp [PyData.shownAll, shownAll_len ds]
mutual
theorem shown_wd : ∀ d : D, d.hasDict = false → d.shown.length ≤ wd d
  | .none, _ => by
    have e : (PyData.shown .none).length = 4 := rfl
    simp only [wd]
    omega
  | .bool b, _ => by
    have e : (PyData.shown (.bool b)).length ≤ 5 := by cases b <;> decide
    simpa only [wd] using e
  | .int i, _ => by
    have h := int_text_length_le (a := i) (k := i.natAbs.log2 + 1) (by omega) (by omega)
    have e : (PyData.shown (.int i)).length = (toString i).length := by
      show (Str.ofString (toString i)).length = _
      rw [PySem.ofString_length]
    rw [e]
    simp only [wd]
    omega
  | .str x, _ => by simp only [PyData.shown, wd]; exact Nat.le_refl _
  | .list ds, h => by
    have h1 := shownAll_wds ds (by simpa [PyData.hasDict] using h)
    have h2 := listText_len_le (PyData.shownAll ds)
    rw [shownAll_len] at h2
    simp only [PyData.shown, wd]
    omega
  | .tuple ds, h => by
    have h1 := shownAll_wds ds (by simpa [PyData.hasDict] using h)
    have h2 := tupleText_len_le (PyData.shownAll ds)
    rw [shownAll_len] at h2
    simp only [PyData.shown, wd]
    omega
  | .dict _, h => by simp [PyData.hasDict] at h
theorem shownAll_wds : ∀ ds : List D, PyData.hasDictAll ds = false → ((PyData.shownAll ds).map (·.length)).sum + 2 * ds.length ≤ wds ds
  | [], _ => by simp [PyData.shownAll, wds]
  | d :: ds, h => by
    have h' : d.hasDict = false ∧ PyData.hasDictAll ds = false := by simpa [PyData.hasDictAll] using h
    have h1 := shown_wd d h'.1
    have h2 := shownAll_wds ds h'.2
    simp only [PyData.shownAll, wds, List.map_cons, List.sum_cons, List.length_cons]
    omega
end
/-- it may be shown: at most k deep, at most B signs -/
structure Sh (k B : Nat) (d : D) : Prop where
  sh : d.showable = true
  dp : d.depth ≤ k
  wd : wd d ≤ B
theorem Sh.mono {k k' B B' : Nat} {d : D} (h : Sh k B d) (h1 : k ≤ k') (h2 : B ≤ B') : Sh k' B' d := ⟨h.sh, Nat.le_trans h.dp h1, Nat.le_trans h.wd h2⟩
theorem sh_none : Sh 1 5 .none := ⟨by simp [PyData.showable], by simp [PyData.depth], by simp [G.wd]⟩
theorem sh_bool (b : Bool) : Sh 1 5 (.bool b) := ⟨by simp [PyData.showable], by simp [PyData.depth], by simp [G.wd]⟩
theorem log2_of {n : Nat} (h : n < 2 ^ 200) : n.log2 < 200 := PySem.Flt.log2_lt_of (by decide) h
theorem sh_int {i : Int} (h : i.natAbs < 2 ^ 200) : Sh 1 205 (.int i) := by
  have := log2_of h
  exact ⟨by simp [PyData.showable]; omega, by simp [PyData.depth], by simp [G.wd]; omega⟩
theorem sh_all {k B : Nat} : ∀ {ds : List D}, (∀ d ∈ ds, Sh k B d) → PyData.showableAll ds = true ∧ PyData.depthAll ds ≤ k ∧ wds ds ≤ (B + 2) * ds.length
  | [], _ => ⟨by simp [PyData.showableAll], by simp [PyData.depthAll], by simp [wds]⟩
  | d :: ds, h => by
    have h1 := h d List.mem_cons_self
    obtain ⟨a, b, c⟩ := sh_all fun x m => h x (List.mem_cons_of_mem _ m)
    refine ⟨by simp [PyData.showableAll, h1.sh, a], ?_, ?_⟩
    · have := h1.dp
      simp only [PyData.depthAll]
      omega
    · have := h1.wd
      simp only [wds, List.length_cons]
      rw [Nat.mul_add]
      omega
theorem sh_list {k B n : Nat} {ds : List D} (h : ∀ d ∈ ds, Sh k B d) (hn : ds.length ≤ n) : Sh (k + 1) ((B + 2) * n + 3) (.list ds) := by
  obtain ⟨a, b, c⟩ := sh_all h
  have := Nat.mul_le_mul_left (B + 2) hn
  exact ⟨by simpa [PyData.showable] using a, by simp only [PyData.depth]; omega, by simp only [G.wd]; omega⟩
theorem sh_tuple {k B n : Nat} {ds : List D} (h : ∀ d ∈ ds, Sh k B d) (hn : ds.length ≤ n) : Sh (k + 1) ((B + 2) * n + 3) (.tuple ds) := by
  obtain ⟨a, b, c⟩ := sh_all h
  have := Nat.mul_le_mul_left (B + 2) hn
  exact ⟨by simpa [PyData.showable] using a, by simp only [PyData.depth]; omega, by simp only [G.wd]; omega⟩
theorem sh_ints {n : Nat} {gs : List Int} (h : ∀ x ∈ gs, x.natAbs < 2 ^ 200) (hn : gs.length ≤ n) : Sh 2 (207 * n + 3) (dI gs) := by
  refine sh_list (k := 1) (B := 205) (fun d m => ?_) (by rw [List.length_map]; exact hn)
  obtain ⟨x, hx, rfl⟩ := List.mem_map.mp m
  exact sh_int (h x hx)
/-- an effect of moderate size -/
theorem sh_eff {e : Int × List Int} (h1 : e.1.natAbs < 2 ^ 200) (h : ∀ x ∈ e.2, x.natAbs < 2 ^ 200) (hn : e.2.length ≤ 4000) : Sh 3 1700000 (dE e) := by
  refine (sh_tuple (k := 2) (B := 828003) (n := 2) (fun d m => ?_) (by simp)).mono (by omega) (by omega)
  rcases List.mem_cons.mp m with rfl | m
  · exact (sh_int h1).mono (by omega) (by omega)
  · rcases List.mem_cons.mp m with rfl | m
    · exact (sh_ints h hn).mono (by omega) (by omega)
    · cases m

/-! ### one step into a reading -/
section
variable {ta tb : TE} {ts : TA} {g : TG} {r : R2} {rc : List V → Hp → VK → Prop} {σ : L2.St} {H : Hp} {Q : VK} {De : Ends}
theorem w_op (h : ta σ H fun x H1 => tb σ H1 fun y H2 => r x y H2 Q) : tOp r ta tb σ H Q := h
theorem w_cb (h : ts σ H fun vs H1 => rc vs H1 Q) : tCB rc ts σ H Q := h
theorem w_cons {Q : List V → Hp → Prop} (h : ta σ H fun x H1 => ts σ H1 fun xs H2 => Q (x :: xs) H2) : tCons ta ts σ H Q := h
theorem w_asg (h : ta σ H fun x H1 => g x σ H1 De.nx) : tAsg ta g De σ H := h
theorem w_ret (h : ta σ H De.rt) : tRet ta De σ H := h
theorem w_lit {d : D} {H0 : Hp} {M : Option Addr} {pu : Option (Addr × Int)} {Fz Ow : List (V × D)} {Tp : List (Addr × List V)} (hS : St H0 M pu Fz Ow Tp H) (l : Lit ta d) (k : ∀ v H', St H0 M pu Fz ((v, d) :: Ow) Tp H' → Q v H') : ta σ H Q := l _ _ _ _ _ _ _ _ _ hS k
end

theorem tyL {K : PySem.W.Frag} {H : Hp} {p : Addr} {xs : List V} (h : H p = some (.lst xs)) : tyV K "list" (.ref p) H := Or.inl ⟨rfl, _, SqL.of h⟩

/-! ### == and in of lists of ints -/
theorem eqvAll_ints : ∀ xs ys : List Int, PyData.eqvAll (xs.map PyData.int) (ys.map PyData.int) = decide (xs = ys)
  | [], [] => by simp [PyData.eqvAll]
  | [], _ :: _ => by simp [PyData.eqvAll]
  | _ :: _, [] => by simp [PyData.eqvAll]
  | x :: xs, y :: ys => by
    rw [List.map_cons, List.map_cons, PyData.eqvAll, eqvAll_ints xs ys, PyData.eqv]
    by_cases h : x = y
    · subst h
      simp
    · rw [beq_eq_false_iff_ne.mpr h, decide_eq_false (fun e => h (List.cons.inj e).1)]
      rfl
theorem eqv_ints (xs ys : List Int) : PyData.eqv (dI xs) (dI ys) = decide (xs = ys) := by rw [PyData.eqv, eqvAll_ints]
theorem canLay_ints : ∀ xs : List Int, PyData.canLayAll0 (xs.map PyData.int) = true
  | [] => by simp [PyData.canLayAll0]
  | x :: xs => by simp [PyData.canLayAll0, PyData.canLay0, canLay_ints xs]
theorem depth_ints : ∀ xs : List Int, PyData.depthAll (xs.map PyData.int) = 0
  | [] => by simp [PyData.depthAll]
  | x :: xs => by simp [PyData.depthAll, PyData.depth, depth_ints xs]
theorem shaped_ints (xs : List Int) : SeqAt.shaped (dI xs) = true := by
  unfold SeqAt.shaped
  simp [PyData.canLay0, PyData.depth, canLay_ints, depth_ints]
theorem inV_ints (t : Int) (ns : List Int) : inV (.int t) (ns.map V.int) = decide (t ∈ ns) := by
  unfold inV
  rw [List.any_map]
  induction ns with
  | nil => rfl
  | cons n ns ih =>
    rw [List.any_cons, ih]
    by_cases h : t = n
    · subst h
      simp [eqV]
    · have h2 : ¬ n = t := fun e => h e.symm
      simp [eqV, h, h2]
theorem flat_ints (ns : List Int) : (ns.map V.int).all flatV = true := by
  rw [List.all_map, List.all_eq_true]
  intro x _
  rfl
theorem dp_ints {K : PySem.W.Frag} {H : Hp} {a : Addr} {ns : List Int} (h : H a = some (.lst (ns.map V.int))) : Dp K H (.ref a) (dI ns) := Rep.dp K _ _ _ (.lst h (Reps.intsR ns))
theorem cutV_mid (xs : List V) (a b : Nat) : cutV xs (some (a : Int)) (some (b : Int)) = (xs.drop a).take (b - a) := by
  unfold cutV
  rw [HT.sIx_nat, HT.sIx_nat]
  by_cases h : a ≤ xs.length
  · rw [Nat.min_eq_left h]
    by_cases h2 : b ≤ xs.length
    · rw [Nat.min_eq_left h2]
    · rw [Nat.min_eq_right (by omega), List.take_of_length_le (by rw [List.length_drop]; omega), List.take_of_length_le (by rw [List.length_drop]; omega)]
  · rw [Nat.min_eq_right (show xs.length ≤ a by omega), List.drop_of_length_le (Nat.le_refl _), List.drop_of_length_le (show xs.length ≤ a by omega)]
    simp
theorem cutV_neg (xs : List V) (i : Int) : cutV xs (some i) (some 0) = [] := by
  unfold cutV
  have e : HT.sIx xs.length xs.length (some (0 : Int)) = 0 := by
    have := HT.sIx_nat xs.length xs.length 0
    simpa using this
  rw [e, Nat.zero_sub, List.take_zero]
end G
/-! GIsi: isinstance of plain data; depth and size of the parts. -/
namespace G
open PySem PySem.Spec PyProof.Rows L2

def tyN : D → String
  | .none => "NoneType"
  | .bool _ => "bool"
  | .int _ => "int"
  | .str _ => "str"
  | .list _ => "list"
  | .tuple _ => "tuple"
  | .dict _ => "dict"
theorem tyx {K : PySem.W.Frag} {H : Hp} {S : List Addr} {v : V} {d : D} (r : Rep H S v d) : TyX K H v (.type (tyN d)) := by
  cases r with
  | non => exact .base .non
  | bl b => exact .base (.bl b)
  | int i => exact .base (.int i)
  | str x => exact .base (.str x)
  | lst e _ => exact .base (.lst e)
  | tup e _ => exact .base (.tup e)
def isList : D → Bool
  | .list _ => true
  | _ => false
def isTuple : D → Bool
  | .tuple _ => true
  | _ => false
theorem kit_list {K : PySem.W.Frag} : ∀ {H : Hp} {S : List Addr} {v : V} {d : D}, Rep H S v d → PySem.W.kitOne K (.type (tyN d)) (.type "list") = some (isList d) := fun r => by
  cases r with
  | non => exact kit_ty (by decide +kernel)
  | bl b => exact kit_ty (show kitB "bool" "list" = some false by decide +kernel)
  | int i => exact kit_ty (show kitB "int" "list" = some false by decide +kernel)
  | str x => exact kit_ty (show kitB "str" "list" = some false by decide +kernel)
  | lst e _ => exact kit_ty (show kitB "list" "list" = some true by decide +kernel)
  | tup e _ => exact kit_ty (show kitB "tuple" "list" = some false by decide +kernel)
theorem kit_tuple {K : PySem.W.Frag} : ∀ {H : Hp} {S : List Addr} {v : V} {d : D}, Rep H S v d → PySem.W.kitOne K (.type (tyN d)) (.type "tuple") = some (isTuple d) := fun r => by
  cases r with
  | non => exact kit_ty (by decide +kernel)
  | bl b => exact kit_ty (show kitB "bool" "tuple" = some false by decide +kernel)
  | int i => exact kit_ty (show kitB "int" "tuple" = some false by decide +kernel)
  | str x => exact kit_ty (show kitB "str" "tuple" = some false by decide +kernel)
  | lst e _ => exact kit_ty (show kitB "list" "tuple" = some false by decide +kernel)
  | tup e _ => exact kit_ty (show kitB "tuple" "tuple" = some true by decide +kernel)
theorem isi_list {K : PySem.W.Frag} {H : Hp} {S : List Addr} {v : V} {d : D} {Q : VK} (r : Rep H S v d) (q : Q (.bl (isList d)) H) : rIsi K [v, .ty "list"] H Q := ⟨v, _, _, _, _, rfl, .ty _, tyx r, kit_list r, q⟩
theorem isi_tuple {K : PySem.W.Frag} {H : Hp} {S : List Addr} {v : V} {d : D} {Q : VK} (r : Rep H S v d) (q : Q (.bl (isTuple d)) H) : rIsi K [v, .ty "tuple"] H Q := ⟨v, _, _, _, _, rfl, .ty _, tyx r, kit_tuple r, q⟩
theorem isi_seq {K : PySem.W.Frag} {H : Hp} {S : List Addr} {v : V} {d : D} {Q : VK} {t : Addr} (r : Rep H S v d) (ht : H t = some (.tup [.ty "list", .ty "tuple"])) (q : Q (.bl (isList d || isTuple d)) H) : rIsiT K [v, .ref t] H Q := by
  refine ⟨v, t, _, _, [.type "list", .type "tuple"], _, rfl, ht, .cons (.ty _) (.cons (.ty _) .nil), tyx r, ?_, q⟩
  refine kitAny_cons (kit_list r) (fun e => ?_) (fun e => by rw [e]; rfl)
  rw [e, Bool.false_or]
  refine kitAny_cons (kit_tuple r) (fun e => ?_) (fun e => e)
  rw [e]
  exact kitAny_nil
/-- one of two rules -/
theorem pi_or {X : Cx} {tg l : Expr} {w1 w2 : TI} (h1 : PI X tg l w1) (h2 : PI X tg l w2) : PI X tg l (fun σ H R => w1 σ H R ∨ w2 σ H R) :=
  ⟨fun pins s σ H R I h => h.elim (h1.run pins s σ H R I) (h2.run pins s σ H R I)⟩
theorem pe_or2 {X : Cx} {e : Expr} {t1 t2 : TE} (h1 : PE X e t1) (h2 : PE X e t2) : PE X e (fun σ H Q => t1 σ H Q ∨ t2 σ H Q) :=
  ⟨fun pins s σ H Q I h => h.elim (h1.run pins s σ H Q I) (h2.run pins s σ H Q I)⟩

theorem depth_mem : ∀ {ds : List D} {d : D}, d ∈ ds → d.depth ≤ PyData.depthAll ds
  | x :: ds, d, h => by
    simp only [PyData.depthAll]
    rcases List.mem_cons.mp h with rfl | h
    · omega
    · have := depth_mem h
      omega
theorem wd_mem : ∀ {ds : List D} {d : D}, d ∈ ds → wd d + 2 ≤ wds ds
  | x :: ds, d, h => by
    simp only [wds]
    rcases List.mem_cons.mp h with rfl | h
    · omega
    · have := wd_mem h
      omega
theorem wds_len : ∀ ds : List D, 2 * ds.length ≤ wds ds
  | [] => Nat.zero_le _
  | d :: ds => by
    have := wds_len ds
    simp only [wds, List.length_cons]
    omega
theorem zip_mem {α β : Type} : ∀ {vs : List α} {ds : List β} {i : Nat} {v : α} {d : β}, vs[i]? = some v → ds[i]? = some d → (v, d) ∈ vs.zip ds
  | [], _, _, _, _, h, _ => by simp at h
  | _ :: _, [], _, _, _, _, h => by simp at h
  | v :: vs, d :: ds, 0, _, _, h1, h2 => by
    simp at h1 h2
    subst h1
    subst h2
    simp
  | v :: vs, d :: ds, i + 1, _, _, h1, h2 => by
    rw [List.zip_cons_cons]
    exact List.mem_cons_of_mem _ (zip_mem (i := i) (by simpa using h1) (by simpa using h2))
/-- a comprehension over a list of ints whose items are ints: the list of what they become -/
theorem lc_map {K : PySem.W.Frag} {te : TE} {σ : L2.St} {H H0 : Hp} {M : Option Addr} {pu : Option (Addr × Int)} {Fz Ow : List (V × D)} {Tp : List (Addr × List V)} {Dl a : Addr} {ns : List Int} {j : Nat} {Qd : Hp → Prop} (f : Int → Int)
    (hS : St H0 M pu Fz Ow Tp H) (hD : H Dl = none) (hr : ∀ gs : List Int, Rdb Fz ((.ref Dl, dI gs) :: Ow) Tp (.ref a) (dI ns)) (len : ns.length ≤ 1000000)
    (step : ∀ x ∈ ns, ∀ gs H1, St H0 M pu Fz ((.ref Dl, dI gs) :: Ow) Tp H1 → ∀ R : VK, R (.int (f x)) H1 → te ((wipe σ [j]).set j (some (.int x))) H1 R)
    (k : ∀ H', St H0 M pu Fz ((.ref Dl, dI (ns.map f)) :: Ow) Tp H' → Qd H') :
    ∃ W : Nat → Nat → Hp → Prop, (∃ m, W 0 m (upd H Dl (.lst []))) ∧ ∀ i m H, W i m H →
      ((Itl K a).stop i H ∧ Qd H) ∨ ((Itl K a).go i H ∧ ∃ Nx : Hp → Prop, (∀ H', Nx H' → ∃ m', m' < m ∧ W (i + 1) m' H') ∧ ∀ x H', (Itl K a).yld i H x H' → gName j x (wipe σ [j]) H' fun σ2 H2 => wipe σ2 [j] = wipe σ [j] ∧ tYes σ2 H2 fun b H3 =>
        if b = true then te σ2 H3 fun y H4 => ∃ acc, H4 Dl = some (.lst acc) ∧ acc.length < sizeLine ∧ Nx (upd H4 Dl (.lst (acc ++ [y]))) else Nx H3) := by
  refine lc_ints (fun pre H1 => St H0 M pu Fz ((.ref Dl, dI (pre.map f)) :: Ow) Tp H1) (by simpa using hS.mkInts (ns := []) hD) (fun pre H1 h => ?_) (fun pre x post H1 e h => ?_) (fun H1 h => k _ h)
  · obtain ⟨a', e, ha⟩ := h.rints (v := .ref a) (ns := ns) (hr _)
    cases e
    exact ha
  · refine ⟨?_, ?_⟩
    · show ((σ.set j none).set j _).set j none = σ.set j none
      rw [List.set_set, List.set_set]
    · unfold tYes; dsimp only
      rw [if_pos rfl]
      refine step x (by rw [e]; simp) _ _ h _ ?_
      obtain ⟨hD2, kp⟩ := h.putInts
      refine ⟨_, hD2, szlt (by rw [ints_len, List.length_map]; rw [e] at len; simp at len; omega), ?_⟩
      have h4 := kp (pre.map f ++ [f x])
      simpa using h4
/-- all that is owned is frozen -/
theorem St.frz {H0 H : Hp} {M : Option Addr} {pu : Option (Addr × Int)} {Tp : List (Addr × List V)} : ∀ {Ow Fz : List (V × D)}, St H0 M pu Fz Ow Tp H → St H0 M pu (Ow ++ Fz) [] Tp H
  | [], _, h => h
  | (_, _) :: _, _, h => (St.frz h.freeze).fzs fun x hx => by
    rcases List.mem_append.mp hx with hx | hx
    · rcases List.mem_cons.mp hx with rfl | hx
      · exact List.mem_append_right _ List.mem_cons_self
      · exact List.mem_append_left _ hx
    · exact List.mem_append_right _ (List.mem_cons_of_mem _ hx)
/-- nothing is owned any more -/
theorem St.ow0 {H0 H : Hp} {M : Option Addr} {pu : Option (Addr × Int)} {Tp : List (Addr × List V)} {Fz : List (V × D)} : ∀ {Ow : List (V × D)}, St H0 M pu Fz Ow Tp H → St H0 M pu Fz [] Tp H
  | [], h => h
  | _ :: _, h => St.ow0 h.drop
end G
/-! GEat: owned trees that a callee spoils. -/
namespace G
open PySem PySem.Spec PyProof.Rows L2

theorem Rep.same {H H1 : Hp} {S : List Addr} {v : V} {d : D} (r : Rep H S v d) (sm : Same H H1) : Rep H1 S v d := Rep.mono (fun t vs e => sm _ _ e) _ _ _ r fun a m o e => sm a o e
theorem kit_seq {K : PySem.W.Frag} {H : Hp} {S : List Addr} {v : V} {d : D} (r : Rep H S v d) : PySem.W.kitAny K (.type (tyN d)) [.type "list", .type "tuple"] = some (isList d || isTuple d) := by
  refine kitAny_cons (kit_list r) (fun e => ?_) (fun e => by rw [e]; rfl)
  rw [e, Bool.false_or]
  refine kitAny_cons (kit_tuple r) (fun e => ?_) (fun e => e)
  rw [e]
  exact kitAny_nil
/-! ### the tree with a number behind each list -/
mutual
def spD : D → Int → D × Int
  | .list ds, k => (.list ((spDs ds k).1 ++ [.int (-((spDs ds k).2 + 1))]), (spDs ds k).2 + 1)
  | .tuple ds, k => (.tuple (spDs ds k).1, (spDs ds k).2)
  | .none, k => (.none, k)
  | .bool b, k => (.bool b, k)
  | .int i, k => (.int i, k)
  | .str x, k => (.str x, k)
  | .dict x, k => (.dict x, k)
def spDs : List D → Int → List D × Int
  | [], k => ([], k)
  | d :: ds, k => ((spD d k).1 :: (spDs ds (spD d k).2).1, (spDs ds (spD d k).2).2)
end
theorem spDs_snoc : ∀ (ds : List D) (d : D) (k : Int), spDs (ds ++ [d]) k = ((spDs ds k).1 ++ [(spD d (spDs ds k).2).1], (spD d (spDs ds k).2).2)
  | [], d, k => by simp [spDs]
  | x :: ds, d, k => by
    rw [List.cons_append, spDs, spDs_snoc ds d]
    simp [spDs]
mutual
/-- how many lists -/
def nl : D → Nat
  | .list ds => nls ds + 1
  | .tuple ds => nls ds
  | _ => 0
def nls : List D → Nat
  | [] => 0
  | d :: ds => nl d + nls ds
end
theorem depthAll_app : ∀ (ds es : List D), PyData.depthAll (ds ++ es) = max (PyData.depthAll ds) (PyData.depthAll es)
  | [], es => by simp [PyData.depthAll]
  | d :: ds, es => by simp only [List.cons_append, PyData.depthAll, depthAll_app ds es]; omega
theorem wds_app : ∀ (ds es : List D), wds (ds ++ es) = wds ds + wds es
  | [], es => by simp [wds]
  | d :: ds, es => by simp only [List.cons_append, wds, wds_app ds es]; omega
theorem showableAll_app : ∀ (ds es : List D), PyData.showableAll (ds ++ es) = (PyData.showableAll ds && PyData.showableAll es)
  | [], es => by simp [PyData.showableAll]
  | d :: ds, es => by simp [PyData.showableAll, showableAll_app ds es, Bool.and_assoc]
mutual
theorem sp_sh : ∀ (d : D) (k : Int), d.showable = true → 0 ≤ k → k + nl d < 2 ^ 100 → (spD d k).1.showable = true ∧ (spD d k).1.depth = d.depth ∧ wd (spD d k).1 ≤ wd d + 207 * nl d ∧ k ≤ (spD d k).2 ∧ (spD d k).2 = k + nl d
  | .list ds, k, h, h0, h1 => by
    simp only [nl] at h1
    obtain ⟨a1, a2, a3, a4, a5⟩ := sps_sh ds k (by simpa [PyData.showable] using h) h0 (by omega)
    have si := sh_int (i := -((spDs ds k).2 + 1)) (by omega)
    have w := si.wd
    have dd := si.sh
    have d0 : (PyData.int (-((spDs ds k).2 + 1))).depth = 0 := by simp [PyData.depth]
    refine ⟨?_, ?_, ?_, ?_, ?_⟩
    · simp only [spD, PyData.showable]
      rw [showableAll_app, a1]
      simp only [PyData.showableAll, dd, Bool.and_true, Bool.true_and]
    · simp only [spD, PyData.depth]
      rw [depthAll_app, a2]
      simp only [PyData.depthAll, d0]
      omega
    · simp only [spD, G.wd, nl] at w ⊢
      rw [wds_app]
      simp only [wds, G.wd]
      omega
    · simp only [spD]
      omega
    · simp only [spD, nl]
      omega
  | .tuple ds, k, h, h0, h1 => by
    simp only [nl] at h1
    obtain ⟨a1, a2, a3, a4, a5⟩ := sps_sh ds k (by simpa [PyData.showable] using h) h0 (by omega)
    refine ⟨by simpa only [spD, PyData.showable] using a1, ?_, ?_, by simpa only [spD] using a4, by simpa only [spD, nl] using a5⟩
    · simp only [spD, PyData.depth]
      omega
    · simp only [spD, G.wd, nl]
      omega
  | .none, k, h, h0, h1 => by simp [spD, nl, h]
  | .bool _, k, h, h0, h1 => by simp [spD, nl, h]
  | .int _, k, h, h0, h1 => by simp only [spD, nl]; exact ⟨h, trivial, by omega, by omega, by omega⟩
  | .str _, k, h, h0, h1 => by simp only [spD, nl]; exact ⟨h, trivial, by omega, by omega, by omega⟩
  | .dict _, k, h, h0, h1 => by simp only [spD, nl]; exact ⟨h, trivial, by omega, by omega, by omega⟩
theorem sps_sh : ∀ (ds : List D) (k : Int), PyData.showableAll ds = true → 0 ≤ k → k + nls ds < 2 ^ 100 → PyData.showableAll (spDs ds k).1 = true ∧ PyData.depthAll (spDs ds k).1 = PyData.depthAll ds ∧ wds (spDs ds k).1 ≤ wds ds + 207 * nls ds ∧ k ≤ (spDs ds k).2 ∧ (spDs ds k).2 = k + nls ds
  | [], k, h, h0, h1 => by simp [spDs, nls, h]
  | d :: ds, k, h, h0, h1 => by
    simp only [nls] at h1
    simp only [PyData.showableAll, Bool.and_eq_true] at h
    obtain ⟨a1, a2, a3, a4, a5⟩ := sp_sh d k h.1 h0 (by omega)
    obtain ⟨b1, b2, b3, b4, b5⟩ := sps_sh ds (spD d k).2 h.2 (by omega) (by omega)
    refine ⟨by simp only [spDs, PyData.showableAll, a1, b1, Bool.and_self], ?_, ?_, ?_, ?_⟩
    · simp only [spDs, PyData.depthAll, a2, b2]
    · simp only [spDs, wds, nls]
      omega
    · simp only [spDs]
      omega
    · simp only [spDs, nls]
      omega
end
theorem sp_Sh {k B : Nat} {d : D} (h : Sh k B d) (hn : nl d ≤ 100000) : Sh k (B + 207 * nl d) (spD d 0).1 := by
  obtain ⟨a1, a2, a3, _, _⟩ := sp_sh d 0 h.sh (Int.le_refl _) (by omega)
  have := h.dp
  have := h.wd
  exact ⟨a1, by omega, by omega⟩
theorem nls_ints : ∀ ns : List Int, nls (ns.map PyData.int) = 0
  | [] => rfl
  | n :: ns => by simp only [List.map_cons, nls, nl, nls_ints ns]
theorem nl_ints (ns : List Int) : nl (dI ns) = 1 := by show nls _ + 1 = 1; rw [nls_ints]

/-- what spoils a tree: the tree is changed in place, and a count -/
def spSpoil (n : Nat) : Sp := fun vs H Q _ => ∃ (v : V) (l : Addr) (d : D) (k : Int) (S : List Addr), vs = [v, .ref l] ∧ Rep H S v d ∧ S.Nodup ∧ l ∉ S ∧ H l = some (.lst [.int k]) ∧ d.depth < n ∧ wd d ≤ 10000000 ∧
  ∀ H', (∀ a o, H a = some o → a ∉ S → a ≠ l → H' a = some o) → Rep H' S v (spD d k).1 → H' l = some (.lst [.int (spD d k).2]) → Q .non H'
/-- what is given a tree of its own, and leaves all else -/
def spEat : Sp := fun vs H Q _ => ∃ (v : V) (d : D) (S : List Addr), vs = [v] ∧ Rep H S v d ∧ S.Nodup ∧ Sh 7 1000000 d ∧ nl d ≤ 10000 ∧
  ∀ r H', r = V.bl true → (∀ a o, H a = some o → a ∉ S → H' a = some o) → Q r H'
theorem St.eat {H0 H : Hp} {M : Option Addr} {pu : Option (Addr × Int)} {Fz Ow : List (V × D)} {Tp : List (Addr × List V)} {v : V} {d : D} (h : St H0 M pu Fz ((v, d) :: Ow) Tp H) :
    ∃ S, Rep H S v d ∧ S.Nodup ∧ ∀ H', (∀ a o, H a = some o → a ∉ S → H' a = some o) → St H0 M pu Fz Ow Tp H' := by
  obtain ⟨Z, S, h1, h2, h3, h4, h5, h6, h7, h8⟩ := h
  cases h3 with
  | @cons S1 S2 _ _ _ _ r1 r2 =>
    have nd := List.nodup_append.mp h4
    refine ⟨S1, r1, nd.1, fun H' fr => ?_⟩
    have nt : ∀ t vs, H t = some (.tup vs) → H' t = some (.tup vs) := fun t vs e => fr t _ e fun z => by
      obtain ⟨xs, e2⟩ := Rep.dom _ _ _ r1 t z
      rw [e] at e2
      cases e2
    have nz : ∀ a, Z a → a ∉ S1 := fun a z m => (h5 a (List.mem_append_left _ m)).1 z
    refine ⟨Z, S2, fun a o e m => ⟨(h1 a o e m).1, fr a o (h1 a o e m).2 (nz a (h1 a o e m).1)⟩, fun x m => ?_, ?_, nd.2.1, fun a m => h5 a (List.mem_append_right _ m), fun x m => nt _ _ (h6 x m), fun p b e => ⟨?_, (h7 p b e).2.1, fun m => (h7 p b e).2.2 (List.mem_append_right _ m)⟩, fun a z => ?_⟩
    · obtain ⟨T, r, z⟩ := h2 x m
      exact ⟨T, Rep.mono nt _ _ _ r fun a q o e => fr a o e (nz a (z a q)), z⟩
    · exact Reps.mono nt _ _ _ r2 fun a q o e => fr a o e fun m => nd.2.2 a m a q rfl
    · exact (h7 p b e).1.mono fun o e2 => fr p o e2 fun m => (h7 p b e).2.2 (List.mem_append_left _ m)
    · obtain ⟨o, e⟩ := h8 a z
      refine ⟨o, fr a o e fun m => ?_⟩
      rcases z with z | z
      · exact nz a z m
      · exact (h5 a (List.mem_append_left _ m)).2 z.symm
/-- the call of one that eats -/
theorem St.callE {H0 H : Hp} {M : Option Addr} {pu : Option (Addr × Int)} {Fz Ow : List (V × D)} {Tp : List (Addr × List V)} {v : V} {d : D} {Q : VK} (h : St H0 M pu Fz ((v, d) :: Ow) Tp H) (sh : Sh 7 1000000 d) (hn : nl d ≤ 10000) (q : ∀ r H', r = V.bl true → St H0 M pu Fz Ow Tp H' → Q r H') : spEat ([v] ++ []) H Q E0 := by
  obtain ⟨S, r, nd, k⟩ := h.eat
  exact ⟨v, d, S, rfl, r, nd, sh, hn, fun r H' e fr => q r H' e (k H' fr)⟩
/-- the items up to i are spoiled -/
def SpI (H : Hp) (l : Addr) (k : Int) (S : List Addr) (vs : List V) (ds : List D) (i : Nat) (H1 : Hp) : Prop :=
  ∃ S1 S2, S = S1 ++ S2 ∧ Reps H1 S1 (vs.take i) (spDs (ds.take i) k).1 ∧ Reps H1 S2 (vs.drop i) (ds.drop i) ∧ H1 l = some (.lst [.int (spDs (ds.take i) k).2]) ∧ ∀ b o, H b = some o → b ∉ S → b ≠ l → H1 b = some o
theorem SpI.zero {H H1 : Hp} {l : Addr} {k : Int} {S : List Addr} {vs : List V} {ds : List D} (r : Reps H1 S vs ds) (hl : H1 l = some (.lst [.int k])) (fr : ∀ b o, H b = some o → b ∉ S → b ≠ l → H1 b = some o) : SpI H l k S vs ds 0 H1 :=
  ⟨[], S, rfl, .nil, r, hl, fr⟩
theorem SpI.fin {H H1 : Hp} {l : Addr} {k : Int} {S : List Addr} {vs : List V} {ds : List D} (h : SpI H l k S vs ds vs.length H1) (e : vs.length = ds.length) : Reps H1 S vs (spDs ds k).1 ∧ H1 l = some (.lst [.int (spDs ds k).2]) ∧ ∀ b o, H b = some o → b ∉ S → b ≠ l → H1 b = some o := by
  obtain ⟨S1, S2, rfl, h1, h2, h3, h4⟩ := h
  rw [List.take_length, e, List.take_length] at h1
  rw [e, List.take_length] at h3
  rw [List.drop_length, e, List.drop_length] at h2
  cases h2
  rw [List.append_nil] at h4 ⊢
  exact ⟨h1, h3, h4⟩
theorem SpI.step {H H1 : Hp} {l : Addr} {k : Int} {S : List Addr} {vs : List V} {ds : List D} {i : Nat} {x : V} {di : D} (nd : S.Nodup) (nl : l ∉ S) (h : SpI H l k S vs ds i H1) (hx : vs[i]? = some x) (hd : ds[i]? = some di) :
    ∃ Sx, Rep H1 Sx x di ∧ Sx.Nodup ∧ l ∉ Sx ∧ H1 l = some (.lst [.int (spDs (ds.take i) k).2]) ∧ ∀ H2, (∀ b o, H1 b = some o → b ∉ Sx → b ≠ l → H2 b = some o) → Rep H2 Sx x (spD di (spDs (ds.take i) k).2).1 → H2 l = some (.lst [.int (spD di (spDs (ds.take i) k).2).2]) → SpI H l k S vs ds (i + 1) H2 := by
  obtain ⟨S1, S2, rfl, h1, h2, h3, h4⟩ := h
  have hi := (List.getElem?_eq_some_iff.mp hx).1
  have ex := (List.getElem?_eq_some_iff.mp hx).2
  have hj := (List.getElem?_eq_some_iff.mp hd).1
  have ed := (List.getElem?_eq_some_iff.mp hd).2
  rw [List.drop_eq_getElem_cons hi, List.drop_eq_getElem_cons hj, ex, ed] at h2
  cases h2 with
  | @cons Sx S3 _ _ _ _ r1 r2 =>
    have n1 := List.nodup_append.mp nd
    have n2 := List.nodup_append.mp n1.2.1
    refine ⟨Sx, r1, n2.1, fun m => nl (List.mem_append_right _ (List.mem_append_left _ m)), h3, fun H2 fr rx hl2 => ?_⟩
    have nt : ∀ t xs, H1 t = some (.tup xs) → H2 t = some (.tup xs) := fun t xs e => fr t _ e (fun m => by
      obtain ⟨ys, e2⟩ := Rep.dom _ _ _ r1 t m
      rw [e] at e2
      cases e2) (fun z => by
      rw [z, h3] at e
      cases e)
    refine ⟨S1 ++ Sx, S3, by rw [List.append_assoc], ?_, ?_, ?_, fun b o e m1 m2 => fr b o (h4 b o e m1 m2) (fun m => m1 (List.mem_append_right _ (List.mem_append_left _ m))) m2⟩
    · have q := Reps.append (Reps.mono nt _ _ _ h1 fun a m o e => fr a o e (fun m2 => n1.2.2 a m a (List.mem_append_left _ m2) rfl) (fun z => nl (z ▸ List.mem_append_left _ m))) (Reps.cons rx .nil)
      rw [List.append_nil] at q
      have e1 : vs.take (i + 1) = vs.take i ++ [x] := by rw [List.take_add_one, hx]; rfl
      have e2 : ds.take (i + 1) = ds.take i ++ [di] := by rw [List.take_add_one, hd]; rfl
      rw [e1, e2, spDs_snoc]
      exact q
    · exact Reps.mono nt _ _ _ r2 fun a m o e => fr a o e (fun m2 => n2.2.2 a m2 a m rfl) (fun z => nl (z ▸ List.mem_append_right _ (List.mem_append_right _ m)))
    · have e2 : ds.take (i + 1) = ds.take i ++ [di] := by rw [List.take_add_one, hd]; rfl
      rw [e2, spDs_snoc]
      exact hl2
/-- [x for x in range(a, b) if P(x)] -/
theorem lc_filt {tt : TT} {σ : L2.St} {H H0 : Hp} {M : Option Addr} {pu : Option (Addr × Int)} {Fz Ow : List (V × D)} {Tp : List (Addr × List V)} {Dl : Addr} {a b : Int} {j : Nat} {Qd : Hp → Prop} (P : Int → Bool)
    (hS : St H0 M pu Fz Ow Tp H) (hD : H Dl = none) (hj : (σ[j]?).isSome = true) (len : b - a ≤ 1000000)
    (step : ∀ x, a ≤ x → x < b → ∀ gs H1, St H0 M pu Fz ((.ref Dl, dI gs) :: Ow) Tp H1 → ∀ R : Bool → Hp → Prop, R (P x) H1 → tt ((wipe σ [j]).set j (some (.int x))) H1 R)
    (k : ∀ H', St H0 M pu Fz ((.ref Dl, dI ((rg a b).filter P)) :: Ow) Tp H' → Qd H') :
    ∃ W : Nat → Nat → Hp → Prop, (∃ m, W 0 m (upd H Dl (.lst []))) ∧ ∀ i m H, W i m H →
      ((Itr a (b - a).toNat).stop i H ∧ Qd H) ∨ ((Itr a (b - a).toNat).go i H ∧ ∃ Nx : Hp → Prop, (∀ H', Nx H' → ∃ m', m' < m ∧ W (i + 1) m' H') ∧ ∀ x H', (Itr a (b - a).toNat).yld i H x H' → gName j x (wipe σ [j]) H' fun σ2 H2 => wipe σ2 [j] = wipe σ [j] ∧ tt σ2 H2 fun b H3 =>
        if b = true then tVar j σ2 H3 fun y H4 => ∃ acc, H4 Dl = some (.lst acc) ∧ acc.length < sizeLine ∧ Nx (upd H4 Dl (.lst (acc ++ [y]))) else Nx H3) := by
  have hjl : j < σ.length := by
    rcases Nat.lt_or_ge j σ.length with h | h
    · exact h
    · rw [List.getElem?_eq_none h] at hj
      cases hj
  refine lc_range (fun i H1 => St H0 M pu Fz ((.ref Dl, dI (((List.range i).map fun i => a + (i : Nat)).filter P)) :: Ow) Tp H1) (by simpa using hS.mkInts (ns := []) hD) (fun i H1 hi h => ?_) (fun H1 h => k _ h)
  refine ⟨?_, ?_⟩
  · show ((σ.set j none).set j _).set j none = σ.set j none
    rw [List.set_set, List.set_set]
  · refine step (a + i) (by omega) (by omega) _ _ h _ ?_
    have er : ((List.range (i + 1)).map fun i => a + (i : Nat)) = ((List.range i).map fun i => a + (i : Nat)) ++ [a + (i : Int)] := by rw [List.range_succ, List.map_append, List.map_singleton]
    cases hP : P (a + i) with
    | true =>
      rw [if_pos rfl]
      obtain ⟨hD2, kp⟩ := h.putInts
      refine ⟨.int (a + i), ?_, _, hD2, szlt ?_, ?_⟩
      · show ((σ.set j none).set j _)[j]? = _
        rw [List.set_set, List.getElem?_set_self hjl]
      · rw [ints_len]
        have := List.length_filter_le P ((List.range i).map fun i => a + (i : Nat))
        rw [List.length_map, List.length_range] at this
        omega
      · have h4 := kp (((List.range i).map fun i => a + (i : Nat)).filter P ++ [a + (i : Int)])
        rw [er, List.filter_append]
        simpa [hP] using h4
    | false =>
      rw [if_neg (by simp), er, List.filter_append]
      simpa [hP] using h
theorem Rdb.up {Fz Ow : List (V × D)} {Tp : List (Addr × List V)} {v : V} {d : D} (x : V × D) (r : Rdb Fz Ow Tp v d) : Rdb Fz (x :: Ow) Tp v d := by
  induction r with
  | non => exact .non
  | bl b => exact .bl b
  | int i => exact .int i
  | str x => exact .str x
  | fz m => exact .fz m
  | ow m => exact .ow (List.mem_cons_of_mem _ m)
  | tp0 m => exact .tp0 m
  | tp1 m _ h1 => exact .tp1 m h1
  | tp2 m _ _ h1 h2 => exact .tp2 m h1 h2
  | tp3 m _ _ _ h1 h2 h3 => exact .tp3 m h1 h2 h3
theorem Rdb.mono {Fz Fz' Ow Ow' : List (V × D)} {Tp Tp' : List (Addr × List V)} {v : V} {d : D} (hF : ∀ x ∈ Fz, x ∈ Fz') (hO : ∀ x ∈ Ow, x ∈ Ow') (hT : ∀ x ∈ Tp, x ∈ Tp') (r : Rdb Fz Ow Tp v d) : Rdb Fz' Ow' Tp' v d := by
  induction r with
  | non => exact .non
  | bl b => exact .bl b
  | int i => exact .int i
  | str x => exact .str x
  | fz m => exact .fz (hF _ m)
  | ow m => exact .ow (hO _ m)
  | tp0 m => exact .tp0 (hT _ m)
  | tp1 m _ h1 => exact .tp1 (hT _ m) h1
  | tp2 m _ _ h1 h2 => exact .tp2 (hT _ m) h1 h2
  | tp3 m _ _ _ h1 h2 h3 => exact .tp3 (hT _ m) h1 h2 h3
theorem Rdb.upT {Fz Ow : List (V × D)} {Tp : List (Addr × List V)} {v : V} {d : D} {x : Addr × List V} (r : Rdb Fz Ow Tp v d) : Rdb Fz Ow (x :: Tp) v d := r.mono (fun _ h => h) (fun _ h => h) fun _ h => List.mem_cons_of_mem _ h
theorem Rdb.upF {Fz Ow : List (V × D)} {Tp : List (Addr × List V)} {v : V} {d : D} {x : V × D} (r : Rdb Fz Ow Tp v d) : Rdb (x :: Fz) Ow Tp v d := r.mono (fun _ h => List.mem_cons_of_mem _ h) (fun _ h => h) fun _ h => h
theorem Rdb.upO {Fz Ow : List (V × D)} {Tp : List (Addr × List V)} {v : V} {d : D} {x : V × D} (r : Rdb Fz Ow Tp v d) : Rdb Fz (x :: Ow) Tp v d := r.up x
/-- a call with arguments that stand in the heap somehow -/
theorem St.callX {H0 H : Hp} {M : Option Addr} {pu : Option (Addr × Int)} {Fz Ow : List (V × D)} {Tp : List (Addr × List V)} {Q : VK} {W : Tw} {vs : List V} {ds : List D} (h : St H0 M pu Fz Ow Tp H) (r : ∃ T, Reps H T vs ds) (w : W ds fun d => ∀ v H', St H0 M pu Fz ((v, d) :: Ow) Tp H' → Q v H') : spT W (vs ++ []) H Q E0 := by
  obtain ⟨T, r⟩ := r
  rw [List.append_nil]
  exact ⟨T, ds, _, r, w, fun d v H' k s n => k v H' (h.new s n)⟩
/-- a fresh list of two things that are readable -/
theorem St.two {H0 H : Hp} {M : Option Addr} {pu : Option (Addr × Int)} {Fz Ow : List (V × D)} {Tp : List (Addr × List V)} {v1 v2 : V} {d1 d2 : D} {L : Addr} (h : St H0 M pu Fz Ow Tp H) (hL : H L = Option.none) (r1 : Rdb Fz Ow Tp v1 d1) (r2 : Rdb Fz Ow Tp v2 d2) :
    St H0 M pu Fz Ow Tp (upd H L (.lst [v1, v2])) ∧ ∃ T, Rep (upd H L (.lst [v1, v2])) T (.ref L) (.list [d1, d2]) := by
  have h1 := h.same (same_upd (o := .lst [v1, v2]) hL)
  obtain ⟨T1, p1, _⟩ := h1.rd r1
  obtain ⟨T2, p2, _⟩ := h1.rd r2
  exact ⟨h1, _, .lst upd_same (.cons p1 (.cons p2 .nil))⟩
end G
local macro_rules | `(tactic| walk_at "mem") => `(tactic| (repeat (first | exact List.Mem.head _ | apply List.Mem.tail)))
local macro_rules | `(tactic| walk_at "pick") => `(tactic| (repeat (first | exact G.Pick.hd | apply G.Pick.tl)))
local macro_rules | `(tactic| walk_at "lit") => `(tactic| (repeat (first | exact G.lit_int | exact G.litA_nil | exact G.lit_bool | exact G.lit_none | exact G.lit_str | refine G.lit_tup ?_ | refine G.lit_lst ?_ | refine G.litA_cons ?_ ?_)))
local macro_rules | `(tactic| walk_at "up") => `(tactic| (repeat (first | assumption | exact G.Rdb.int _ | apply G.Rdb.upO | apply G.Rdb.upT | apply G.Rdb.upF)))
local macro_rules | `(tactic| walk_at "memu") => `(tactic| (repeat (first | exact List.Mem.head _ | assumption | apply List.Mem.tail)))
local macro_rules | `(tactic| walk_at "picku") => `(tactic| (repeat (first | exact G.Pick.hd | assumption | apply G.Pick.tl)))
namespace My
open PySem PySem.Spec PyProof.Rows L2 G
-- for: *
/-! ### effects: the mathematics -/
/-- how many places are left, and how many things are needed, if straight places at the end are cut -/
def trim (gs : List Int) : Nat → Int → Nat × Int
  | 0, n => (0, n)
  | k + 1, n => if gs[k]? = some n ∧ (∀ x ∈ gs.take k, x < n) then trim gs k (n - 1) else (k + 1, n)
def leastE (n : Int) (gs : List Int) : Int × List Int := ((trim gs gs.length n).2, gs.take (trim gs gs.length n).1)
theorem trim_le (gs : List Int) : ∀ (k : Nat) (n : Int), (trim gs k n).1 ≤ k
  | 0, _ => Nat.le_refl _
  | k + 1, n => by
    unfold trim
    split
    · exact Nat.le_succ_of_le (trim_le gs k _)
    · exact Nat.le_refl _
/-- an effect, told in its least way or not -/
structure Eff (e : Int × List Int) : Prop where
  nn : 0 ≤ e.1
  ge : ∀ x ∈ e.2, 1 ≤ x
  le : ∀ x ∈ e.2, x ≤ e.1
/-- the greatest of a list and zero -/
def top (gs : List Int) : Int := gs.foldl (fun a x => max a x) 0
theorem top_app (gs : List Int) (x : Int) : top (gs ++ [x]) = max (top gs) x := by unfold top; simp [List.foldl_append]
theorem top_lt {gs : List Int} {n : Int} (h : 0 < n) : top gs < n ↔ ∀ x ∈ gs, x < n := by
  have aux : ∀ (l : List Int) (a : Int), l.foldl (fun a x => max a x) a < n ↔ a < n ∧ ∀ x ∈ l, x < n := by
    intro l
    induction l with
    | nil => intro a; simp
    | cons y l ih =>
      intro a
      rw [List.foldl_cons, ih]
      constructor
      · rintro ⟨h1, h2⟩
        refine ⟨by omega, fun x hx => ?_⟩
        rcases List.mem_cons.mp hx with rfl | hx
        · omega
        · exact h2 x hx
      · rintro ⟨h1, h2⟩
        have := h2 y List.mem_cons_self
        exact ⟨by omega, fun x hx => h2 x (List.mem_cons_of_mem _ hx)⟩
  unfold top
  rw [aux]
  exact ⟨fun z => z.2, fun z => ⟨h, z⟩⟩
/-- the tops of all beginnings -/
def tops (gs : List Int) : List Int := (List.range (gs.length + 1)).map fun k => top (gs.take k)
theorem tops_app (gs : List Int) (x : Int) : tops (gs ++ [x]) = tops gs ++ [max (top gs) x] := by
  unfold tops
  rw [List.length_append, List.length_singleton, List.range_succ, List.map_append]
  congr 1
  · refine List.map_congr_left fun k hk => ?_
    rw [List.mem_range] at hk
    rw [List.take_append_of_le_length (by omega)]
  · rw [List.map_singleton]
    have e : (gs ++ [x]).take (gs.length + 1) = gs ++ [x] := List.take_of_length_le (by simp)
    rw [e, top_app]
theorem tops_len (gs : List Int) : (tops gs).length = gs.length + 1 := by unfold tops; simp
theorem tops_at {gs : List Int} {k : Nat} (h : k ≤ gs.length) : (tops gs)[k]? = some (top (gs.take k)) := by
  unfold tops
  rw [List.getElem?_map, List.getElem?_range (by omega)]
  rfl
-- for: *
/-! ### least ways -/
theorem trim_pre (gs es : List Int) : ∀ (k : Nat) (n : Int), k ≤ gs.length → trim (gs ++ es) k n = trim gs k n
  | 0, _, _ => rfl
  | k + 1, n, h => by
    unfold trim
    rw [List.getElem?_append_left (by omega), List.take_append_of_le_length (by omega), trim_pre gs es k (n - 1) (by omega)]
theorem leastE_step {n : Int} {gs : List Int} (h : ∀ x ∈ gs, x ≤ n) : leastE (n + 1) (gs ++ [n + 1]) = leastE n gs := by
  have e : trim (gs ++ [n + 1]) (gs ++ [n + 1]).length (n + 1) = trim gs gs.length n := by
    rw [List.length_append, List.length_singleton]
    conv => lhs; unfold trim
    have c : (gs ++ [n + 1])[gs.length]? = some (n + 1) ∧ ∀ x ∈ (gs ++ [n + 1]).take gs.length, x < n + 1 := by
      refine ⟨by simp, fun x hx => ?_⟩
      rw [List.take_left] at hx
      have := h x hx
      omega
    rw [if_pos c]
    have e1 : n + 1 - 1 = n := by omega
    rw [e1]
    exact trim_pre gs [n + 1] _ _ (Nat.le_refl _)
  unfold leastE
  rw [e, List.take_append_of_le_length (trim_le gs _ _)]
theorem rg_snoc {a b : Int} (h : a ≤ b) : rg a (b + 1) = rg a b ++ [b] := by
  unfold rg
  have e : (b + 1 - a).toNat = (b - a).toNat + 1 := by omega
  rw [e, List.range_succ, List.map_append, List.map_singleton]
  congr 2
  omega
theorem rg_nil {a b : Int} (h : b ≤ a) : rg a b = [] := by
  unfold rg
  have e : (b - a).toNat = 0 := by omega
  rw [e]
  rfl
theorem leastE_wide {n : Int} {gs : List Int} (h : ∀ x ∈ gs, x ≤ n) : ∀ m : Nat, leastE (n + m) (gs ++ rg (n + 1) (n + m + 1)) = leastE n gs
  | 0 => by
    rw [rg_nil (by omega), List.append_nil]
    simp
  | m + 1 => by
    have e1 : n + ((m + 1 : Nat) : Int) = n + m + 1 := by omega
    rw [e1, rg_snoc (by omega), ← List.append_assoc, leastE_step (fun x hx => ?_), leastE_wide h m]
    rcases List.mem_append.mp hx with hx | hx
    · have := h x hx
      omega
    · have := mem_rg.mp hx
      omega
theorem leastE_wideI {n m : Int} {gs : List Int} (h : ∀ x ∈ gs, x ≤ n) (h0 : 0 ≤ m) : leastE (n + m) (gs ++ rg (n + 1) (n + m + 1)) = leastE n gs := by
  obtain ⟨k, rfl⟩ : ∃ k : Nat, m = (k : Int) := ⟨m.toNat, by omega⟩
  exact leastE_wide h k
/-- what cutting leaves -/
theorem trim_end (gs : List Int) : ∀ (k : Nat) (n : Int), trim gs (trim gs k n).1 (trim gs k n).2 = trim gs k n
  | 0, _ => rfl
  | k + 1, n => by
    by_cases c : gs[k]? = some n ∧ ∀ x ∈ gs.take k, x < n
    · have e : trim gs (k + 1) n = trim gs k (n - 1) := by
        conv => lhs; unfold trim
        rw [if_pos c]
      rw [e]
      exact trim_end gs k (n - 1)
    · have e : trim gs (k + 1) n = (k + 1, n) := by
        conv => lhs; unfold trim
        rw [if_neg c]
      rw [e]
      exact e
theorem trim_take (gs : List Int) (j : Nat) : ∀ (k : Nat) (n : Int), k ≤ j → k ≤ gs.length → trim (gs.take j) k n = trim gs k n := fun k n h1 h2 => by
  have e : gs = gs.take j ++ gs.drop j := (List.take_append_drop j gs).symm
  conv => rhs; rw [e]
  exact (trim_pre _ _ k n (by rw [List.length_take]; omega)).symm
theorem leastE_idem (n : Int) (gs : List Int) : leastE (leastE n gs).1 (leastE n gs).2 = leastE n gs := by
  have h1 := trim_le gs gs.length n
  have e1 : ((leastE n gs).2).length = (trim gs gs.length n).1 := by
    show (gs.take _).length = _
    rw [List.length_take]
    omega
  have e2 : trim (leastE n gs).2 (leastE n gs).2.length (leastE n gs).1 = trim gs gs.length n := by
    rw [e1]
    show trim (gs.take _) _ (trim gs gs.length n).2 = _
    rw [trim_take gs _ _ _ (Nat.le_refl _) h1, trim_end]
  show ((trim (leastE n gs).2 (leastE n gs).2.length (leastE n gs).1).2, (leastE n gs).2.take (trim (leastE n gs).2 (leastE n gs).2.length (leastE n gs).1).1) = _
  rw [e2]
  show ((trim gs gs.length n).2, (gs.take (trim gs gs.length n).1).take (trim gs gs.length n).1) = _
  rw [List.take_take, Nat.min_self]
  rfl
theorem trim_eff (gs : List Int) (hg : ∀ x ∈ gs, 1 ≤ x) : ∀ (k : Nat) (n : Int), k ≤ gs.length → 0 ≤ n → (∀ x ∈ gs.take k, x ≤ n) → 0 ≤ (trim gs k n).2 ∧ (trim gs k n).2 ≤ n ∧ ∀ x ∈ gs.take (trim gs k n).1, x ≤ (trim gs k n).2
  | 0, n, _, h0, _ => ⟨h0, Int.le_refl _, by
    intro x hx
    change x ∈ gs.take 0 at hx
    simp at hx⟩
  | k + 1, n, hk, h0, hl => by
    by_cases c : gs[k]? = some n ∧ ∀ x ∈ gs.take k, x < n
    · have e : trim gs (k + 1) n = trim gs k (n - 1) := by
        conv => lhs; unfold trim
        rw [if_pos c]
      rw [e]
      have n1 := hg n (List.mem_of_getElem? c.1)
      obtain ⟨a, b, d⟩ := trim_eff gs hg k (n - 1) (by omega) (by omega) (fun x hx => by have := c.2 x hx; omega)
      exact ⟨a, by omega, d⟩
    · have e : trim gs (k + 1) n = (k + 1, n) := by
        conv => lhs; unfold trim
        rw [if_neg c]
      rw [e]
      exact ⟨h0, Int.le_refl _, hl⟩
/-- told in its least way -/
def Lst (e : Int × List Int) : Prop := leastE e.1 e.2 = e
structure LE (n : Int) (gs : List Int) (e : Int × List Int) : Prop where
  eff : Eff e
  lst : Lst e
  le : e.1 ≤ n
  len : e.2.length ≤ gs.length
theorem leastE_ok {n : Int} {gs : List Int} (h : Eff (n, gs)) : LE n gs (leastE n gs) := by
  obtain ⟨a, b, c⟩ := trim_eff gs h.ge gs.length n (Nat.le_refl _) h.nn (by rw [List.take_length]; exact h.le)
  refine ⟨⟨a, fun x hx => h.ge x (List.mem_of_mem_take hx), c⟩, leastE_idem n gs, b, ?_⟩
  show (gs.take _).length ≤ _
  rw [List.length_take]
  omega
theorem leastE_two {d : Int} {g : List Int} : leastE (d + 1) (g ++ [d + 1, d + 1]) = (d + 1, g ++ [d + 1, d + 1]) := by
  have e : trim (g ++ [d + 1, d + 1]) (g ++ [d + 1, d + 1]).length (d + 1) = (g.length + 2, d + 1) := by
    have el : (g ++ [d + 1, d + 1]).length = g.length + 1 + 1 := by simp
    rw [el]
    unfold trim
    rw [if_neg]
    rintro ⟨_, h⟩
    have := h (d + 1) (by
      have e2 : g ++ [d + 1, d + 1] = (g ++ [d + 1]) ++ [d + 1] := by simp
      rw [e2, List.take_append_of_le_length (by simp), List.take_of_length_le (by simp)]
      simp)
    omega
  unfold leastE
  rw [e, List.take_of_length_le (by simp)]
theorem wide_eff {n m : Int} {gs : List Int} (ef : Eff (n, gs)) (m0 : 0 ≤ m) : Eff (n + m, gs ++ rg (n + 1) (n + m + 1)) := by
  have nn : 0 ≤ n := ef.nn
  refine ⟨show 0 ≤ n + m by omega, fun x hx => ?_, fun x hx => ?_⟩
  · rcases List.mem_append.mp hx with hx | hx
    · exact ef.ge x hx
    · have := mem_rg.mp hx
      omega
  · rcases List.mem_append.mp hx with hx | hx
    · have h1 : x ≤ n := ef.le x hx
      show x ≤ n + m
      omega
    · have := mem_rg.mp hx
      show x ≤ n + m
      omega
-- for: *
/-! ### doing, and beneath -/
theorem sh_effE {e : Int × List Int} (h : Eff e) (h1 : e.1 ≤ 100000) (h2 : e.2.length ≤ 4000) : Sh 3 1700000 (dE e) := sh_eff (by have := h.nn; omega) (fun x hx => by
  have a1 := h.ge x hx
  have a2 := h.le x hx
  omega) h2
def doE (e : Int × List Int) (h : List Int) : List Int := e.2.map (fun x => h.getD (x - 1).toNat 0) ++ h.drop e.1.toNat
def underE (e : Int × List Int) (c : Int) : Int × List Int := if e.1 = 0 then (0, []) else (e.1 + c, rg 1 (c + 1) ++ e.2.map (fun x => x + c))
theorem rg_at {a b : Int} {k : Nat} (h : a + k < b) : (rg a b)[k]? = some (a + k) := by
  unfold rg
  rw [List.getElem?_map, List.getElem?_range (by omega)]
  rfl
theorem rg_getD {a b : Int} {k : Nat} (h : a + k < b) : (rg a b).getD k 0 = a + k := by
  rw [List.getD_eq_getElem?_getD, rg_at h]
  rfl
theorem doE_rg {n c : Int} {gs : List Int} (ef : Eff (n, gs)) : doE (n, gs) (rg (c + 1) (n + c + 1)) = gs.map (fun x => x + c) := by
  unfold doE
  have e : (rg (c + 1) (n + c + 1)).drop n.toNat = [] := List.drop_of_length_le (by rw [rg_length]; omega)
  rw [e, List.append_nil]
  refine List.map_congr_left fun x hx => ?_
  have h1 : 1 ≤ x := ef.ge x hx
  have h2 : x ≤ n := ef.le x hx
  rw [rg_getD (by omega)]
  omega
theorem rg_app {a b c : Int} (h1 : a ≤ b) (h2 : b ≤ c) : rg a b ++ rg b c = rg a c := by
  refine List.ext_getElem? fun i => ?_
  have l1 := rg_length a b
  have l2 := rg_length b c
  have l3 := rg_length a c
  by_cases hi : i < (rg a b).length
  · rw [List.getElem?_append_left hi, rg_at (by omega), rg_at (by omega)]
  · rw [List.getElem?_append_right (by omega)]
    by_cases hj : i < (rg a c).length
    · rw [rg_at (by omega), rg_at (by omega)]
      congr 1
      omega
    · rw [List.getElem?_eq_none (by omega), List.getElem?_eq_none (by omega)]
theorem rg_plus {a b c : Int} : (rg a b).map (fun x => x + c) = rg (a + c) (b + c) := by
  refine List.ext_getElem? fun i => ?_
  have l1 := rg_length a b
  have l2 := rg_length (a + c) (b + c)
  rw [List.getElem?_map]
  by_cases hi : i < (rg a b).length
  · rw [rg_at (by omega), rg_at (by omega)]
    show some (a + (i : Int) + c) = some _
    congr 1
    omega
  · rw [List.getElem?_eq_none (by omega), List.getElem?_eq_none (by omega)]
    rfl
theorem trim_under {gs : List Int} (hg : ∀ x ∈ gs, 1 ≤ x) {c : Nat} : ∀ (k : Nat) (n : Int), k ≤ gs.length →
    trim (rg 1 (c + 1) ++ gs.map (fun x => x + (c : Int))) (c + k) (n + c) = trim (rg 1 (c + 1) ++ gs.map (fun x => x + (c : Int))) (c + (trim gs k n).1) ((trim gs k n).2 + c)
  | 0, n, _ => rfl
  | k + 1, n, hk => by
    have lr := rg_length 1 ((c : Int) + 1)
    have er : (rg 1 ((c : Int) + 1)).length = c := by omega
    by_cases q : gs[k]? = some n ∧ ∀ x ∈ gs.take k, x < n
    · have e : trim gs (k + 1) n = trim gs k (n - 1) := by
        conv => lhs; unfold trim
        rw [if_pos q]
      rw [e, ← trim_under hg k (n - 1) (by omega)]
      have n1 := hg n (List.mem_of_getElem? q.1)
      have e2 : c + (k + 1) = (c + k) + 1 := by omega
      rw [e2]
      conv => lhs; unfold trim
      rw [if_pos]
      · congr 1
        omega
      · refine ⟨?_, fun x hx => ?_⟩
        · rw [List.getElem?_append_right (by omega), er, Nat.add_sub_cancel_left, List.getElem?_map, q.1]
          rfl
        · rw [List.take_append, er, Nat.add_sub_cancel_left] at hx
          rcases List.mem_append.mp hx with hx | hx
          · have := mem_rg.mp (List.mem_of_mem_take hx)
            omega
          · rw [← List.map_take] at hx
            obtain ⟨y, hy, rfl⟩ := List.mem_map.mp hx
            have := q.2 y hy
            omega
    · have e : trim gs (k + 1) n = (k + 1, n) := by
        conv => lhs; unfold trim
        rw [if_neg q]
      rw [e]
theorem trim_pos {gs : List Int} {c : Nat} (hl : c ≤ gs.length) (h : ∀ k, k < c → gs[k]? = some ((k : Int) + 1)) : ∀ (k : Nat), k ≤ c → trim gs k k = (0, 0)
  | 0, _ => rfl
  | k + 1, hk => by
    unfold trim
    rw [if_pos]
    · have e : ((k + 1 : Nat) : Int) - 1 = (k : Int) := by omega
      rw [e]
      exact trim_pos hl h k (by omega)
    · refine ⟨?_, fun x hx => ?_⟩
      · rw [h k (by omega)]
        congr 1
      · obtain ⟨i, hi, rfl⟩ := List.getElem_of_mem hx
        rw [List.length_take] at hi
        have e := h i (by omega)
        rw [List.getElem_take]
        have e2 := List.getElem?_eq_some_iff.mp e
        obtain ⟨_, e3⟩ := e2
        rw [e3]
        omega
theorem least_under {n c : Int} {gs : List Int} (ef : Eff (n, gs)) (h0 : 0 ≤ c) : leastE (n + c) (rg 1 (c + 1) ++ gs.map (fun x => x + c)) = underE (leastE n gs) c := by
  obtain ⟨m, rfl⟩ : ∃ m : Nat, c = (m : Int) := ⟨c.toNat, by omega⟩
  have ok := leastE_ok ef
  have lr := rg_length 1 ((m : Int) + 1)
  have er : (rg 1 ((m : Int) + 1)).length = m := by omega
  have ht := trim_le gs gs.length n
  have te := trim_end gs gs.length n
  have el : (rg 1 ((m : Int) + 1) ++ gs.map (fun x => x + (m : Int))).length = m + gs.length := by rw [List.length_append, er, List.length_map]
  have e1 := trim_under ef.ge (c := m) gs.length n (Nat.le_refl _)
  unfold leastE
  rw [el, e1]
  have okd : 0 ≤ (trim gs gs.length n).2 := ok.eff.nn
  have okl : ∀ x ∈ gs.take (trim gs gs.length n).1, x ≤ (trim gs gs.length n).2 := ok.eff.le
  have okg : ∀ x ∈ gs.take (trim gs gs.length n).1, 1 ≤ x := ok.eff.ge
  revert ht te okd okl okg
  generalize trim gs gs.length n = r
  obtain ⟨j, d⟩ := r
  intro ht te okd okl okg
  dsimp only at ht te okd okl okg ⊢
  unfold underE
  dsimp only
  by_cases hd : d = 0
  · subst hd
    rw [if_pos rfl]
    have j0 : j = 0 := by
      cases j with
      | zero => rfl
      | succ j =>
        have hm : gs[0] ∈ gs.take (j + 1) := by
          have : 0 < gs.length := by omega
          rw [List.mem_take_iff_getElem]
          exact ⟨0, by omega, rfl⟩
        have a1 := okl _ hm
        have a2 := okg _ hm
        omega
    subst j0
    have e2 := trim_pos (gs := rg 1 ((m : Int) + 1) ++ gs.map (fun x => x + (m : Int))) (c := m) (by rw [el]; omega) (fun k hk => by
      rw [List.getElem?_append_left (by omega), rg_at (by omega)]
      congr 1
      omega) m (Nat.le_refl _)
    have e3 : (0 : Int) + m = m := by omega
    rw [e3, Nat.add_zero, e2]
    rfl
  · rw [if_neg hd]
    have stay : trim (rg 1 ((m : Int) + 1) ++ gs.map (fun x => x + (m : Int))) (m + j) (d + m) = (m + j, d + m) := by
      cases j with
      | zero =>
        cases m with
        | zero => rfl
        | succ m =>
          show trim _ (m + 1) _ = _
          unfold trim
          rw [if_neg]
          rintro ⟨h1, _⟩
          rw [List.getElem?_append_left (by omega), rg_at (by omega)] at h1
          have := Option.some.inj h1
          omega
      | succ j =>
        show trim _ ((m + j) + 1) _ = _
        unfold trim
        rw [if_neg]
        · rfl
        rintro ⟨h1, h2⟩
        unfold trim at te
        by_cases q : gs[j]? = some d ∧ ∀ x ∈ gs.take j, x < d
        · rw [if_pos q] at te
          have := trim_le gs j (d - 1)
          rw [te] at this
          simp at this
          omega
        · refine q ⟨?_, fun x hx => ?_⟩
          · rw [List.getElem?_append_right (by omega), er, Nat.add_sub_cancel_left, List.getElem?_map] at h1
            cases hq : gs[j]? with
            | none => rw [hq] at h1; cases h1
            | some y =>
              rw [hq] at h1
              have e : y + (m : Int) = d + m := Option.some.inj h1
              congr 1
              omega
          · have := h2 (x + m) (by
              rw [List.take_append, er, Nat.add_sub_cancel_left, ← List.map_take]
              exact List.mem_append_right _ (List.mem_map.mpr ⟨x, hx, rfl⟩))
            omega
    rw [stay]
    dsimp only
    rw [List.take_append, er, Nat.add_sub_cancel_left, ← List.map_take, List.take_of_length_le (by omega)]
theorem under_zero {e : Int × List Int} (h : Eff e) : underE e 0 = e := by
  unfold underE
  obtain ⟨d, g⟩ := e
  by_cases hd : d = 0
  · subst hd
    rw [if_pos rfl]
    cases g with
    | nil => rfl
    | cons x g =>
      have h1 : 1 ≤ x := h.ge x List.mem_cons_self
      have h2 : x ≤ 0 := h.le x List.mem_cons_self
      omega
  · rw [if_neg hd, rg_nil (by omega)]
    simp
theorem under_eff {e : Int × List Int} {c : Int} (h : Eff e) (h0 : 0 ≤ c) : Eff (underE e c) := by
  unfold underE
  have hn := h.nn
  split
  · exact ⟨by simp, by simp, by simp⟩
  · refine ⟨by show 0 ≤ e.1 + c; omega, fun x hx => ?_, fun x hx => ?_⟩
    · rcases List.mem_append.mp hx with hx | hx
      · have := mem_rg.mp hx
        omega
      · obtain ⟨y, hy, rfl⟩ := List.mem_map.mp hx
        have := h.ge y hy
        omega
    · show x ≤ e.1 + c
      rcases List.mem_append.mp hx with hx | hx
      · have := mem_rg.mp hx
        omega
      · obtain ⟨y, hy, rfl⟩ := List.mem_map.mp hx
        have := h.le y hy
        omega
theorem under_lst {e : Int × List Int} {c : Int} (h : Eff e) (hl : Lst e) (h0 : 0 ≤ c) : leastE (underE e c).1 (underE e c).2 = underE e c := by
  have h1 := least_under (n := e.1) (gs := e.2) (c := c) h h0
  rw [show leastE e.1 e.2 = e from hl] at h1
  by_cases hd : e.1 = 0
  · have : underE e c = (0, []) := by unfold underE; rw [if_pos hd]
    rw [this]
    rfl
  · have e1 : underE e c = (e.1 + c, rg 1 (c + 1) ++ e.2.map (fun x => x + c)) := by unfold underE; rw [if_neg hd]
    rw [e1] at h1 ⊢
    exact h1
theorem under_under {e : Int × List Int} {p c : Int} (h : Eff e) (h0 : 0 ≤ p) (h1 : 0 ≤ c) : underE (underE e p) c = underE e (p + c) := by
  have hn := h.nn
  by_cases hd : e.1 = 0
  · have e1 : underE e p = (0, []) := by unfold underE; rw [if_pos hd]
    have e2 : underE e (p + c) = (0, []) := by unfold underE; rw [if_pos hd]
    rw [e1, e2]
    rfl
  · have e1 : underE e p = (e.1 + p, rg 1 (p + 1) ++ e.2.map (fun x => x + p)) := by unfold underE; rw [if_neg hd]
    have e2 : underE e (p + c) = (e.1 + (p + c), rg 1 (p + c + 1) ++ e.2.map (fun x => x + (p + c))) := by unfold underE; rw [if_neg hd]
    rw [e1, e2]
    unfold underE
    dsimp only
    rw [if_neg (by omega), List.map_append, rg_plus, List.map_map, ← List.append_assoc]
    have e3 : (1 : Int) + c = c + 1 := by omega
    have e4 : p + 1 + c = p + c + 1 := by omega
    rw [e3, e4, rg_app (by omega) (by omega)]
    congr 1
    · omega
    · congr 1
      refine List.map_congr_left fun x _ => ?_
      show x + p + c = _
      omega
theorem under_bd {e : Int × List Int} {c : Int} (h : Eff e) (h0 : 0 ≤ c) : (underE e c).1 ≤ e.1 + c ∧ ((underE e c).2.length : Int) ≤ c + e.2.length := by
  have hn := h.nn
  unfold underE
  split
  · exact ⟨by show (0 : Int) ≤ _; omega, by show ((0 : Nat) : Int) ≤ _; omega⟩
  · refine ⟨Int.le_refl _, ?_⟩
    show (((rg 1 (c + 1) ++ e.2.map (fun x => x + c)).length : Nat) : Int) ≤ _
    rw [List.length_append, List.length_map, rg_length]
    omega
-- for: *
/-! ### places before, joins -/
def fromE (e : Int × List Int) (r : Int) : Int := if r ≤ (e.2.length : Nat) then e.2.getD (r - 1).toNat 0 else r + e.1 - (e.2.length : Nat)
def upE (e : Int × List Int) (m : Int) : List Int := e.2 ++ rg (e.1 + 1) (e.1 + m + 1)
def moreE (e : Int × List Int) (d : Int) : Int := if 0 < d - (e.2.length : Nat) then d - (e.2.length : Nat) else 0
def cE (e f : Int × List Int) (m : Int) : Int × List Int := (e.1 + m, doE f (upE e m))
def joinE (e f : Int × List Int) : Int × List Int := leastE (cE e f (moreE e f.1)).1 (cE e f (moreE e f.1)).2
theorem from_trim {gs : List Int} {r : Int} : ∀ (k : Nat) (n : Int), k ≤ gs.length → 1 ≤ r → fromE ((trim gs k n).2, gs.take (trim gs k n).1) r = fromE (n, gs.take k) r
  | 0, n, _, _ => rfl
  | k + 1, n, hk, hr => by
    by_cases q : gs[k]? = some n ∧ ∀ x ∈ gs.take k, x < n
    · have e : trim gs (k + 1) n = trim gs k (n - 1) := by
        conv => lhs; unfold trim
        rw [if_pos q]
      rw [e, from_trim k (n - 1) (by omega) hr]
      unfold fromE
      dsimp only
      rw [List.length_take, List.length_take, Nat.min_eq_left (by omega), Nat.min_eq_left (by omega)]
      by_cases h1 : r ≤ (k : Nat)
      · rw [if_pos h1, if_pos (by omega), List.getD_eq_getElem?_getD, List.getD_eq_getElem?_getD, List.getElem?_take_of_lt (by omega), List.getElem?_take_of_lt (by omega)]
      · rw [if_neg h1]
        by_cases h2 : r ≤ ((k + 1 : Nat) : Int)
        · have e2 : (r - 1).toNat = k := by omega
          rw [if_pos h2, List.getD_eq_getElem?_getD, e2, List.getElem?_take_of_lt (by omega), q.1]
          show _ = n
          omega
        · rw [if_neg h2]
          omega
    · have e : trim gs (k + 1) n = (k + 1, n) := by
        conv => lhs; unfold trim
        rw [if_neg q]
      rw [e]
theorem from_least {n r : Int} {gs : List Int} (hr : 1 ≤ r) : fromE (leastE n gs) r = fromE (n, gs) r := by
  have := from_trim (gs := gs) gs.length n (Nat.le_refl _) hr
  rw [List.take_length] at this
  exact this
theorem from_up {e : Int × List Int} {m : Int} {k : Nat} (h : k < e.2.length + m) (hm : 0 ≤ m) : (upE e m).getD k 0 = fromE e (k + 1) := by
  unfold upE fromE
  have lr := rg_length (e.1 + 1) (e.1 + m + 1)
  rw [List.getD_eq_getElem?_getD]
  by_cases h1 : k < e.2.length
  · have e1 : (((k : Nat) : Int) + 1 - 1).toNat = k := by omega
    rw [List.getElem?_append_left h1, if_pos (by omega), e1, List.getD_eq_getElem?_getD]
  · rw [List.getElem?_append_right (by omega), rg_at (by omega), if_neg (by omega)]
    show _ + _ = _
    omega
theorem up_len {e : Int × List Int} {m : Int} (hm : 0 ≤ m) : (((upE e m).length : Nat) : Int) = e.2.length + m := by
  unfold upE
  have lr := rg_length (e.1 + 1) (e.1 + m + 1)
  rw [List.length_append]
  omega
theorem cE_len {e f : Int × List Int} {m : Int} (hf : Eff f) (hm : 0 ≤ m) (hd : f.1 ≤ e.2.length + m) : (((cE e f m).2.length : Nat) : Int) = f.2.length + (e.2.length + m - f.1) := by
  have ul := up_len (e := e) hm
  have := hf.nn
  show ((doE f (upE e m)).length : Int) = _
  unfold doE
  rw [List.length_append, List.length_map, List.length_drop]
  omega
theorem from_c {e f : Int × List Int} {m r : Int} (hf : Eff f) (hm : 0 ≤ m) (hd : f.1 ≤ e.2.length + m) (hr : 1 ≤ r) : fromE (cE e f m) r = fromE e (fromE f r) := by
  have ul := up_len (e := e) hm
  have cl := cE_len (e := e) hf hm hd
  have hf0 := hf.nn
  have key : ∀ s : Int, 1 ≤ s → s ≤ e.2.length + m → (upE e m).getD (s - 1).toNat 0 = fromE e s := fun s h1 h2 => by
    rw [from_up (k := (s - 1).toNat) (by omega) hm]
    congr 1
    omega
  conv => lhs; unfold fromE
  by_cases h1 : r ≤ (f.2.length : Nat)
  · have e1 : fromE f r = f.2.getD (r - 1).toNat 0 := by unfold fromE; rw [if_pos h1]
    have hi : (r - 1).toNat < f.2.length := by omega
    have em : f.2[(r - 1).toNat]? = some f.2[(r - 1).toNat] := List.getElem?_eq_getElem hi
    have e2 : f.2.getD (r - 1).toNat 0 = f.2[(r - 1).toNat] := by rw [List.getD_eq_getElem?_getD, em]; rfl
    have mm := List.mem_of_getElem? em
    have a1 := hf.ge _ mm
    have a2 := hf.le _ mm
    rw [e1, e2, if_pos (by omega), ← key _ a1 (by omega)]
    show (doE f (upE e m)).getD _ _ = _
    unfold doE
    rw [List.getD_eq_getElem?_getD, List.getElem?_append_left (by rw [List.length_map]; exact hi), List.getElem?_map, em]
    rfl
  · have e1 : fromE f r = r + f.1 - (f.2.length : Nat) := by unfold fromE; rw [if_neg h1]
    rw [e1]
    by_cases h2 : r ≤ ((cE e f m).2.length : Nat)
    · rw [if_pos h2, ← key _ (by omega) (by omega)]
      show (doE f (upE e m)).getD _ _ = _
      unfold doE
      rw [List.getD_eq_getElem?_getD, List.getElem?_append_right (by rw [List.length_map]; omega), List.getElem?_drop, List.length_map, List.getD_eq_getElem?_getD]
      congr 2
      omega
    · rw [if_neg h2]
      unfold fromE
      rw [if_neg (by omega)]
      show r + (e.1 + m) - _ = _
      omega
theorem more_ok {e : Int × List Int} {d : Int} : 0 ≤ moreE e d ∧ d ≤ e.2.length + moreE e d := by
  unfold moreE
  split <;> omega
theorem up_mem {e : Int × List Int} {m x : Int} (he : Eff e) (hx : x ∈ upE e m) : 1 ≤ x ∧ x ≤ e.1 + (if 0 < m then m else 0) := by
  have := he.nn
  rcases List.mem_append.mp hx with hx | hx
  · have a1 := he.ge x hx
    have a2 := he.le x hx
    split <;> omega
  · have a := mem_rg.mp hx
    split <;> omega
theorem cE_eff {e f : Int × List Int} {m : Int} (he : Eff e) (hf : Eff f) (hm : 0 ≤ m) (hd : f.1 ≤ e.2.length + m) : Eff (cE e f m) := by
  have hen := he.nn
  have ul := up_len (e := e) hm
  have all : ∀ x ∈ (cE e f m).2, 1 ≤ x ∧ x ≤ e.1 + m := fun x hx => by
    rcases List.mem_append.mp hx with hx | hx
    · obtain ⟨y, hy, rfl⟩ := List.mem_map.mp hx
      have a1 := hf.ge y hy
      have a2 := hf.le y hy
      have em : (upE e m)[(y - 1).toNat]? = some (upE e m)[(y - 1).toNat] := List.getElem?_eq_getElem (by omega)
      have := up_mem he (List.mem_of_getElem? em)
      rw [List.getD_eq_getElem?_getD, em]
      show _ ≤ (upE e m)[(y - 1).toNat] ∧ (upE e m)[(y - 1).toNat] ≤ _
      revert this
      split <;> omega
    · have := up_mem he (List.mem_of_mem_drop hx)
      revert this
      split <;> omega
  exact ⟨by show 0 ≤ e.1 + m; omega, fun x hx => (all x hx).1, fun x hx => (all x hx).2⟩
theorem join_eff {e f : Int × List Int} (he : Eff e) (hf : Eff f) : Eff (joinE e f) := (leastE_ok (cE_eff he hf more_ok.1 more_ok.2)).eff
theorem join_lst {e f : Int × List Int} : Lst (joinE e f) := leastE_idem _ _
theorem from_join {e f : Int × List Int} {r : Int} (hf : Eff f) (hr : 1 ≤ r) : fromE (joinE e f) r = fromE e (fromE f r) := by
  unfold joinE
  rw [from_least hr]
  exact from_c hf more_ok.1 more_ok.2 hr
theorem from_ge {e : Int × List Int} {r : Int} (he : Eff e) (hr : 1 ≤ r) : 1 ≤ fromE e r := by
  have := he.nn
  unfold fromE
  split
  · have em : e.2[(r - 1).toNat]? = some e.2[(r - 1).toNat] := List.getElem?_eq_getElem (by omega)
    rw [List.getD_eq_getElem?_getD, em]
    exact he.ge _ (List.mem_of_getElem? em)
  · omega
theorem from_le {e : Int × List Int} {r : Int} (he : Eff e) (hr : 1 ≤ r) : fromE e r ≤ r + e.1 := by
  have := he.nn
  unfold fromE
  split
  · have em : e.2[(r - 1).toNat]? = some e.2[(r - 1).toNat] := List.getElem?_eq_getElem (by omega)
    have := he.le _ (List.mem_of_getElem? em)
    rw [List.getD_eq_getElem?_getD, em]
    show e.2[(r - 1).toNat] ≤ _
    omega
  · omega
/-- two least ways of the same shift are one -/
theorem canon_lt {e f : Int × List Int} (he : Eff e) (hf : Eff f) (lf : Lst f) (h : ∀ r, 1 ≤ r → fromE e r = fromE f r) : f.2.length ≤ e.2.length := by
  by_cases c : f.2.length ≤ e.2.length
  · exact c
  exfalso
  have big := h (e.2.length + f.2.length + 1) (by omega)
  unfold fromE at big
  rw [if_neg (by omega), if_neg (by omega)] at big
  have at_ : ∀ j : Nat, j < f.2.length → e.2.length ≤ j → f.2[j]? = some ((j : Int) + 1 + e.1 - (e.2.length : Nat)) := fun j hj hk => by
    have q := h (j + 1) (by omega)
    unfold fromE at q
    have e1 : ((j : Int) + 1 - 1).toNat = j := by omega
    rw [if_neg (by omega), if_pos (by omega), e1, List.getD_eq_getElem?_getD] at q
    have em : f.2[j]? = some f.2[j] := List.getElem?_eq_getElem hj
    rw [em] at q ⊢
    have q2 : _ = f.2[j] := q
    rw [← q2]
  obtain ⟨k, ek⟩ : ∃ k, f.2.length = k + 1 := ⟨f.2.length - 1, by omega⟩
  have cut : trim f.2 (k + 1) f.1 = trim f.2 k (f.1 - 1) := by
    conv => lhs; unfold trim
    rw [if_pos]
    refine ⟨?_, fun x hx => ?_⟩
    · rw [at_ k (by omega) (by omega)]
      congr 1
      omega
    · obtain ⟨j, hj, rfl⟩ := List.getElem_of_mem hx
      rw [List.length_take] at hj
      rw [List.getElem_take]
      have em : f.2[j]? = some f.2[j] := List.getElem?_eq_getElem (by omega)
      by_cases hk : e.2.length ≤ j
      · have q := at_ j (by omega) hk
        rw [em] at q
        have q2 := Option.some.inj q
        omega
      · have q := h (j + 1) (by omega)
        unfold fromE at q
        have e1 : ((j : Int) + 1 - 1).toNat = j := by omega
        have em2 : e.2[j]? = some e.2[j] := List.getElem?_eq_getElem (by omega)
        rw [if_pos (by omega), if_pos (by omega), e1, List.getD_eq_getElem?_getD, List.getD_eq_getElem?_getD, em, em2] at q
        have q2 : e.2[j] = f.2[j] := q
        have := he.le _ (List.mem_of_getElem? em2)
        omega
  have l1 := trim_le f.2 k (f.1 - 1)
  have l2 : (leastE f.1 f.2).2.length = f.2.length := by rw [show leastE f.1 f.2 = f from lf]
  unfold leastE at l2
  dsimp only at l2
  rw [List.length_take, ek, cut] at l2
  omega
theorem canon {e f : Int × List Int} (he : Eff e) (hf : Eff f) (le : Lst e) (lf : Lst f) (h : ∀ r, 1 ≤ r → fromE e r = fromE f r) : e = f := by
  have a1 := canon_lt he hf lf h
  have a2 := canon_lt hf he le fun r hr => (h r hr).symm
  have big := h (e.2.length + f.2.length + 1) (by omega)
  unfold fromE at big
  rw [if_neg (by omega), if_neg (by omega)] at big
  obtain ⟨n, gs⟩ := e
  obtain ⟨d, ls⟩ := f
  dsimp only at *
  have en : n = d := by omega
  subst en
  congr 1
  refine List.ext_getElem? fun j => ?_
  by_cases hj : j < gs.length
  · have q := h (j + 1) (by omega)
    unfold fromE at q
    dsimp only at q
    have e1 : ((j : Int) + 1 - 1).toNat = j := by omega
    have em : gs[j]? = some gs[j] := List.getElem?_eq_getElem hj
    have em2 : ls[j]? = some ls[j] := List.getElem?_eq_getElem (by omega)
    rw [if_pos (by omega), if_pos (by omega), e1, List.getD_eq_getElem?_getD, List.getD_eq_getElem?_getD, em, em2] at q
    rw [em, em2]
    exact congrArg some q
  · rw [List.getElem?_eq_none (by omega), List.getElem?_eq_none (by omega)]
theorem canon_least {e f : Int × List Int} (he : Eff e) (hf : Eff f) (h : ∀ r, 1 ≤ r → fromE e r = fromE f r) : leastE e.1 e.2 = leastE f.1 f.2 :=
  canon (leastE_ok he).eff (leastE_ok hf).eff (leastE_idem _ _) (leastE_idem _ _) fun r hr => by
    rw [from_least hr, from_least hr]
    exact h r hr
def topS (i : Nat) : Stmt := PySem.Challenge.pw_pileshifts_k03_effects_joined.main.body.getD i (.Pass ⟨0, 0, 0, 0⟩)
abbrev s_is_effect : Stmt := topS 4
abbrev N_is_effect : List Str := ["one", "needs", "gives", "spot"]
theorem sc_is_effect : FnScope N_is_effect ["one"] (defScope s_is_effect) := ⟨rfl, rfl, rfl, by decide +kernel, rfl, by decide +kernel, by decide +kernel⟩
abbrev s_least_of : Stmt := topS 5
abbrev N_least_of : List Str := ["needs", "gives", "tops", "spot", "size"]
theorem sc_least_of : FnScope N_least_of ["needs", "gives"] (defScope s_least_of) := ⟨rfl, rfl, rfl, by decide +kernel, rfl, by decide +kernel, by decide +kernel⟩
abbrev s_checked : Stmt := topS 6
abbrev N_checked : List Str := ["one", "needs", "gives"]
theorem sc_checked : FnScope N_checked ["one"] (defScope s_checked) := ⟨rfl, rfl, rfl, by decide +kernel, rfl, by decide +kernel, by decide +kernel⟩
abbrev s_join_of : Stmt := topS 7
abbrev N_join_of : List Str := ["one", "other", "needs", "gives", "deep", "later", "more", "upper", "spot"]
theorem sc_join_of : FnScope N_join_of ["one", "other"] (defScope s_join_of) := ⟨rfl, rfl, rfl, by decide +kernel, rfl, by decide +kernel, by decide +kernel⟩
abbrev s_joined : Stmt := topS 8
abbrev N_joined : List Str := ["one", "other", "first"]
theorem sc_joined : FnScope N_joined ["one", "other"] (defScope s_joined) := ⟨rfl, rfl, rfl, by decide +kernel, rfl, by decide +kernel, by decide +kernel⟩
abbrev s__law_coin : Stmt := topS 10
abbrev N__law_coin : List Str := ["_law_purse", "_law_many", "_law_drawn", "_law_stirred"]
theorem sc__law_coin : FnScope N__law_coin ["_law_purse", "_law_many"] (defScope s__law_coin) := ⟨rfl, rfl, rfl, by decide +kernel, rfl, by decide +kernel, by decide +kernel⟩
abbrev s__law_copied : Stmt := topS 11
abbrev N__law_copied : List Str := ["_law_thing", "_law_one"]
theorem sc__law_copied : FnScope N__law_copied ["_law_thing"] (defScope s__law_copied) := ⟨rfl, rfl, rfl, by decide +kernel, rfl, by decide +kernel, by decide +kernel⟩
abbrev s__law_ps_sack : Stmt := topS 12
abbrev N__law_ps_sack : List Str := ["_law_script", "_law_rank", "_law_cell"]
theorem sc__law_ps_sack : FnScope N__law_ps_sack ["_law_script", "_law_rank"] (defScope s__law_ps_sack) := ⟨rfl, rfl, rfl, by decide +kernel, rfl, by decide +kernel, by decide +kernel⟩
abbrev s__law_ps_least : Stmt := topS 13
abbrev N__law_ps_least : List Str := ["_law_takes", "_law_puts", "_law_size", "_law_turn"]
theorem sc__law_ps_least : FnScope N__law_ps_least ["_law_takes", "_law_puts"] (defScope s__law_ps_least) := ⟨rfl, rfl, rfl, by decide +kernel, rfl, by decide +kernel, by decide +kernel⟩
abbrev s__law_ps_order : Stmt := topS 14
abbrev N__law_ps_order : List Str := ["_law_sack", "_law_takes", "_law_pool", "_law_puts", "_law_turn"]
theorem sc__law_ps_order : FnScope N__law_ps_order ["_law_sack", "_law_takes"] (defScope s__law_ps_order) := ⟨rfl, rfl, rfl, by decide +kernel, rfl, by decide +kernel, by decide +kernel⟩
abbrev s__law_ps_drawn : Stmt := topS 15
abbrev N__law_ps_drawn : List Str := ["_law_sack", "_law_deep", "_law_most", "_law_sort_here", "_law_takes", "_law_menu", "_law_fx", "_law_puts", "_law_rank", "_law_upper", "_law_size", "_law_turn"]
theorem sc__law_ps_drawn : FnScope N__law_ps_drawn ["_law_sack", "_law_deep", "_law_most"] (defScope s__law_ps_drawn) := ⟨rfl, rfl, rfl, by decide +kernel, rfl, by decide +kernel, by decide +kernel⟩
abbrev s__law_ps_wider : Stmt := topS 16
abbrev N__law_ps_wider : List Str := ["_law_sack", "_law_fx", "_law_deep", "_law_most", "_law_more"]
theorem sc__law_ps_wider : FnScope N__law_ps_wider ["_law_sack", "_law_fx", "_law_deep", "_law_most"] (defScope s__law_ps_wider) := ⟨rfl, rfl, rfl, by decide +kernel, rfl, by decide +kernel, by decide +kernel⟩
abbrev s__law_ps_do : Stmt := topS 17
abbrev N__law_ps_do : List Str := ["_law_fx", "_law_heap", "_law_rank"]
theorem sc__law_ps_do : FnScope N__law_ps_do ["_law_fx", "_law_heap"] (defScope s__law_ps_do) := ⟨rfl, rfl, rfl, by decide +kernel, rfl, by decide +kernel, by decide +kernel⟩
abbrev s__law_ps_both : Stmt := topS 18
abbrev N__law_ps_both : List Str := ["_law_fx", "_law_gx", "_law_deep"]
theorem sc__law_ps_both : FnScope N__law_ps_both ["_law_fx", "_law_gx"] (defScope s__law_ps_both) := ⟨rfl, rfl, rfl, by decide +kernel, rfl, by decide +kernel, by decide +kernel⟩
abbrev s__law_ps_same : Stmt := topS 19
abbrev N__law_ps_same : List Str := ["_law_told", "_law_due"]
theorem sc__law_ps_same : FnScope N__law_ps_same ["_law_told", "_law_due"] (defScope s__law_ps_same) := ⟨rfl, rfl, rfl, by decide +kernel, rfl, by decide +kernel, by decide +kernel⟩
abbrev s__law_ps_spoil : Stmt := topS 20
abbrev N__law_ps_spoil : List Str := ["_law_thing", "_law_tally", "_law_inner"]
theorem sc__law_ps_spoil : FnScope N__law_ps_spoil ["_law_thing", "_law_tally"] (defScope s__law_ps_spoil) := ⟨rfl, rfl, rfl, by decide +kernel, rfl, by decide +kernel, by decide +kernel⟩
abbrev s__law_ps_alone : Stmt := topS 21
abbrev N__law_ps_alone : List Str := ["_law_told", "_law_mirror"]
theorem sc__law_ps_alone : FnScope N__law_ps_alone ["_law_told"] (defScope s__law_ps_alone) := ⟨rfl, rfl, rfl, by decide +kernel, rfl, by decide +kernel, by decide +kernel⟩
abbrev s__law_ps_bounds : Stmt := topS 22
abbrev N__law_ps_bounds : List Str := ["_law_sack"]
theorem sc__law_ps_bounds : FnScope N__law_ps_bounds ["_law_sack"] (defScope s__law_ps_bounds) := ⟨rfl, rfl, rfl, by decide +kernel, rfl, by decide +kernel, by decide +kernel⟩
abbrev s__law_ps_right : Stmt := topS 23
abbrev N__law_ps_right : List Str := ["_law_sack", "_law_deep", "_law_most", "_law_fx", "_law_gx", "_law_wide_one", "_law_kept", "_law_due", "_law_told", "_law_idle", "_law_alone", "_law_found"]
theorem sc__law_ps_right : FnScope N__law_ps_right ["_law_sack"] (defScope s__law_ps_right) := ⟨rfl, rfl, rfl, by decide +kernel, rfl, by decide +kernel, by decide +kernel⟩
abbrev s_law : Stmt := topS 24
abbrev N_law : List Str := ["_law_script", "_law_rank", "_law_sack", "_law_turn"]
theorem sc_law : FnScope N_law ["_law_script"] (defScope s_law) := ⟨rfl, rfl, rfl, by decide +kernel, rfl, by decide +kernel, by decide +kernel⟩
structure Prog (K : PySem.W.Frag) (mg : Str → Option Value) where
  blt : Blt mg
  f_is_effect : Addr
  fd_is_effect : FuncData
  d_is_effect : DefAt K mg "is_effect" s_is_effect f_is_effect fd_is_effect ["one"]
  f_least_of : Addr
  fd_least_of : FuncData
  d_least_of : DefAt K mg "least_of" s_least_of f_least_of fd_least_of ["needs", "gives"]
  f_checked : Addr
  fd_checked : FuncData
  d_checked : DefAt K mg "checked" s_checked f_checked fd_checked ["one"]
  f_join_of : Addr
  fd_join_of : FuncData
  d_join_of : DefAt K mg "join_of" s_join_of f_join_of fd_join_of ["one", "other"]
  f_joined : Addr
  fd_joined : FuncData
  d_joined : DefAt K mg "joined" s_joined f_joined fd_joined ["one", "other"]
  f__law_coin : Addr
  fd__law_coin : FuncData
  d__law_coin : DefAt K mg "_law_coin" s__law_coin f__law_coin fd__law_coin ["_law_purse", "_law_many"]
  f__law_copied : Addr
  fd__law_copied : FuncData
  d__law_copied : DefAt K mg "_law_copied" s__law_copied f__law_copied fd__law_copied ["_law_thing"]
  f__law_ps_sack : Addr
  fd__law_ps_sack : FuncData
  d__law_ps_sack : DefAt K mg "_law_ps_sack" s__law_ps_sack f__law_ps_sack fd__law_ps_sack ["_law_script", "_law_rank"]
  f__law_ps_least : Addr
  fd__law_ps_least : FuncData
  d__law_ps_least : DefAt K mg "_law_ps_least" s__law_ps_least f__law_ps_least fd__law_ps_least ["_law_takes", "_law_puts"]
  f__law_ps_order : Addr
  fd__law_ps_order : FuncData
  d__law_ps_order : DefAt K mg "_law_ps_order" s__law_ps_order f__law_ps_order fd__law_ps_order ["_law_sack", "_law_takes"]
  f__law_ps_drawn : Addr
  fd__law_ps_drawn : FuncData
  d__law_ps_drawn : DefAt K mg "_law_ps_drawn" s__law_ps_drawn f__law_ps_drawn fd__law_ps_drawn ["_law_sack", "_law_deep", "_law_most"]
  f__law_ps_wider : Addr
  fd__law_ps_wider : FuncData
  d__law_ps_wider : DefAt K mg "_law_ps_wider" s__law_ps_wider f__law_ps_wider fd__law_ps_wider ["_law_sack", "_law_fx", "_law_deep", "_law_most"]
  f__law_ps_do : Addr
  fd__law_ps_do : FuncData
  d__law_ps_do : DefAt K mg "_law_ps_do" s__law_ps_do f__law_ps_do fd__law_ps_do ["_law_fx", "_law_heap"]
  f__law_ps_both : Addr
  fd__law_ps_both : FuncData
  d__law_ps_both : DefAt K mg "_law_ps_both" s__law_ps_both f__law_ps_both fd__law_ps_both ["_law_fx", "_law_gx"]
  f__law_ps_same : Addr
  fd__law_ps_same : FuncData
  d__law_ps_same : DefAt K mg "_law_ps_same" s__law_ps_same f__law_ps_same fd__law_ps_same ["_law_told", "_law_due"]
  f__law_ps_spoil : Addr
  fd__law_ps_spoil : FuncData
  d__law_ps_spoil : DefAt K mg "_law_ps_spoil" s__law_ps_spoil f__law_ps_spoil fd__law_ps_spoil ["_law_thing", "_law_tally"]
  f__law_ps_alone : Addr
  fd__law_ps_alone : FuncData
  d__law_ps_alone : DefAt K mg "_law_ps_alone" s__law_ps_alone f__law_ps_alone fd__law_ps_alone ["_law_told"]
  f__law_ps_bounds : Addr
  fd__law_ps_bounds : FuncData
  d__law_ps_bounds : DefAt K mg "_law_ps_bounds" s__law_ps_bounds f__law_ps_bounds fd__law_ps_bounds ["_law_sack"]
  f__law_ps_right : Addr
  fd__law_ps_right : FuncData
  d__law_ps_right : DefAt K mg "_law_ps_right" s__law_ps_right f__law_ps_right fd__law_ps_right ["_law_sack"]
  f_law : Addr
  fd_law : FuncData
  d_law : DefAt K mg "law" s_law f_law fd_law ["_law_script"]
section
variable {P : Program} {w : World} {K : PySem.W.Frag} {mg : Str → Option Value} {base : Heap}
/-! ### is_effect -/
def w_is_effect : Tw := fun ds Q => ∃ n gs, ds = [.tuple [.int n, dI gs]] ∧ gs.length ≤ 1000000 ∧ Q (.bool (decide (0 ≤ n) && gs.all fun x => decide (1 ≤ x) && decide (x ≤ n)))
theorem ok_is_effect (p : Prog K mg) : FnG P w K mg base CX0 1 p.f_is_effect p.fd_is_effect ["one"] (spT w_is_effect) := by
  refine okG p.d_is_effect.F sc_is_effect (fun vs H Q E h => ?_) (fun cdv A outer s H vs Q E hg hr h => ?_)
  · obtain ⟨S, ds, G, r, ⟨n, gs, rfl, _⟩, _⟩ := h
    exact r.length
  · obtain ⟨S, ds, G, r, ⟨n, gs, rfl, len, q⟩, k⟩ := h
    obtain ⟨v, rfl, hS⟩ := enter1 r
    obtain ⟨t, v1, v2, rfl, hS⟩ := hS.ftup2 (by walk_at "mem")
    obtain rfl := hS.fint (by walk_at "mem")
    obtain ⟨a, rfl, ha⟩ := hS.rints (.fz (by walk_at "mem"))
    refine ⟨_, (pss_cons (ps_asg (pv 0) (pg_tup rfl (pgs_cons (pg_name (i := 1) sc_is_effect.nd rfl (Or.inr rfl)) (pgs_cons (pg_name (i := 2) sc_is_effect.nd rfl (Or.inl rfl)) pgs_nil))))
      (pss_one (ps_ret (pe_and (pe_cmpR op_ge (pv 1) pe_int (nomark _)) (pe_one (pe_callB (cr_all rfl) (by rfl) p.blt.all (by decide +kernel) (pa_cons (pe_lc (own := [("spot", 3)]) (g := gName 3) (tt := tYes) rfl sc_is_effect.nd (pi_list (pv 2)) (blkOk_by (N := N_is_effect) (sc := defScope s_is_effect) (by decide +kernel)) (fun _ _ _ _ _ => pg_name (i := 3) sc_is_effect.nd rfl (Or.inl rfl)) (fun _ _ _ _ _ => pts_nil) (fun _ _ _ _ _ => (pe_chain op_le op_le pe_int (pv 3) (pv 1)))) pa_nil))))))), ?_⟩
    refine ⟨_, rfl, t, _, rfl, SqT.of (hS.tp (by walk_at "mem")), rfl, _, _, rfl, _, _, rfl, rfl, ?_⟩
    refine ⟨_, rfl, _, _, rfl, rfl, _, rfl, ?_⟩
    by_cases h0 : 0 ≤ n
    · rw [decide_eq_true h0] at q ⊢
      refine iteT ?_
      refine ⟨_, rfl, a, rfl, ⟨_, SqL.of ha⟩, fun D hD => ?_⟩
      refine lc_ints (fun pre H1 => Same H H1 ∧ H1 D = some (.lst ((pre.map fun x => decide (1 ≤ x) && decide (x ≤ n)).map V.bl))) ⟨same_upd hD, upd_same⟩ (fun pre H1 h => h.1 _ _ ha) (fun pre x post H1 e h => ?_) (fun H1 h => ?_)
      · refine ⟨rfl, _, rfl, _, _, rfl, rfl, _, rfl, ?_⟩
        have fin : ∀ b : Bool, b = (decide (1 ≤ x) && decide (x ≤ n)) → ∃ acc, H1 D = some (.lst acc) ∧ acc.length < sizeLine ∧ (fun (pre : List Int) (H1 : Hp) => Same H H1 ∧ H1 D = some (.lst ((pre.map fun x => decide (1 ≤ x) && decide (x ≤ n)).map V.bl))) (pre ++ [x]) (upd H1 D (.lst (acc ++ [V.bl b]))) := fun b eb => by
          subst e
          refine ⟨_, h.2, szlt (by simp at len ⊢; omega), fun c o eo => ?_, ?_⟩
          · rw [upd_ne (ne_of_none eo hD)]
            exact h.1 _ _ eo
          · rw [upd_same, eb]
            simp
        refine iteB (fun h1 => ?_) (fun h1 => ?_)
        · refine ⟨_, rfl, _, _, rfl, rfl, ?_⟩
          exact fin _ (by rw [h1]; rfl)
        · exact fin _ (by rw [h1]; rfl)
      · refine ⟨D, _, rfl, SqL.of h.2, ?_⟩
        have e2 : ((gs.map fun x => decide (1 ≤ x) && decide (x ≤ n)).all id) = gs.all fun x => decide (1 ≤ x) && decide (x ≤ n) := by
          rw [List.all_map]
          rfl
        rw [e2]
        exact k _ _ _ q h.1 ⟨[], .bl _, by simp, by simp⟩
    · rw [decide_eq_false h0] at q ⊢
      exact iteF (k _ _ _ q (Same.refl _) ⟨[], .bl _, by simp, by simp⟩)
/-! ### least_of -/
def w_least_of : Tw := fun ds Q => ∃ n gs, ds = [.int n, dI gs] ∧ (∀ x ∈ gs, 1 ≤ x) ∧ gs.length ≤ 1000000 ∧ Q (dE (leastE n gs))
theorem ok_least_of (p : Prog K mg) : FnG P w K mg base CX0 1 p.f_least_of p.fd_least_of ["needs", "gives"] (spT w_least_of) := by
  refine okG p.d_least_of.F sc_least_of (fun vs H Q E h => ?_) (fun cdv A outer s H vs Q E hg hr h => ?_)
  · obtain ⟨S, ds, G, r, ⟨n, gs, rfl, _⟩, _⟩ := h
    exact r.length
  · obtain ⟨S, ds, G, r, ⟨n, gs, rfl, pos, len, q⟩, kk⟩ := h
    obtain ⟨v1, v2, rfl, hS⟩ := enter2 r
    obtain rfl := hS.fint (by walk_at "mem")
    obtain ⟨a, rfl, ha⟩ := hS.rints (.fz (by walk_at "mem"))
    refine ⟨_, (pss_cons (ps_set (i := 2) sc_least_of.nd rfl (Or.inl rfl) (pe_lst (pa_cons pe_int pa_nil)))
      (pss_cons (ps_for PassesOwn.never rfl (pi_list (pv 1)) (pg_name (i := 3) sc_least_of.nd rfl (Or.inl rfl))
      (pss_one (ps_expr (pe_bm PySem.F.plainAttrs_list PySem.F.slot_list_append PySem.F.type_list_append mt_append (pv 2) (pa_cons (pe_callB (call_max2 rfl) (by rfl) p.blt.max (by decide +kernel) (pa_cons (pe_ix ix_list (pv 2) (pe_un un_neg pe_int) (fun _ _ => rfl)) (pa_cons (pv 3) pa_nil))) pa_nil)))))
      (pss_cons (ps_set (i := 4) sc_least_of.nd rfl (Or.inl rfl) (pe_callB call_len_seq (by rfl) p.blt.len PySem.boot_len (pa_cons (pv 1) pa_nil)))
      (pss_cons (ps_while PassesOwn.never (PW.pt (pw_and (pt_cmpR op_gt (pv 4) pe_int (nomark _)) (pw_and (pt_cmpR op_eq (pe_ix ix_list (pv 1) (pe_op op_sub (pv 4) pe_int) (fun _ _ => rfl)) (pv 0) (nomark _)) (pw_and1 (pt_cmpR op_lt (pe_ix ix_list (pv 2) (pe_op op_sub (pv 4) pe_int) (fun _ _ => rfl)) (pv 0) (nomark _))))))
      (pss_one (ps_par (i := 4) (j := 0) rfl sc_least_of.nd rfl rfl (by decide) rfl rfl (pa_cons (pe_op op_sub (pv 4) pe_int) (pa_cons (pe_op op_sub (pv 0) pe_int) pa_nil)) (by rfl))))
      (pss_one (ps_ret (pe_tup (pa_cons (pv 0) (pa_cons (pe_callTy call_list_of (by rfl) p.blt.list (by decide +kernel) (pa_cons (pe_slice sl_list (pv 1) po_none (po_some (pv 4))) pa_nil)) pa_nil))))))))), ?_⟩
    -- tops = [0]
    refine ⟨szle (by simp), fun t ht => ?_⟩
    have hS1 := hS.mkInts (ns := [0]) ht
    have hat : H a = some (.lst (gs.map V.int)) := ha
    -- the loop over gives
    refine ⟨_, rfl, a, rfl, ⟨_, SqL.of (same_upd ht _ _ ha)⟩, for_ints (ns := gs) (fun pre σ H1 => ∃ y3 y4, σ = [some (.int n), some (.ref a), some (.ref t), y3, y4] ∧ St H .none .none [(.int n, .int n), (.ref a, dI gs)] [(.ref t, dI (tops pre))] [] H1) ⟨none, none, rfl, hS1⟩ (fun pre σ H1 h => ?_) (fun pre x post σ H1 e h => ?_) (fun σ H1 h => ?_)⟩
    · obtain ⟨_, _, _, h⟩ := h
      obtain ⟨a', e, h'⟩ := h.rints (v := .ref a) (.fz (by walk_at "mem"))
      cases e
      exact h'
    · obtain ⟨y3, y4, rfl, h⟩ := h
      obtain ⟨ht1, k⟩ := h.putInts
      have hl : (tops pre).length = pre.length + 1 := tops_len pre
      have hlast : (tops pre)[pre.length]? = some (top pre) := by
        rw [tops_at (Nat.le_refl _), List.take_length]
      have hlastI : atI ((tops pre).map V.int) (-1) = some (.int (top pre)) := by
        unfold atI
        have e1 : ixN ((tops pre).map V.int).length (-1) = some pre.length := by
          unfold ixN
          rw [ints_len, hl, if_neg (by decide), if_pos (by omega)]
          congr 1
          omega
        rw [e1]
        exact ints_at hlast
      refine ⟨_, rfl, .inl ⟨rfl, _, SqL.of ht1⟩, _, rfl, _, rfl, _, _, _, _, rfl, rfl, SqL.of ht1, hlastI, _, rfl, _, _, rfl, t, _, _, rfl, rfl, ht1, szlt ?_, ?_⟩
      · rw [ints_len, hl]
        subst e
        simp at len
        omega
      · refine ⟨some (.int x), y4, rfl, ?_⟩
        have k' := k (tops (pre ++ [x]))
        rw [tops_app] at k'
        rw [tops_app]
        have e2 : (if x > top pre then x else top pre) = max (top pre) x := by omega
        rw [e2]
        simpa using k'
    · obtain ⟨y3, y4, rfl, h⟩ := h
      obtain ⟨ht1, _⟩ := h.putInts
      obtain ⟨a', e, ha1⟩ := h.rints (v := .ref a) (.fz (by walk_at "mem"))
      cases e
      -- size = len(gives)
      refine ⟨_, rfl, a, _, rfl, .inl (SqL.of ha1), ?_⟩
      rw [ints_len]
      -- the while
      refine ⟨fun m σ H2 => H2 = H1 ∧ ∃ n', σ = [some (.int n'), some (.ref a), some (.ref t), y3, some (.int (m : Int))] ∧ m ≤ gs.length ∧ trim gs gs.length n = trim gs m n', ⟨gs.length, rfl, n, rfl, Nat.le_refl _, rfl⟩, fun m σ H2 h2 => ?_⟩
      obtain ⟨rfl, n', rfl, hm, et⟩ := h2
      refine ⟨_, rfl, _, _, rfl, rfl, _, rfl, ?_⟩
      -- the way out: (needs, list(gives[:size]))
      have out : trim gs m n' = (m, n') → tRet (tTup (tCons (tVar 0) (tCons (tCB (fun xs H Q => ∃ p ys, xs = [.ref p] ∧ (SqL K H p ys ∨ SqT K H p ys) ∧ ∀ l, H l = none → Q (.ref l) (upd H l (.lst ys))) (tCons (tSl (rSlL K) (tVar 1) tNoPart (tPart (tVar 4))) tNil)) tNil))) ⟨fun _ H' => Q .non H', Q, fun _ _ => False, fun _ _ => False⟩ [some (.int n'), some (.ref a), some (.ref t), y3, some (.int (m : Int))] H2 := fun eo => by
        have eL : leastE n gs = (n', gs.take m) := by
          unfold leastE
          rw [et, eo]
        rw [eL] at q
        refine ⟨_, rfl, _, rfl, _, rfl, _, rfl, a, _, rfl, SqL.of ha1, fun c hc => ?_⟩
        rw [cutV_to, ← List.map_take]
        have hS2 := h.mkInts (ns := gs.take m) hc
        obtain ⟨hc1, _⟩ := hS2.putInts
        refine ⟨c, _, rfl, .inl (SqL.of hc1), fun l hl => ?_⟩
        have hS3 := hS2.mkInts (ns := gs.take m) hl
        refine ⟨szle (by simp), fun u hu => ?_⟩
        have hS4 := (hS3.mkTup hu).take (.tp2 (List.Mem.head _) (.int n') (.own .hd))
        obtain ⟨sm, nw⟩ := hS4.leave
        exact kk _ _ _ q sm nw
      cases m with
      | zero =>
        refine iteF ?_
        refine iteF (out ?_)
        rfl
      | succ k =>
        have hk : gs[k]? = some gs[k] := List.getElem?_eq_getElem (by omega)
        rw [decide_eq_true (show (0 : Int) < ((k + 1 : Nat) : Int) by omega)]
        refine iteT ?_
        have ei : ((k + 1 : Nat) : Int) - 1 = (k : Int) := by omega
        refine ⟨_, rfl, _, rfl, _, _, rfl, rfl, _, _, _, _, rfl, rfl, SqL.of ha1, at_nat ei (ints_at hk), _, rfl, rfl, _, rfl, ?_⟩
        rw [dec_eq_int]
        have g1 : 1 ≤ gs[k] := pos _ (List.getElem_mem ..)
        by_cases e1 : gs[k] = n'
        · rw [decide_eq_true e1]
          refine iteT ?_
          have htop : (tops gs)[k]? = some (top (gs.take k)) := tops_at (by omega)
          refine ⟨_, rfl, _, rfl, _, _, rfl, rfl, _, _, _, _, rfl, rfl, SqL.of ht1, at_nat ei (ints_at htop), _, rfl, _, _, rfl, rfl, _, rfl, ?_⟩
          by_cases e2 : top (gs.take k) < n'
          · rw [decide_eq_true e2]
            refine iteT ⟨fun σ' H' => ∃ m', m' < k + 1 ∧ (H' = H2 ∧ ∃ n', σ' = [some (.int n'), some (.ref a), some (.ref t), y3, some (.int (m' : Int))] ∧ m' ≤ gs.length ∧ trim gs gs.length n = trim gs m' n'), fun σ' H' z => z, ?_⟩
            refine ⟨_, rfl, _, _, rfl, rfl, _, rfl, _, _, rfl, rfl, _, _, rfl, k, by omega, rfl, n' - 1, ?_, by omega, ?_⟩
            · exact congrArg (fun z => [some (V.int (n' - 1)), some (V.ref a), some (V.ref t), y3, some (V.int z)]) ei
            · rw [et]
              conv => lhs; unfold trim
              rw [if_pos ⟨by rw [hk, e1], (top_lt (by omega)).mp e2⟩]
          · rw [decide_eq_false e2]
            refine iteF (out ?_)
            unfold trim
            rw [if_neg fun z => e2 ((top_lt (by omega)).mpr z.2)]
        · rw [decide_eq_false e1]
          refine iteF (iteF (out ?_))
          unfold trim
          rw [if_neg fun z => e1 (by rw [hk] at z; exact Option.some.inj z.1)]
/-! ### checked -/
def w_checked : Tw := fun ds Q => ∃ n gs, ds = [.tuple [.int n, dI gs]] ∧ Eff (n, gs) ∧ gs.length ≤ 1000000 ∧ Q (dE (leastE n gs))
theorem ok_checked (p : Prog K mg) : FnG P w K mg base CX0 2 p.f_checked p.fd_checked ["one"] (spT w_checked) := by
  refine okG p.d_checked.F sc_checked (fun vs H Q E h => ?_) (fun cdv A outer s H vs Q E hg hr h => ?_)
  · obtain ⟨S, ds, G, r, ⟨n, gs, rfl, _⟩, _⟩ := h
    exact r.length
  · obtain ⟨S, ds, G, r, ⟨n, gs, rfl, ef, len, q⟩, k⟩ := h
    obtain ⟨v, rfl, hS⟩ := enter1 r
    obtain ⟨t, v1, v2, rfl, hS⟩ := hS.ftup2 (by walk_at "mem")
    obtain rfl := hS.fint (by walk_at "mem")
    refine ⟨_, (pss_cons (ps_asg (pv 0) (pg_tup rfl (pgs_cons (pg_name (i := 1) sc_checked.nd rfl (Or.inl rfl)) (pgs_cons (pg_name (i := 2) sc_checked.nd rfl (Or.inl rfl)) pgs_nil))))
      (pss_cons (ps_if (pt_not (pt_val (pe_callG ((ok_is_effect p).mono (by decide)) hg hr (by rfl) p.d_is_effect.gl p.d_is_effect.kp p.d_is_effect.bd pass0 (pa_cons (pv 0) pa_nil))))
      (pss_one ps_never) pss_nil)
      (pss_one (ps_ret (pe_callG ((ok_least_of p).mono (by decide)) hg hr (by rfl) p.d_least_of.gl p.d_least_of.kp p.d_least_of.bd pass0 (pa_cons (pv 1) (pa_cons (pv 2) pa_nil))))))), ?_⟩
    refine ⟨_, rfl, t, _, rfl, SqT.of (hS.tp (by walk_at "mem")), rfl, _, _, rfl, _, _, rfl, rfl, ?_⟩
    -- if not is_effect(one)
    refine ⟨_, rfl, hS.call (vs := [.ref t]) (.cons (.fz (by walk_at "mem")) .nil) ⟨n, gs, rfl, len, fun v' H1 h1 => ?_⟩⟩
    obtain ⟨rfl, h1⟩ := h1.bool
    have et : (decide (0 ≤ n) && gs.all fun x => decide (1 ≤ x) && decide (x ≤ n)) = true := by
      rw [Bool.and_eq_true, decide_eq_true_eq, List.all_eq_true]
      refine ⟨ef.nn, fun x hx => ?_⟩
      rw [Bool.and_eq_true, decide_eq_true_eq, decide_eq_true_eq]
      exact ⟨ef.ge x hx, ef.le x hx⟩
    rw [et]
    refine ⟨_, rfl, iteF ?_⟩
    -- return least_of(needs, gives)
    refine ⟨_, rfl, _, rfl, h1.call (vs := [.int n, v2]) (.cons (.int n) (.cons (.fz (by walk_at "mem")) .nil)) ⟨n, gs, rfl, ef.ge, len, fun v' H2 h2 => ?_⟩⟩
    obtain ⟨sm, nw⟩ := h2.leave
    exact k _ _ _ q sm nw
/-! ### join_of -/
def w_join_of : Tw := fun ds Q => ∃ n gs d ls, ds = [.tuple [.int n, dI gs], .tuple [.int d, dI ls]] ∧ Eff (n, gs) ∧ Eff (d, ls) ∧ n ≤ 10000 ∧ d ≤ 10000 ∧ gs.length ≤ 10000 ∧ ls.length ≤ 10000 ∧ Q (dE (joinE (n, gs) (d, ls)))
theorem ok_join_of (p : Prog K mg) : FnG P w K mg base CX0 2 p.f_join_of p.fd_join_of ["one", "other"] (spT w_join_of) := by
  refine okG p.d_join_of.F sc_join_of (fun vs H Q E h => ?_) (fun cdv A outer s H vs Q E hg hr h => ?_)
  · obtain ⟨S, ds, Gq, r, ⟨n, gs, d, ls, rfl, _⟩, _⟩ := h
    exact r.length
  · obtain ⟨S, ds, Gq, r, ⟨n, gs, d, ls, rfl, ef, eg, n1, d1, l1, l2, q⟩, k⟩ := h
    obtain ⟨v1, v2, rfl, hS⟩ := enter2 r
    have n0 : 0 ≤ n := ef.nn
    have d0 : 0 ≤ d := eg.nn
    obtain ⟨t, w1, w2, rfl, h1⟩ := hS.ftup2 (v := v1) (by walk_at "mem")
    obtain rfl := h1.fint (v := w1) (by walk_at "mem")
    obtain ⟨a, rfl, ha⟩ := h1.rints (v := w2) (ns := gs) (.fz (by walk_at "mem"))
    obtain ⟨t2, w1, w2, rfl, h2⟩ := h1.ftup2 (v := v2) (by walk_at "mem")
    obtain rfl := h2.fint (v := w1) (by walk_at "mem")
    obtain ⟨b, rfl, hb⟩ := h2.rints (v := w2) (ns := ls) (.fz (by walk_at "mem"))
    refine ⟨_, (pss_cons (ps_asg (pv 0) (pg_tup rfl (pgs_cons (pg_name (i := 2) sc_join_of.nd rfl (Or.inl rfl)) (pgs_cons (pg_name (i := 3) sc_join_of.nd rfl (Or.inl rfl)) pgs_nil))))
      (pss_cons (ps_asg (pv 1) (pg_tup rfl (pgs_cons (pg_name (i := 4) sc_join_of.nd rfl (Or.inl rfl)) (pgs_cons (pg_name (i := 5) sc_join_of.nd rfl (Or.inl rfl)) pgs_nil))))
      (pss_cons (ps_set (i := 6) sc_join_of.nd rfl (Or.inl rfl) (pe_callB (call_max2 rfl) (by rfl) p.blt.max (by decide +kernel) (pa_cons pe_int (pa_cons (pe_op op_sub (pv 4) (pe_callB call_len_seq (by rfl) p.blt.len PySem.boot_len (pa_cons (pv 3) pa_nil))) pa_nil))))
      (pss_cons (ps_set (i := 7) sc_join_of.nd rfl (Or.inr rfl) (pe_op op_cat (pv 3) (pe_listRg rfl (by rfl) p.blt.list (prg_2 (by rfl) p.blt.range (pe_op op_add (pv 2) pe_int) (pe_op op_add (pe_op op_add (pv 2) (pv 6)) pe_int)))))
      (pss_one (ps_ret (pe_callG ((ok_least_of p).mono (by decide)) hg hr (by rfl) p.d_least_of.gl p.d_least_of.kp p.d_least_of.bd pass0 (pa_cons (pe_op op_add (pv 2) (pv 6)) (pa_cons (pe_op op_cat (pe_lc (own := [("spot", 8)]) (g := gName 8) (tt := tYes) rfl sc_join_of.nd (pi_list (pv 5)) (blkOk_by (N := N_join_of) (sc := defScope s_join_of) (by decide +kernel)) (fun _ _ _ _ _ => pg_name (i := 8) sc_join_of.nd rfl (Or.inl rfl)) (fun _ _ _ _ _ => pts_nil) (fun _ _ _ _ _ => (pe_ix (show IxR _ (rIxL K) from ix_list) (pv 7) (pe_op op_sub (pv 8) pe_int) (fun _ _ => rfl)))) (pe_slice sl_list (pv 7) (po_some (pv 4)) po_none)) pa_nil))))))))), ?_⟩
    refine ⟨_, rfl, t, _, rfl, SqT.of (h2.tp (by walk_at "mem")), rfl, _, _, rfl, _, _, rfl, rfl, ?_⟩
    refine ⟨_, rfl, t2, _, rfl, SqT.of (h2.tp (by walk_at "mem")), rfl, _, _, rfl, _, _, rfl, rfl, ?_⟩
    -- more = max(0, deep - len(gives))
    refine ⟨_, rfl, _, rfl, a, _, rfl, .inl (SqL.of ha), _, _, rfl, rfl, _, _, rfl, ?_⟩
    rw [ints_len]
    obtain ⟨m, em, hm0, hmd⟩ : ∃ m, moreE (n, gs) d = m ∧ 0 ≤ m ∧ d ≤ gs.length + m := ⟨_, rfl, more_ok⟩
    have em2 : (if 0 < d - (gs.length : Nat) then d - (gs.length : Nat) else 0) = m := em
    rw [em2]
    have mle : m ≤ 10000 := by
      revert em2
      split <;> omega
    -- upper = gives + list(range(needs + 1, needs + more + 1))
    refine ⟨_, rfl, _, rfl, _, _, rfl, rfl, _, rfl, _, rfl, _, _, rfl, rfl, _, _, rfl, rfl, _, _, rfl, rfl, RgOk.of_le (by omega) (by omega) (by omega) (by omega), fun l hl => ?_⟩
    rw [rgV_map]
    have h3 := h2.mkInts (ns := rg (n + 1) (n + m + 1)) hl
    obtain ⟨hl1, _⟩ := h3.putInts
    have lr := rg_length (n + 1) (n + m + 1)
    refine ⟨a, l, _, _, rfl, rfl, same_upd hl _ _ ha, hl1, szle (by rw [ints_len, ints_len]; omega), fun o ho => ?_⟩
    rw [← List.map_append]
    have h4 := h3.mkInts (ns := upE (n, gs) m) ho
    -- return least_of(needs + more, [upper[spot - 1] for spot in later] + upper[deep:])
    obtain ⟨b', e', hb4⟩ := h4.rints (v := .ref b) (ns := ls) (.fz (by walk_at "mem"))
    cases e'
    have ul := up_len (e := (n, gs)) hm0
    have ule : ((upE (n, gs) m).length : Int) = gs.length + m := ul
    refine ⟨_, rfl, _, rfl, _, _, rfl, rfl, _, rfl, b, rfl, ⟨_, SqL.of hb4⟩, fun Dl hD => ?_⟩
    refine lc_map (fun x => (upE (n, gs) m).getD (x - 1).toNat 0) h4 hD (fun _ => (.fz (by walk_at "mem"))) (by omega) (fun x hxm gs' H1 h5 R hR => ?_) (fun H1 h5 => ?_)
    · obtain ⟨o', e, ho1⟩ := h5.rints (v := .ref o) (ns := upE (n, gs) m) (.ow (by walk_at "mem"))
      cases e
      have b1 := eg.ge x hxm
      have b2 : x ≤ d := eg.le x hxm
      have e : (upE (n, gs) m)[(x - 1).toNat]? = some (upE (n, gs) m)[(x - 1).toNat] := List.getElem?_eq_getElem (by omega)
      refine ⟨_, rfl, _, rfl, _, _, rfl, rfl, o, _, x - 1, _, rfl, rfl, SqL.of ho1, at_nat (k := (x - 1).toNat) (by omega) (ints_at e), ?_⟩
      rw [List.getD_eq_getElem?_getD, e] at hR
      exact hR
    · obtain ⟨o', e, ho1⟩ := h5.rints (v := .ref o) (ns := upE (n, gs) m) (.ow (by walk_at "mem"))
      cases e
      refine ⟨_, rfl, _, rfl, _, rfl, o, _, rfl, SqL.of ho1, fun c hc => ?_⟩
      obtain ⟨e, rfl⟩ : ∃ e : Nat, d = (e : Int) := ⟨d.toNat, by omega⟩
      rw [cutV_from, ← List.map_drop]
      have h6 := h5.mkInts (ns := (upE (n, gs) m).drop e) hc
      obtain ⟨hc1, _⟩ := h6.putInts
      obtain ⟨hD1, _⟩ := h5.putInts
      have ldo : (ls.map (fun x => (upE (n, gs) m).getD (x - 1).toNat 0) ++ (upE (n, gs) m).drop e).length ≤ 100000 := by
        rw [List.length_append, List.length_map, List.length_drop]
        omega
      refine ⟨Dl, c, _, _, rfl, rfl, same_upd hc _ _ hD1, hc1, szle (by rw [ints_len, ints_len, ← List.length_append]; omega), fun z hz => ?_⟩
      rw [← List.map_append]
      have h7 := h6.mkInts (ns := ls.map (fun x => (upE (n, gs) m).getD (x - 1).toNat 0) ++ (upE (n, gs) m).drop e) hz
      have ce := cE_eff (m := m) ef eg hm0 hmd
      refine h7.call (vs := [.int (n + m), .ref z]) (.cons (.int _) (.cons (.ow (by walk_at "mem")) .nil)) ⟨n + m, ls.map (fun x => (upE (n, gs) m).getD (x - 1).toNat 0) ++ (upE (n, gs) m).drop e, rfl, ce.ge, by omega, fun v H6 h8 => ?_⟩
      have ej : leastE (n + m) (ls.map (fun x => (upE (n, gs) m).getD (x - 1).toNat 0) ++ (upE (n, gs) m).drop e) = joinE (n, gs) ((e : Int), ls) := by
        unfold joinE
        show _ = leastE (cE (n, gs) ((e : Int), ls) (moreE (n, gs) (e : Int))).1 _
        rw [em]
        rfl
      rw [ej] at h8
      obtain ⟨sm, nw⟩ := h8.leave
      exact k _ _ _ q sm nw
/-! ### joined -/
def w_joined : Tw := fun ds Q => ∃ n gs d ls, ds = [.tuple [.int n, dI gs], .tuple [.int d, dI ls]] ∧ Eff (n, gs) ∧ Eff (d, ls) ∧ n ≤ 10000 ∧ d ≤ 10000 ∧ gs.length ≤ 10000 ∧ ls.length ≤ 10000 ∧ Q (dE (joinE (leastE n gs) (leastE d ls)))
theorem ok_joined (p : Prog K mg) : FnG P w K mg base CX0 3 p.f_joined p.fd_joined ["one", "other"] (spT w_joined) := by
  refine okG p.d_joined.F sc_joined (fun vs H Q E h => ?_) (fun cdv A outer s H vs Q E hg hr h => ?_)
  · obtain ⟨S, ds, Gq, r, ⟨n, gs, d, ls, rfl, _⟩, _⟩ := h
    exact r.length
  · obtain ⟨S, ds, Gq, r, ⟨n, gs, d, ls, rfl, ef, eg, n1, d1, l1, l2, q⟩, k⟩ := h
    obtain ⟨v1, v2, rfl, hS⟩ := enter2 r
    have o1 := leastE_ok ef
    have o2 := leastE_ok eg
    have a1 : (leastE n gs).1 ≤ n := o1.le
    have a2 : (leastE d ls).1 ≤ d := o2.le
    have a3 : (leastE n gs).2.length ≤ gs.length := o1.len
    have a4 : (leastE d ls).2.length ≤ ls.length := o2.len
    refine ⟨_, (pss_cons (ps_set (i := 2) sc_joined.nd rfl (Or.inl rfl) (pe_callG ((ok_checked p).mono (by decide)) hg hr (by rfl) p.d_checked.gl p.d_checked.kp p.d_checked.bd pass0 (pa_cons (pv 0) pa_nil)))
      (pss_one (ps_ret (pe_callG ((ok_join_of p).mono (by decide)) hg hr (by rfl) p.d_join_of.gl p.d_join_of.kp p.d_join_of.bd pass0 (pa_cons (pv 2) (pa_cons (pe_callG ((ok_checked p).mono (by decide)) hg hr (by rfl) p.d_checked.gl p.d_checked.kp p.d_checked.bd pass0 (pa_cons (pv 1) pa_nil)) pa_nil)))))), ?_⟩
    refine ⟨_, rfl, hS.call (vs := [v1]) (.cons (.fz (by walk_at "mem")) .nil) ⟨n, gs, rfl, ef, by omega, fun v H1 h1 => ?_⟩⟩
    refine ⟨_, rfl, _, rfl, h1.call (vs := [v2]) (.cons (.fz (by walk_at "mem")) .nil) ⟨d, ls, rfl, eg, by omega, fun v' H2 h2 => ?_⟩⟩
    refine h2.call (vs := [v, v']) (.cons (.ow (by walk_at "mem")) (.cons (.ow (by walk_at "mem")) .nil)) ⟨(leastE n gs).1, (leastE n gs).2, (leastE d ls).1, (leastE d ls).2, rfl, o1.eff, o2.eff, by omega, by omega, by omega, by omega, fun v H3 h3 => ?_⟩
    obtain ⟨sm, nw⟩ := h3.leave
    exact k _ _ _ q sm nw
/-! ### _law_coin -/
/-- any number below the bound -/
def w__law_coin : Tw := fun ds Q => ∃ m : Int, ds = [.int m] ∧ 0 < m ∧ m < 2 ^ 200 ∧ ∀ r : Int, 0 ≤ r → r < m → Q (.int r)
theorem bits_of {i : Int} {n : Nat} (h0 : 0 < n) (h : i.natAbs < 2 ^ n) : Builtin.Int.intBits i ≤ n := by
  have := PySem.Flt.log2_lt_of h0 h
  unfold Builtin.Int.intBits
  split <;> omega
theorem ok__law_coin (p : Prog K mg) : FnG P w K mg base CX0 1 p.f__law_coin p.fd__law_coin ["_law_purse", "_law_many"] (spP 1 w__law_coin) := by
  refine okG p.d__law_coin.F sc__law_coin (fun vs H Q E h => ?_) (fun cdv A outer s H vs Q E hg hr h => ?_)
  · obtain ⟨p, b, vs', S, ds, G, rfl, _, _, r, _, ⟨m, rfl, _⟩, _⟩ := h
    exact congrArg Nat.succ r.length
  · obtain ⟨u, b, vs', S, ds, G, rfl, hp, hb, r, np, ⟨m, rfl, m0, m1, q⟩, k⟩ := h
    obtain ⟨x, y, z, e, y0, y1, z0, z1⟩ := hp
    cases r with
    | cons r r' =>
      cases r'
      cases r
      have hu : SqL K H u [.int x, .int y, .int z] := SqL.of e
      have ml : m.natAbs.log2 < 9000 := (wide_div (i := 0) (b := 200) m0 (by omega) (by decide) (by decide)).2
      have zb : z.natAbs < 2 ^ 100 := by omega
      refine ⟨_, (pss_cons (ps_if (pt_cmpR op_gt (pe_ix ix_list (pv 0) pe_int (fun _ _ => rfl)) pe_int (nomark _))
      (pss_cons (ps_set (i := 2) sc__law_coin.nd rfl (Or.inl rfl) (pe_op op_mod (pe_callTy call_int1 (by rfl) p.blt.int (by decide +kernel) (pa_cons (pe_ix ix_list (pv 0) pe_int (fun _ _ => rfl)) pa_nil)) (pv 1)))
      (pss_cons (ps_asg (pe_op op_fdivW (pe_ix ix_list (pv 0) pe_int (fun _ _ => rfl)) (pv 1)) (pg_sub (pv 0) pe_int set_list))
      (pss_one (ps_ret (pv 2))))) pss_nil)
      (pss_cons (ps_asg (pe_op op_add (pe_ix ix_list (pv 0) pe_int (fun _ _ => rfl)) pe_int) (pg_sub (pv 0) pe_int set_list))
      (pss_cons (ps_set (i := 3) sc__law_coin.nd rfl (Or.inl rfl) (pe_op op_mod (pe_op op_powW (pe_callTy call_int1 (by rfl) p.blt.int (by decide +kernel) (pa_cons (pe_op op_add (pe_ix ix_list (pv 0) pe_int (fun _ _ => rfl)) (pe_op op_mulB pe_int (pe_ix ix_list (pv 0) pe_int (fun _ _ => rfl)))) pa_nil)) pe_int) (pe_op op_add (pe_op op_powW pe_int pe_int) pe_int)))
      (pss_cons (ps_set (i := 3) sc__law_coin.nd rfl (Or.inl rfl) (pe_op op_mod (pe_op op_powW (pe_callTy call_int1 (by rfl) p.blt.int (by decide +kernel) (pa_cons (pe_op op_add (pv 3) (pe_op op_mulB pe_int (pe_ix ix_list (pv 0) pe_int (fun _ _ => rfl)))) pa_nil)) pe_int) (pe_op op_add (pe_op op_powW pe_int pe_int) pe_int)))
      (pss_one (ps_ret (pe_op op_mod (pe_callTy call_int1 (by rfl) p.blt.int (by decide +kernel) (pa_cons (pe_op op_fdivW (pv 3) pe_int) pa_nil)) (pv 1)))))))), ?_⟩
      -- if purse[0] > 0
      refine ⟨_, rfl, _, _, _, _, rfl, rfl, hu, atI_nat (j := 0) rfl, _, _, rfl, rfl, _, rfl, ?_⟩
      refine iteB (fun _ => ?_) (fun _ => ?_)
      · refine ⟨_, rfl, _, _, _, _, rfl, rfl, hu, atI_nat (j := 0) rfl, .inl ⟨_, rfl, _, rfl, _, _, rfl, rfl, m0, ?_⟩⟩
        refine ⟨_, rfl, _, _, _, _, rfl, rfl, hu, atI_nat (j := 0) rfl, _, rfl, _, _, rfl, rfl, ⟨m0, ml⟩, _, rfl, _, _, _, 0, rfl, rfl, e, rfl, _, rfl, ?_⟩
        refine k _ _ _ (q (x % m) (Int.emod_nonneg _ (by omega)) (Int.emod_lt_of_pos _ m0)) (fun a o eo na => ?_) ⟨x / m, y, z, upd_same, y0, y1, z0, by omega⟩ ⟨[], .int _, by simp, by simp⟩
        rw [upd_ne na]
        exact eo
      · -- purse[2] = purse[2] + 1
        refine ⟨_, rfl, _, _, _, _, rfl, rfl, hu, atI_nat (j := 2) rfl, _, _, rfl, rfl, _, rfl, _, _, _, 2, rfl, rfl, e, rfl, ?_⟩
        have hu2 : SqL K (upd H u (.lst [.int x, .int y, .int (z + 1)])) u [.int x, .int y, .int (z + 1)] := SqL.of upd_same
        have c1 : CMulB 2038074743 (z + 1) := by
          have h1 := bits_of (i := 2038074743) (n := 40) (by decide) (by decide)
          have h2 := bits_of (i := z + 1) (n := 200) (by decide) (by omega)
          show _ < _
          omega
        have c2 : CPowW (y + 2038074743 * (z + 1)) 3 := by
          have h2 := bits_of (i := y + 2038074743 * (z + 1)) (n := 200) (by decide) (by omega)
          refine ⟨by decide, ?_⟩
          omega
        have c3 : CMulB 982451653 (z + 1) := by
          have h1 := bits_of (i := 982451653) (n := 40) (by decide) (by decide)
          have h2 := bits_of (i := z + 1) (n := 200) (by decide) (by omega)
          show _ < _
          omega
        have M1 : (0 : Int) < 10 ^ (25 : Int).toNat + 13 := by decide
        have M2 : (0 : Int) < 10 ^ (24 : Int).toNat + 7 := by decide
        have c4 : ∀ t : Int, CPowW (t % (10 ^ (25 : Int).toNat + 13) + 982451653 * (z + 1)) 2 := fun t => by
          have l1 := Int.emod_nonneg t (show (10 : Int) ^ (25 : Int).toNat + 13 ≠ 0 by decide)
          have l2 := Int.emod_lt_of_pos t M1
          have l3 : (10 : Int) ^ (25 : Int).toNat + 13 < 2 ^ 100 := by decide
          have h2 := bits_of (i := t % (10 ^ (25 : Int).toNat + 13) + 982451653 * (z + 1)) (n := 200) (by decide) (by omega)
          refine ⟨by decide, ?_⟩
          omega
        refine ⟨_, rfl, _, _, _, _, rfl, rfl, hu2, atI_nat (j := 1) rfl, _, rfl, _, _, _, _, rfl, rfl, hu2, atI_nat (j := 2) rfl, _, _, rfl, rfl, c1, _, _, rfl, rfl, .inl ⟨_, rfl, _, _, rfl, rfl, c2, _, _, rfl, rfl, ⟨by decide, by decide⟩, _, _, rfl, rfl, _, _, rfl, rfl, M1, ?_⟩⟩
        refine ⟨_, rfl, _, rfl, _, _, _, _, rfl, rfl, hu2, atI_nat (j := 2) rfl, _, _, rfl, rfl, c3, _, _, rfl, rfl, .inl ⟨_, rfl, _, _, rfl, rfl, c4 _, _, _, rfl, rfl, ⟨by decide, by decide⟩, _, _, rfl, rfl, _, _, rfl, rfl, M2, ?_⟩⟩
        refine ⟨_, rfl, _, _, rfl, rfl, ⟨by decide, by decide +kernel⟩, .inl ⟨_, rfl, _, rfl, _, _, rfl, rfl, m0, ?_⟩⟩
        refine k _ _ _ (q _ (Int.emod_nonneg _ (by omega)) (Int.emod_lt_of_pos _ m0)) (fun a o eo na => ?_) ⟨x, y, z + 1, upd_same, y0, y1, by omega, by omega⟩ ⟨[], .int _, by simp, by simp⟩
        rw [upd_ne na]
        exact eo
/-- [1 + coin(m) for turn in range(n)] -/
theorem coins_lc {σ : L2.St} {H H0 : Hp} {M : Option Addr} {u : Addr} {b : Int} {Fz Ow : List (V × D)} {Tp : List (Addr × List V)} {i j k : Nat} {n m : Int} {Q : VK}
    (hS : St H0 M (some (u, b)) Fz Ow Tp H) (hi : σ[i]? = some (some (.int n))) (h0 : σ[0]? = some (some (.ref u))) (hk : σ[k]? = some (some (.int m))) (nj0 : j ≠ 0) (njk : j ≠ k) (n0 : 0 ≤ n) (n1 : n ≤ 100000) (m0 : 0 < n → 0 < m) (m1 : m < 2 ^ 200) (hb : b + n ≤ 2 ^ 100)
    (q : ∀ (gs : List Int) (Dl : Addr) (H' : Hp), (gs.length : Int) = n → (∀ x ∈ gs, 1 ≤ x ∧ x ≤ m) → St H0 M (some (u, b + n)) Fz ((.ref Dl, dI gs) :: Ow) Tp H' → Q (.ref Dl) H') :
    tLc (iRng1 (tCons (tVar i) tNil)) (gName j) tYes (tOp (rI0 fun i j => V.int (i + j)) (tC (.int 1)) (tCall (spP 1 w__law_coin) [] E0 (tCons (tVar 0) (tCons (tVar k) tNil)))) [j] σ H Q := by
  refine ⟨_, hi, n, rfl, by omega, by omega, fun Dl hD => ?_⟩
  refine lc_range (fun i H1 => ∃ gs : List Int, gs.length = i ∧ (∀ x ∈ gs, 1 ≤ x ∧ x ≤ m) ∧ St H0 M (some (u, b + i)) Fz ((.ref Dl, dI gs) :: Ow) Tp H1) ⟨[], rfl, by simp, by simpa using hS.mkInts (ns := []) hD⟩ (fun i H1 hi1 hI => ?_) (fun H1 hI => ?_)
  · obtain ⟨gs, el, hg, h1⟩ := hI
    have e1 : ∀ x, (List.set (wipe σ [j]) j x)[0]? = σ[0]? := fun x => by
      show ((σ.set j none).set j x)[0]? = _
      rw [List.set_set, List.getElem?_set_ne nj0]
    have e2 : ∀ x, (List.set (wipe σ [j]) j x)[k]? = σ[k]? := fun x => by
      show ((σ.set j none).set j x)[k]? = _
      rw [List.set_set, List.getElem?_set_ne njk]
    refine ⟨?_, ?_⟩
    · show ((σ.set j none).set j _).set j none = σ.set j none
      rw [List.set_set, List.set_set]
    · unfold tYes; dsimp only
      rw [if_pos rfl]
      refine ⟨_, (e1 _).trans h0, _, (e2 _).trans hk, h1.callP (vs := [.int m]) (by omega) (.cons (.int _) .nil) ⟨m, rfl, m0 (by omega), m1, fun r r0 r1 v' H2 h2 => ?_⟩⟩
      obtain ⟨rfl, h3⟩ := h2.int
      obtain ⟨hD2, kp⟩ := h3.putInts
      refine ⟨_, _, rfl, rfl, _, hD2, szlt (by rw [ints_len]; omega), gs ++ [1 + r], by simp [el], fun x hx => ?_, ?_⟩
      · rcases List.mem_append.mp hx with hx | hx
        · exact hg x hx
        · simp at hx
          omega
      · have h4 := kp (gs ++ [1 + r])
        have eb : b + (i : Int) + 1 = b + ((i + 1 : Nat) : Int) := by omega
        rw [eb] at h4
        simpa using h4
  · obtain ⟨gs, el, hg, h1⟩ := hI
    have eb : b + ((n.toNat : Nat) : Int) = b + n := by omega
    rw [eb] at h1
    exact q gs Dl H1 (by omega) hg h1
/-- [1 + coin(m) for turn in range(n)], both told -/
theorem coins_lcC {σ : L2.St} {H H0 : Hp} {M : Option Addr} {u : Addr} {b : Int} {Fz Ow : List (V × D)} {Tp : List (Addr × List V)} {j : Nat} {n m : Int} {Q : VK}
    (hS : St H0 M (some (u, b)) Fz Ow Tp H) (h0 : σ[0]? = some (some (.ref u))) (nj0 : j ≠ 0) (n0 : 0 ≤ n) (n1 : n ≤ 100000) (m0 : 0 < m) (m1 : m < 2 ^ 200) (hb : b + n ≤ 2 ^ 100)
    (q : ∀ (gs : List Int) (Dl : Addr) (H' : Hp), (gs.length : Int) = n → (∀ x ∈ gs, 1 ≤ x ∧ x ≤ m) → St H0 M (some (u, b + n)) Fz ((.ref Dl, dI gs) :: Ow) Tp H' → Q (.ref Dl) H') :
    tLc (iRng1 (tCons (tC (.int n)) tNil)) (gName j) tYes (tOp (rI0 fun i j => V.int (i + j)) (tC (.int 1)) (tCall (spP 1 w__law_coin) [] E0 (tCons (tVar 0) (tCons (tC (.int m)) tNil)))) [j] σ H Q := by
  refine ⟨n, rfl, by omega, by omega, fun Dl hD => ?_⟩
  refine lc_range (fun i H1 => ∃ gs : List Int, gs.length = i ∧ (∀ x ∈ gs, 1 ≤ x ∧ x ≤ m) ∧ St H0 M (some (u, b + i)) Fz ((.ref Dl, dI gs) :: Ow) Tp H1) ⟨[], rfl, by simp, by simpa using hS.mkInts (ns := []) hD⟩ (fun i H1 hi1 hI => ?_) (fun H1 hI => ?_)
  · obtain ⟨gs, el, hg, h1⟩ := hI
    have e1 : ∀ x, (List.set (wipe σ [j]) j x)[0]? = σ[0]? := fun x => by
      show ((σ.set j none).set j x)[0]? = _
      rw [List.set_set, List.getElem?_set_ne nj0]
    refine ⟨?_, ?_⟩
    · show ((σ.set j none).set j _).set j none = σ.set j none
      rw [List.set_set, List.set_set]
    · unfold tYes; dsimp only
      rw [if_pos rfl]
      refine ⟨_, (e1 _).trans h0, h1.callP (vs := [.int m]) (by omega) (.cons (.int _) .nil) ⟨m, rfl, m0, m1, fun r r0 r1 v' H2 h2 => ?_⟩⟩
      obtain ⟨rfl, h3⟩ := h2.int
      obtain ⟨hD2, kp⟩ := h3.putInts
      refine ⟨_, _, rfl, rfl, _, hD2, szlt (by rw [ints_len]; omega), gs ++ [1 + r], by simp [el], fun x hx => ?_, ?_⟩
      · rcases List.mem_append.mp hx with hx | hx
        · exact hg x hx
        · simp at hx
          omega
      · have h4 := kp (gs ++ [1 + r])
        have eb : b + (i : Int) + 1 = b + ((i + 1 : Nat) : Int) := by omega
        rw [eb] at h4
        simpa using h4
  · obtain ⟨gs, el, hg, h1⟩ := hI
    have eb : b + ((n.toNat : Nat) : Int) = b + n := by omega
    rw [eb] at h1
    exact q gs Dl H1 (by omega) hg h1
/-! ### _law_copied -/
/-- a copy of its own, of at most n levels -/
def w__law_copied (n : Nat) : Tw := fun ds Q => ∃ d : D, ds = [d] ∧ d.depth < n ∧ G.wd d ≤ 10000000 ∧ Q d
theorem ok__law_copied (p : Prog K mg) : ∀ n : Nat, FnG P w K mg base CX0 n p.f__law_copied p.fd__law_copied ["_law_thing"] (spT (w__law_copied n)) := by
  intro n
  induction n with
  | zero =>
    refine ⟨fun vs H Q E h => ?_, fun A outer s H args us vs Q E hg hr e0 bt r h => ?_⟩
    · obtain ⟨S, ds, Gq, r, ⟨d, _, h, _⟩, _⟩ := h
      exact absurd h (Nat.not_lt_zero _)
    · obtain ⟨S, ds, Gq, r, ⟨d, _, h, _⟩, _⟩ := h
      exact absurd h (Nat.not_lt_zero _)
  | succ n ih =>
    refine okG p.d__law_copied.F sc__law_copied (fun vs H Q E h => ?_) (fun cdv A outer s H vs Q E hg hr h => ?_)
    · obtain ⟨S, ds, Gq, r, ⟨d, rfl, _⟩, _⟩ := h
      exact r.length
    · obtain ⟨S, ds, Gq, r, ⟨d, rfl, dp, sz, q⟩, k⟩ := h
      obtain ⟨v, rfl, hS⟩ := enter1 r
      obtain ⟨T, rep, _⟩ := hS.rd (v := v) (d := d) (.fz (List.Mem.head _))
      have plain : ∀ {H1 : Hp}, St H .none .none [(v, d)] [(v, d)] [] H1 → Q v H1 := fun h1 => by
        obtain ⟨sm, nw⟩ := h1.leave
        exact k _ _ _ q sm nw
      refine ⟨_, (pss_cons (ps_if (pt_val (pe_callB call_isi (by rfl) p.blt.isinstance (by decide +kernel) (pa_cons (pv 0) (pa_cons (pe_bltn (v := .ty "list") (by rfl) p.blt.list (by decide +kernel) rfl) pa_nil))))
      (pss_one (ps_ret (pe_lc (own := [("_law_one", 1)]) (g := gName 1) (tt := tYes) rfl sc__law_copied.nd (pi_list (pv 0)) (blkOk_by (N := N__law_copied) (sc := defScope s__law_copied) (by decide +kernel)) (fun _ _ _ _ _ => pg_name (i := 1) sc__law_copied.nd rfl (Or.inl rfl)) (fun _ _ _ _ _ => pts_nil) (fun _ _ _ _ _ => (pe_callG ih hg hr (by rfl) p.d__law_copied.gl p.d__law_copied.kp p.d__law_copied.bd pass0 (pa_cons (pv 1) pa_nil)))))) pss_nil)
      (pss_cons (ps_if (pt_val (pe_callB call_isi (by rfl) p.blt.isinstance (by decide +kernel) (pa_cons (pv 0) (pa_cons (pe_bltn (v := .ty "tuple") (by rfl) p.blt.tuple (by decide +kernel) rfl) pa_nil))))
      (pss_one (ps_ret (pe_callTy call_tuple_of (by rfl) p.blt.tuple (by decide +kernel) (pa_cons (pe_lc (own := [("_law_one", 1)]) (g := gName 1) (tt := tYes) rfl sc__law_copied.nd (pi_tup (pv 0)) (blkOk_by (N := N__law_copied) (sc := defScope s__law_copied) (by decide +kernel)) (fun _ _ _ _ _ => pg_name (i := 1) sc__law_copied.nd rfl (Or.inl rfl)) (fun _ _ _ _ _ => pts_nil) (fun _ _ _ _ _ => (pe_callG ih hg hr (by rfl) p.d__law_copied.gl p.d__law_copied.kp p.d__law_copied.bd pass0 (pa_cons (pv 1) pa_nil)))) pa_nil)))) pss_nil)
      (pss_one (ps_ret (pv 0))))), ?_⟩
      refine ⟨_, rfl, v, _, _, _, _, rfl, .ty _, tyx rep, kit_list rep, ?_⟩
      refine ⟨_, rfl, ?_⟩
      cases d with
      | list ds =>
        refine iteT ?_
        simp only [PyData.depth] at dp
        simp only [G.wd] at sz
        obtain ⟨a, vs, rfl, ha, el, h1⟩ := hS.flst (List.Mem.head _)
        refine ⟨_, rfl, a, rfl, ⟨_, SqL.of ha⟩, fun Dl hD => ?_⟩
        have hl := wds_len ds
        refine lc_list (xs := vs) (fun i H1 => i ≤ ds.length ∧ St H .none .none (vs.zip ds ++ [(.ref a, .list ds)]) [(.ref Dl, .list (ds.take i))] [] H1) ⟨Nat.zero_le _, h1.mkLst hD .nil⟩ (fun i H1 _ h => ?_) (fun i x H1 hx h => ?_) (fun H1 h => ?_)
        · obtain ⟨a', vs', _, e1, e2, _⟩ := h.2.rlst (v := .ref a) (ds := ds) (.fz (by simp))
          cases e1
          obtain ⟨Z, S', f1, _⟩ := id h.2
          exact SqL.of ((f1 a _ ha (by intro z; cases z)).2)
        · obtain ⟨hi, h2⟩ := h
          have hil : i < vs.length := (List.getElem?_eq_some_iff.mp hx).1
          obtain ⟨di, hdi⟩ : ∃ e, ds[i]? = some e := ⟨_, List.getElem?_eq_getElem (show i < ds.length by omega)⟩
          have mi := List.mem_of_getElem? hdi
          have z1 := depth_mem mi
          have z2 := wd_mem mi
          refine ⟨rfl, ?_⟩
          unfold tYes
          dsimp only
          rw [if_pos rfl]
          refine ⟨_, rfl, h2.call (vs := [x]) (.cons (.fz (List.mem_append_left _ (zip_mem hx hdi))) .nil) ⟨di, rfl, by omega, by omega, fun v2 H2 h3 => ?_⟩⟩
          have h4 := h3.front (x := (.ref Dl, .list (ds.take i))) (by walk_at "pick")
          obtain ⟨acc, e4, l4, k4⟩ := h4.app
          refine ⟨acc, e4, szlt (by rw [l4, List.length_take]; omega), by omega, ?_⟩
          have h5 := k4 v2 di _ (.own .hd)
          rw [List.take_add_one, hdi]
          exact h5
        · obtain ⟨_, h2⟩ := h
          rw [el, List.take_length] at h2
          obtain ⟨sm, nw⟩ := h2.leave
          exact k _ _ _ q sm nw
      | tuple ds =>
        refine iteF ?_
        refine ⟨_, rfl, v, _, _, _, _, rfl, .ty _, tyx rep, kit_tuple rep, ?_⟩
        refine ⟨_, rfl, ?_⟩
        refine iteT ?_
        simp only [PyData.depth] at dp
        simp only [G.wd] at sz
        obtain ⟨a, vs, rfl, el, h1⟩ := hS.ftup (List.Mem.head _)
        have ha := h1.tp (t := a) (by walk_at "mem")
        refine ⟨_, rfl, a, rfl, ⟨_, SqT.of ha⟩, fun Dl hD => ?_⟩
        have hl := wds_len ds
        refine lc_tup (xs := vs) (fun i H1 => i ≤ ds.length ∧ St H .none .none (vs.zip ds ++ [(.ref a, .tuple ds)]) [(.ref Dl, .list (ds.take i))] [(a, vs)] H1) ⟨Nat.zero_le _, h1.mkLst hD .nil⟩ (fun i H1 _ h => SqT.of (h.2.tp (List.Mem.head _))) (fun i x H1 hx h => ?_) (fun H1 h => ?_)
        · obtain ⟨hi, h2⟩ := h
          have hil : i < vs.length := (List.getElem?_eq_some_iff.mp hx).1
          obtain ⟨di, hdi⟩ : ∃ e, ds[i]? = some e := ⟨_, List.getElem?_eq_getElem (show i < ds.length by omega)⟩
          have mi := List.mem_of_getElem? hdi
          have z1 := depth_mem mi
          have z2 := wd_mem mi
          refine ⟨rfl, ?_⟩
          unfold tYes
          dsimp only
          rw [if_pos rfl]
          refine ⟨_, rfl, h2.call (vs := [x]) (.cons (.fz (List.mem_append_left _ (zip_mem hx hdi))) .nil) ⟨di, rfl, by omega, by omega, fun v2 H2 h3 => ?_⟩⟩
          have h4 := h3.front (x := (.ref Dl, .list (ds.take i))) (by walk_at "pick")
          obtain ⟨acc, e4, l4, k4⟩ := h4.app
          refine ⟨acc, e4, szlt (by rw [l4, List.length_take]; omega), by omega, ?_⟩
          have h5 := k4 v2 di _ (.own .hd)
          rw [List.take_add_one, hdi]
          exact h5
        · obtain ⟨_, h2⟩ := h
          rw [el, List.take_length] at h2
          -- tuple(the list)
          obtain ⟨Z, S', f1, f2, f3, f4, f5, f6, f7, f8⟩ := h2
          cases f3 with
          | cons r1 r2 =>
            cases r2
            cases r1 with
            | @lst _ us Sd _ e rs =>
              refine ⟨Dl, us, rfl, .inl ⟨SqL.of e, fun l hl => ?_⟩⟩
              have nd : Sd.Nodup := (List.nodup_cons.mp (by simpa using f4)).2
              refine k _ _ _ q (fun b o eb => ?_) ⟨Sd, .tup upd_same (Reps.mono (fun t xs et => same_upd hl _ _ et) _ _ _ rs fun b m o eb => same_upd hl _ _ eb), nd, fun b m => ?_⟩
              · exact same_upd hl _ _ (f1 b o eb (by intro z; cases z)).2
              · have := (f5 b (by simp [m])).1
                cases hb : H b with
                | none => rfl
                | some o => exact absurd (f1 b o hb (by intro z; cases z)).1 this
      | none =>
        refine iteF ⟨_, rfl, v, _, _, _, _, rfl, .ty _, tyx rep, kit_tuple rep, ?_⟩
        exact ⟨_, rfl, iteF ⟨_, rfl, plain (hS.unfreeze (List.Mem.head _) rfl)⟩⟩
      | bool b =>
        refine iteF ⟨_, rfl, v, _, _, _, _, rfl, .ty _, tyx rep, kit_tuple rep, ?_⟩
        exact ⟨_, rfl, iteF ⟨_, rfl, plain (hS.unfreeze (List.Mem.head _) rfl)⟩⟩
      | int i =>
        refine iteF ⟨_, rfl, v, _, _, _, _, rfl, .ty _, tyx rep, kit_tuple rep, ?_⟩
        exact ⟨_, rfl, iteF ⟨_, rfl, plain (hS.unfreeze (List.Mem.head _) rfl)⟩⟩
      | str x =>
        refine iteF ⟨_, rfl, v, _, _, _, _, rfl, .ty _, tyx rep, kit_tuple rep, ?_⟩
        exact ⟨_, rfl, iteF ⟨_, rfl, plain (hS.unfreeze (List.Mem.head _) rfl)⟩⟩
      | dict _ => cases rep
/-! ### _law_ps_sack -/
/-- a purse, out of a cell of the script -/
def spSack (K : PySem.W.Frag) : Sp := fun vs H Q _ => ∃ (a : Addr) (ns : List Int) (i : Int), vs = [.ref a, .int i] ∧ SqL K H a (ns.map V.int) ∧ ns.length ≤ 63 ∧ (∀ z ∈ ns, Builtin.Int.intBits z ≤ 1048576) ∧ 0 ≤ i ∧ i ≤ 1000 ∧ ∀ H' q, Same H H' → H q = none → PuAt H' q 0 → Q (.ref q) H'
theorem ok__law_ps_sack (p : Prog K mg) : FnG P w K mg base CX0 1 p.f__law_ps_sack p.fd__law_ps_sack ["_law_script", "_law_rank"] (spSack K) := by
  refine okG p.d__law_ps_sack.F sc__law_ps_sack (fun vs H Q E h => ?_) (fun cdv A outer s H vs Q E hg hr h => ?_)
  · obtain ⟨a, ns, i, rfl, _⟩ := h
    rfl
  · obtain ⟨a, ns, i, rfl, hs, hl, hb, i0, i1, k⟩ := h
    refine ⟨_, (pss_cons (ps_set (i := 2) sc__law_ps_sack.nd rfl (Or.inl rfl) (pe_ifExp (pt_cmpR op_lt (pv 1) (pe_callB call_len_seq (by rfl) p.blt.len PySem.boot_len (pa_cons (pv 0) pa_nil)) (nomark _)) (pe_ix ix_list (pv 0) (pv 1) (fun _ _ => rfl)) pe_int))
      (pss_one (ps_ret (pe_lst (pa_cons (pe_callB (call_max2 rfl) (by rfl) p.blt.max (by decide +kernel) (pa_cons pe_int (pa_cons (pe_op op_sub (pe_callB call_abs (by rfl) p.blt.abs (by decide +kernel) (pa_cons (pv 2) pa_nil)) (pe_op op_powW pe_int pe_int)) pa_nil))) (pa_cons (pe_op op_mod (pe_callTy call_int1 (by rfl) p.blt.int (by decide +kernel) (pa_cons (pe_op op_add (pe_op op_add (pe_op op_mulB (pv 2) pe_int) (pe_op op_mulB (pv 1) pe_int)) pe_int) pa_nil)) (pe_op op_add (pe_op op_powW pe_int pe_int) pe_int)) (pa_cons pe_int pa_nil))))))), ?_⟩
    -- the rest, for any cell of so many bits
    have rest : ∀ c : Int, Builtin.Int.intBits c ≤ 1048576 → ∀ y : List (Option V), y = [some (.ref a), some (.int i), some (.int c)] → tRet (tLst (tCons (tCB (fun xs H Q => ∃ i j, xs = [.int i, .int j] ∧ Q (.int (if j > i then j else i)) H) (tCons (tC (.int 0)) (tCons (tOp (rI0 fun i j => .int (i - j)) (tCB (fun xs H Q => ∃ i, xs = [.int i] ∧ Q (.int (if i < 0 then -i else i)) H) (tCons (tVar 2) tNil)) (tOp (rI CPowW fun i j => .int (i ^ j.toNat)) (tC (.int 10)) (tC (.int 18)))) tNil)))
        (tCons (tOp (rI (fun _ j => 0 < j) fun i j => .int (i % j)) (tCB (fun xs H Q => (∃ i, xs = [.int i] ∧ Q (.int i) H) ∨ ∃ k, xs = [.bl k] ∧ Q (.int (if k then 1 else 0)) H) (tCons (tOp (rI0 fun i j => .int (i + j)) (tOp (rI0 fun i j => .int (i + j)) (tOp (rI CMulB fun i j => .int (i * j)) (tVar 2) (tC (.int 40503))) (tOp (rI CMulB fun i j => .int (i * j)) (tVar 1) (tC (.int 9176741)))) (tC (.int 65537))) tNil)) (tOp (rI0 fun i j => .int (i + j)) (tOp (rI CPowW fun i j => .int (i ^ j.toNat)) (tC (.int 10)) (tC (.int 24))) (tC (.int 7))))
        (tCons (tC (.int 0)) tNil)))) ⟨fun _ H' => Q .non H', Q, fun _ _ => False, fun _ _ => False⟩ y H := fun c hc y ey => by
      subst ey
      have b1 := bits_of (i := 40503) (n := 40) (by decide) (by decide)
      have b2 := bits_of (i := 9176741) (n := 40) (by decide) (by decide)
      have b3 := bits_of (i := i) (n := 100) (by decide) (by omega)
      have M2 : (0 : Int) < 10 ^ (24 : Int).toNat + 7 := by decide
      refine ⟨_, rfl, _, rfl, _, _, rfl, rfl, ⟨by decide, by decide⟩, _, _, rfl, rfl, _, _, rfl, ?_⟩
      refine ⟨_, rfl, _, _, rfl, rfl, (show _ < _ by omega), _, rfl, _, _, rfl, rfl, (show _ < _ by omega), _, _, rfl, rfl, _, _, rfl, rfl, .inl ⟨_, rfl, _, _, rfl, rfl, ⟨by decide, by decide⟩, _, _, rfl, rfl, _, _, rfl, rfl, M2, szle (by simp), fun q hq => ?_⟩⟩
      refine k _ q (same_upd hq) hq ⟨_, _, _, upd_same, Int.emod_nonneg _ (by omega), ?_, by omega, by omega⟩
      exact Int.lt_trans (Int.emod_lt_of_pos _ M2) (by decide)
    refine ⟨_, rfl, _, rfl, a, _, rfl, .inl hs, _, _, rfl, rfl, _, rfl, ?_⟩
    rw [ints_len]
    refine iteB (fun c => ?_) (fun c => ?_)
    · have hi : i < (ns.length : Int) := of_decide_eq_true c
      obtain ⟨z, hz⟩ : ∃ z, ns[i.toNat]? = some z := ⟨_, List.getElem?_eq_getElem (show i.toNat < ns.length by omega)⟩
      exact ⟨_, rfl, _, rfl, a, _, i, _, rfl, rfl, hs, at_nat (k := i.toNat) (by omega) (ints_at hz), rest z (hb z (List.mem_of_getElem? hz)) _ rfl⟩
    · exact rest 0 (by decide) _ rfl
/-! ### _law_ps_least -/
def w__law_ps_least : Tw := fun ds Q => ∃ n gs, ds = [.int n, dI gs] ∧ (∀ x ∈ gs, x ≤ n) ∧ gs.length ≤ 1000000 ∧ Q (dE (leastE n gs))
theorem ok__law_ps_least (p : Prog K mg) : FnG P w K mg base CX0 1 p.f__law_ps_least p.fd__law_ps_least ["_law_takes", "_law_puts"] (spT w__law_ps_least) := by
  refine okG p.d__law_ps_least.F sc__law_ps_least (fun vs H Q E h => ?_) (fun cdv A outer s H vs Q E hg hr h => ?_)
  · obtain ⟨S, ds, G, r, ⟨n, gs, rfl, _⟩, _⟩ := h
    exact r.length
  · obtain ⟨S, ds, G, r, ⟨n, gs, rfl, le, len, q⟩, k⟩ := h
    obtain ⟨v1, v2, rfl, hS⟩ := enter2 r
    obtain rfl := hS.fint (by walk_at "mem")
    obtain ⟨a, rfl, ha⟩ := hS.rints (.fz (by walk_at "mem"))
    refine ⟨_, (pss_cons (ps_set (i := 2) sc__law_ps_least.nd rfl (Or.inl rfl) (pe_callB call_len_seq (by rfl) p.blt.len PySem.boot_len (pa_cons (pv 1) pa_nil)))
      (pss_cons (ps_for PassesOwn.never rfl (pi_range1 (by rfl) p.blt.range (pa_cons (pe_callB call_len_seq (by rfl) p.blt.len PySem.boot_len (pa_cons (pv 1) pa_nil)) pa_nil)) (pg_name (i := 3) sc__law_ps_least.nd rfl (Or.inl rfl))
      (pss_one (ps_if (PW.pt (pw_and (pt_cmpR (op_eqD hr.units) (pe_slice sl_list (pv 1) (po_some (pe_op op_sub (pv 2) pe_int)) (po_some (pv 2))) (pe_lst (pa_cons (pv 0) pa_nil)) (nomark _)) (pw_and1 (pt_cmpR op_notIn_seq (pv 0) (pe_slice sl_list (pv 1) po_none (po_some (pe_op op_sub (pv 2) pe_int))) rfl))))
      (pss_one (ps_par (i := 0) (j := 2) rfl sc__law_ps_least.nd rfl rfl (by decide) rfl rfl (pa_cons (pe_op op_sub (pv 0) pe_int) (pa_cons (pe_op op_sub (pv 2) pe_int) pa_nil)) (by rfl))) pss_nil)))
      (pss_one (ps_ret (pe_tup (pa_cons (pv 0) (pa_cons (pe_slice sl_list (pv 1) po_none (po_some (pv 2))) pa_nil))))))), ?_⟩
    refine ⟨_, rfl, a, _, rfl, .inl (SqL.of ha), ?_⟩
    refine ⟨_, rfl, a, _, rfl, .inl (SqL.of ha), _, rfl, by rw [ints_len]; omega, by rw [ints_len]; omega, ?_⟩
    rw [ints_len]
    refine for_range (fun i σ H1 => ∃ n' m y3, σ = [some (.int n'), some (.ref a), some (.int (m : Nat)), y3] ∧ St H .none .none [(.int n, .int n), (.ref a, dI gs)] [] [] H1 ∧ m ≤ gs.length ∧ trim gs gs.length n = trim gs m n' ∧ (∀ x ∈ gs.take m, x ≤ n') ∧ (m = gs.length - i ∨ trim gs m n' = (m, n'))) ⟨n, gs.length, none, rfl, hS, Nat.le_refl _, rfl, by rw [List.take_length]; exact le, .inl rfl⟩ (fun i σ H1 hi hI => ?_) (fun σ H1 hI => ?_)
    · obtain ⟨n', m, y3, rfl, h1, hm, et, hle, alt⟩ := hI
      obtain ⟨a', e, ha1⟩ := h1.rints (v := .ref a) (.fz (by walk_at "mem"))
      cases e
      have hi' : i < gs.length := by simpa using hi
      -- what a turn does
      have go : trim gs m n' = (m, n') → ∃ n'' m'' y3', [some (V.int n'), some (.ref a), some (.int (m : Nat)), some (V.int (0 + (i : Int)))] = [some (V.int n''), some (.ref a), some (.int (m'' : Nat)), y3'] ∧ St H .none .none [(.int n, .int n), (.ref a, dI gs)] [] [] H1 ∧ m'' ≤ gs.length ∧ trim gs gs.length n = trim gs m'' n'' ∧ (∀ x ∈ gs.take m'', x ≤ n'') ∧ (m'' = gs.length - (i + 1) ∨ trim gs m'' n'' = (m'', n'')) := fun z => ⟨n', m, _, rfl, h1, hm, et, hle, .inr z⟩
      cases m with
      | zero =>
        -- puts[-1:0] == [takes]
        refine ⟨_, rfl, _, rfl, _, _, rfl, rfl, _, rfl, _, rfl, _, rfl, a, _, rfl, SqL.of ha1, fun c hc => ?_⟩
        have e0 : cutV (gs.map V.int) (some (((0 : Nat) : Int) - 1)) (some ((0 : Nat) : Int)) = ([] : List Int).map V.int := cutV_neg _ _
        rw [e0]
        have h2 := h1.mkInts (ns := []) hc
        obtain ⟨hc1, _⟩ := h2.putInts
        refine ⟨_, rfl, szle (by simp), fun l hl => ?_⟩
        have h3 := h2.mkInts (ns := [n']) hl
        obtain ⟨hl1, _⟩ := h3.putInts
        refine ⟨_, _, dp_ints (same_upd hl _ _ hc1), dp_ints hl1, shaped_ints _, shaped_ints _, _, rfl, ?_⟩
        rw [eqv_ints, decide_eq_false (by simp)]
        refine iteF (iteF ?_)
        obtain ⟨n'', m'', y3', e1, h4, rest⟩ := go rfl
        exact ⟨n'', m'', y3', e1, (h3.drop).drop, rest⟩
      | succ j =>
        have hj : gs[j]? = some gs[j] := List.getElem?_eq_getElem (by omega)
        have ej : ((j + 1 : Nat) : Int) - 1 = (j : Int) := by omega
        refine ⟨_, rfl, _, rfl, _, _, rfl, rfl, _, rfl, _, rfl, _, rfl, a, _, rfl, SqL.of ha1, fun c hc => ?_⟩
        have e0 : cutV (gs.map V.int) (some (((j + 1 : Nat) : Int) - 1)) (some ((j + 1 : Nat) : Int)) = [gs[j]].map V.int := by
          rw [ej, cutV_mid]
          have e1 : j + 1 - j = 1 := by omega
          rw [e1, ← List.map_drop, ← List.map_take, List.take_one, List.head?_drop, hj]
          rfl
        rw [e0]
        have h2 := h1.mkInts (ns := [gs[j]]) hc
        obtain ⟨hc1, _⟩ := h2.putInts
        refine ⟨_, rfl, szle (by simp), fun l hl => ?_⟩
        have h3 := h2.mkInts (ns := [n']) hl
        obtain ⟨hl1, _⟩ := h3.putInts
        refine ⟨_, _, dp_ints (same_upd hl _ _ hc1), dp_ints hl1, shaped_ints _, shaped_ints _, _, rfl, ?_⟩
        rw [eqv_ints]
        by_cases c1 : gs[j] = n'
        · rw [decide_eq_true (by rw [c1])]
          refine iteT ?_
          obtain ⟨a', e, ha3⟩ := h3.rints (v := .ref a) (.fz (by walk_at "mem"))
          cases e
          -- takes not in puts[:size - 1]
          refine ⟨_, rfl, _, rfl, _, rfl, _, _, rfl, rfl, _, rfl, a, _, rfl, SqL.of ha3, fun o ho => ?_⟩
          rw [ej, cutV_to, ← List.map_take]
          have h4 := h3.mkInts (ns := gs.take j) ho
          obtain ⟨ho1, _⟩ := h4.putInts
          refine ⟨o, _, rfl, .inl (SqL.of ho1), rfl, flat_ints _, _, rfl, ?_⟩
          rw [inV_ints]
          have h5 := ((h4.drop).drop).drop
          by_cases c2 : n' ∈ gs.take j
          · rw [decide_eq_true c2]
            refine iteF ?_
            have z : trim gs (j + 1) n' = (j + 1, n') := by
              unfold trim
              rw [if_neg fun z => Int.lt_irrefl _ (z.2 _ c2)]
            obtain ⟨n'', m'', y3', e1, _, rest⟩ := go z
            exact ⟨n'', m'', y3', e1, h5, rest⟩
          · rw [decide_eq_false c2]
            refine iteT ?_
            have lt : ∀ x ∈ gs.take j, x < n' := fun x hx => by
              have h6 : x ≤ n' := hle x (by rw [List.take_add_one]; exact List.mem_append_left _ hx)
              have h7 : x ≠ n' := fun z => c2 (z ▸ hx)
              omega
            have et2 : trim gs (j + 1) n' = trim gs j (n' - 1) := by
              conv => lhs; unfold trim
              rw [if_pos ⟨by rw [hj, c1], lt⟩]
            refine ⟨_, rfl, _, _, rfl, rfl, _, rfl, _, _, rfl, rfl, _, _, rfl, n' - 1, j, some (V.int (0 + (i : Int))), ?_, h5, by omega, et.trans et2, fun x hx => by have := lt x hx; omega, ?_⟩
            · exact congrArg (fun z => [some (V.int (n' - 1)), some (.ref a), some (.int z), some (V.int (0 + (i : Int)))]) ej
            · rcases alt with z | z
              · exact .inl (by omega)
              · rw [et2] at z
                have := trim_le gs j (n' - 1)
                rw [z] at this
                simp at this
                omega
        · rw [decide_eq_false (fun z => c1 (List.cons.inj z).1)]
          refine iteF (iteF ?_)
          have z : trim gs (j + 1) n' = (j + 1, n') := by
            unfold trim
            rw [if_neg fun z => c1 (by rw [hj] at z; exact Option.some.inj z.1)]
          obtain ⟨n'', m'', y3', e1, _, rest⟩ := go z
          exact ⟨n'', m'', y3', e1, (h3.drop).drop, rest⟩
    · obtain ⟨n', m, y3, rfl, h1, hm, et, hle, alt⟩ := hI
      obtain ⟨a', e, ha1⟩ := h1.rints (v := .ref a) (.fz (by walk_at "mem"))
      cases e
      have eo : trim gs m n' = (m, n') := by
        rcases alt with z | z
        · have : m = 0 := by
            have e1 : ((gs.length : Nat) : Int).toNat = gs.length := by simp
            rw [e1] at z
            omega
          subst this
          rfl
        · exact z
      have eL : leastE n gs = (n', gs.take m) := by
        unfold leastE
        rw [et, eo]
      rw [eL] at q
      refine ⟨_, rfl, _, rfl, _, rfl, _, rfl, a, _, rfl, SqL.of ha1, fun c hc => ?_⟩
      rw [cutV_to, ← List.map_take]
      have h2 := h1.mkInts (ns := gs.take m) hc
      refine ⟨szle (by simp), fun u hu => ?_⟩
      have h3 := (h2.mkTup hu).take (.tp2 (List.Mem.head _) (.int n') (.own .hd))
      obtain ⟨sm, nw⟩ := h3.leave
      exact k _ _ _ q sm nw
/-! ### _law_ps_order -/
/-- an order of the places -/
def w__law_ps_order : Tw := fun ds Q => ∃ n : Int, ds = [.int n] ∧ 0 ≤ n ∧ n ≤ 1000 ∧ ∀ gs : List Int, gs.Perm (rg 1 (n + 1)) → Q (dI gs)
theorem erase_perm {l : List Int} {k : Nat} {y : Int} (h : l[k]? = some y) : (y :: l.eraseIdx k).Perm l := by
  induction l generalizing k with
  | nil => simp at h
  | cons x l ih =>
    cases k with
    | zero =>
      simp at h
      subst h
      exact .refl _
    | succ k =>
      have q := ih (k := k) (by simpa using h)
      simp only [List.eraseIdx_cons_succ]
      exact (List.Perm.swap x y _).trans (q.cons x)
theorem ok__law_ps_order (p : Prog K mg) : FnG P w K mg base CX0 2 p.f__law_ps_order p.fd__law_ps_order ["_law_sack", "_law_takes"] (spP 1000 w__law_ps_order) := by
  refine okG p.d__law_ps_order.F sc__law_ps_order (fun vs H Q E h => ?_) (fun cdv A outer s H vs Q E hg hr h => ?_)
  · obtain ⟨p, b, vs', S, ds, G, rfl, _, _, r, _, ⟨m, rfl, _⟩, _⟩ := h
    exact congrArg Nat.succ r.length
  · obtain ⟨u, b, vs', S, ds, G, rfl, hp, hb, r, np, ⟨n, rfl, n0, n1, q⟩, k⟩ := h
    obtain ⟨v1, rfl, hS⟩ := enterP1 r hp np
    obtain rfl := hS.fint (by walk_at "mem")
    refine ⟨_, (pss_cons (ps_par (i := 2) (j := 3) rfl sc__law_ps_order.nd rfl rfl (by decide) rfl rfl (pa_cons (pe_listRg rfl (by rfl) p.blt.list (prg_2 (by rfl) p.blt.range pe_int (pe_op op_add (pv 1) pe_int))) (pa_cons (pe_lst pa_nil) pa_nil)) (by rfl))
      (pss_cons (ps_for PassesOwn.never rfl (pi_range1 (by rfl) p.blt.range (pa_cons (pv 1) pa_nil)) (pg_name (i := 4) sc__law_ps_order.nd rfl (Or.inl rfl))
      (pss_one (ps_expr (pe_bm PySem.F.plainAttrs_list PySem.F.slot_list_append PySem.F.type_list_append mt_append (pv 3) (pa_cons (pe_bm PySem.F.plainAttrs_list PySem.F.slot_list_pop PySem.F.type_list_pop mt_popAt (pv 2) (pa_cons (pe_callG ((ok__law_coin p).mono (by decide)) hg hr (by rfl) p.d__law_coin.gl p.d__law_coin.kp p.d__law_coin.bd pass0 (pa_cons (pv 0) (pa_cons (pe_callB call_len_seq (by rfl) p.blt.len PySem.boot_len (pa_cons (pv 2) pa_nil)) pa_nil))) pa_nil)) pa_nil)))))
      (pss_one (ps_ret (pv 3))))), ?_⟩
    refine ⟨_, rfl, _, _, rfl, rfl, _, _, rfl, rfl, RgOk.of_le (by omega) (by omega) (by omega) (by omega), fun l hl => ?_⟩
    rw [rgV_map]
    have h1 := hS.mkInts (ns := rg 1 (n + 1)) hl
    refine ⟨szle (by simp), fun o ho => ⟨_, _, rfl, ?_⟩⟩
    have h2 := h1.mkInts (ns := []) ho
    refine ⟨_, rfl, n, rfl, by omega, by omega, for_range (fun i σ H1 => ∃ y4 pool puts, σ = [some (.ref u), some (.int n), some (.ref l), some (.ref o), y4] ∧ St H (some u) (some (u, b + i)) [(.int n, .int n)] [(.ref o, dI puts), (.ref l, dI pool)] [] H1 ∧ (puts ++ pool).Perm (rg 1 (n + 1)) ∧ puts.length = i) ⟨none, rg 1 (n + 1), [], rfl, by simpa using h2, .refl _, rfl⟩ (fun i σ H1 hi hI => ?_) (fun σ H1 hI => ?_)⟩
    · obtain ⟨y4, pool, puts, rfl, h3, pm, el⟩ := hI
      have lp : puts.length + pool.length = n.toNat := by
        have := pm.length_eq
        rw [List.length_append, rg_length] at this
        omega
      obtain ⟨ho1, _⟩ := h3.putInts
      have h3' := h3.front (.tl .hd)
      obtain ⟨hl1, _⟩ := h3'.putInts
      refine ⟨_, rfl, .inl ⟨rfl, _, SqL.of ho1⟩, _, rfl, .inl ⟨rfl, _, SqL.of hl1⟩, _, rfl, _, rfl, l, _, rfl, .inl (SqL.of hl1), ?_⟩
      rw [ints_len]
      refine h3.callP (vs := [.int (pool.length : Nat)]) (by omega) (.cons (.int _) .nil) ⟨_, rfl, by omega, by omega, fun r r0 r1 v' H2 h4 => ?_⟩
      obtain ⟨rfl, h4'⟩ := h4.int
      have h5 := h4'.front (.tl .hd)
      obtain ⟨hl2, kp⟩ := h5.putInts
      have hy : pool[r.toNat]? = some pool[r.toNat] := List.getElem?_eq_getElem (by omega)
      refine ⟨l, _, r, r.toNat, _, rfl, rfl, hl2, by omega, by omega, seqIndex_of r0 (by rw [ints_len]; exact r1), ints_at hy, ?_⟩
      have h6 := kp (pool.eraseIdx r.toNat)
      rw [← map_erase] at h6
      have h7 := h6.front (.tl .hd)
      obtain ⟨ho2, kp2⟩ := h7.putInts
      refine ⟨o, _, _, rfl, rfl, ho2, szlt (by rw [ints_len]; omega), ?_⟩
      have h8 := kp2 (puts ++ [pool[r.toNat]])
      refine ⟨_, pool.eraseIdx r.toNat, puts ++ [pool[r.toNat]], rfl, ?_, ?_, by simp [el]⟩
      · have eb : b + (i : Int) + 1 = b + ((i + 1 : Nat) : Int) := by omega
        rw [eb] at h8
        simpa using h8
      · rw [List.append_assoc]
        refine List.Perm.trans (List.Perm.append_left _ ?_) pm
        exact erase_perm hy
    · obtain ⟨y4, pool, puts, rfl, h3, pm, el⟩ := hI
      have lp : puts.length + pool.length = n.toNat := by
        have := pm.length_eq
        rw [List.length_append, rg_length] at this
        omega
      have e0 : pool = [] := List.eq_nil_of_length_eq_zero (by omega)
      subst e0
      rw [List.append_nil] at pm
      obtain ⟨fr, pu, nw⟩ := h3.leaveP (c := b + 1000) (by omega)
      exact ⟨_, rfl, k _ _ _ (q puts pm) fr pu nw⟩
/-! ### _law_ps_drawn -/
/-- any effect within the bounds -/
def w__law_ps_drawn : Tw := fun ds Q => ∃ deep most, ds = [.int deep, .int most] ∧ 0 ≤ deep ∧ deep ≤ 100 ∧ 0 ≤ most ∧ most ≤ 100 ∧ ∀ n gs, Eff (n, gs) → n ≤ deep → (gs.length : Int) ≤ most → Q (.tuple [.int n, dI gs])
def menu8 : List (Int × List Int) := [(1, [1, 1]), (1, []), (2, [2, 1]), (2, [2, 1, 2]), (3, [3, 1, 2]), (2, [1]), (2, [1, 1]), (3, [2, 1])]
theorem menu8_eff : ∀ e ∈ menu8, Eff e := by
  intro e he
  simp only [menu8, List.mem_cons, List.not_mem_nil, or_false] at he
  rcases he with rfl | rfl | rfl | rfl | rfl | rfl | rfl | rfl <;> exact ⟨by decide, by decide, by decide⟩
theorem perm_rg {n : Int} (h : 0 ≤ n) {gs : List Int} (pm : gs.Perm (rg 1 (n + 1))) : (gs.length : Int) = n ∧ ∀ x ∈ gs, 1 ≤ x ∧ x ≤ n := by
  refine ⟨?_, fun x hx => ?_⟩
  · rw [pm.length_eq, rg_length]
    omega
  · have := mem_rg.mp (pm.mem_iff.mp hx)
    omega
theorem ok__law_ps_drawn (p : Prog K mg) : FnG P w K mg base CX0 3 p.f__law_ps_drawn p.fd__law_ps_drawn ["_law_sack", "_law_deep", "_law_most"] (spP 10000 w__law_ps_drawn) := by
  refine okG p.d__law_ps_drawn.F sc__law_ps_drawn (fun vs H Q E h => ?_) (fun cdv A outer s H vs Q E hg hr h => ?_)
  · obtain ⟨p, b, vs', S, ds, G, rfl, _, _, r, _, ⟨d, m, rfl, _⟩, _⟩ := h
    exact congrArg Nat.succ r.length
  · obtain ⟨u, b, vs', S, ds, G, rfl, hp, hb, r, np, ⟨deep, most, rfl, d0, d1, m0, m1, q⟩, k⟩ := h
    obtain ⟨v1, v2, rfl, hS⟩ := enterP2 r hp np
    obtain rfl := hS.fint (v := v1) (by walk_at "mem")
    obtain rfl := hS.fint (v := v2) (by walk_at "mem")
    -- a way out: a pair of a number and a list that is owned
    have out : ∀ {n : Int} {gs : List Int} {c : Int} {l : Addr} {Fz Ow : List (V × D)} {Tp : List (Addr × List V)} {H1 : Hp}, St H (some u) (some (u, c)) Fz ((.ref l, dI gs) :: Ow) Tp H1 → c ≤ b + 10000 → Eff (n, gs) → n ≤ deep → (gs.length : Int) ≤ most →
        2 ≤ sizeLine ∧ ∀ z, H1 z = none → Q (.ref z) (upd H1 z (.tup [.int n, .ref l])) := fun {n gs c l Fz Ow Tp H1} h1 hc ef hn hl => ⟨szle (by omega), fun z hz => by
      have h2 := (h1.mkTup (vs := [.int n, .ref l]) hz).take (.tp2 (List.Mem.head _) (.int _) (.own .hd))
      obtain ⟨fr, pu, nw⟩ := h2.leaveP hc
      exact k _ _ _ (q _ _ ef hn hl) fr pu nw⟩
    refine ⟨_, (pss_cons (ps_asg (pe_tup (pa_cons (pe_callG ((ok__law_coin p).mono (by decide)) hg hr (by rfl) p.d__law_coin.gl p.d__law_coin.kp p.d__law_coin.bd pass0 (pa_cons (pv 0) (pa_cons pe_int pa_nil))) (pa_cons (pe_callG ((ok__law_coin p).mono (by decide)) hg hr (by rfl) p.d__law_coin.gl p.d__law_coin.kp p.d__law_coin.bd pass0 (pa_cons (pv 0) (pa_cons (pe_op op_add (pv 1) pe_int) pa_nil))) pa_nil))) (pg_tup rfl (pgs_cons (pg_name (i := 3) sc__law_ps_drawn.nd rfl (Or.inl rfl)) (pgs_cons (pg_name (i := 4) sc__law_ps_drawn.nd rfl (Or.inr rfl)) pgs_nil))))
      (C8.pss_cut (ps_if (pt_cmpR op_eq (pv 3) pe_int (nomark _))
      (pss_cons (ps_set (i := 5) sc__law_ps_drawn.nd rfl (Or.inl rfl) (pe_lst (pa_cons (pe_tup (pa_cons pe_int (pa_cons (pe_lst (pa_cons pe_int (pa_cons pe_int pa_nil))) pa_nil))) (pa_cons (pe_tup (pa_cons pe_int (pa_cons (pe_lst pa_nil) pa_nil))) (pa_cons (pe_tup (pa_cons pe_int (pa_cons (pe_lst (pa_cons pe_int (pa_cons pe_int pa_nil))) pa_nil))) (pa_cons (pe_tup (pa_cons pe_int (pa_cons (pe_lst (pa_cons pe_int (pa_cons pe_int (pa_cons pe_int pa_nil)))) pa_nil))) (pa_cons (pe_tup (pa_cons pe_int (pa_cons (pe_lst (pa_cons pe_int (pa_cons pe_int (pa_cons pe_int pa_nil)))) pa_nil))) (pa_cons (pe_tup (pa_cons pe_int (pa_cons (pe_lst (pa_cons pe_int pa_nil)) pa_nil))) (pa_cons (pe_tup (pa_cons pe_int (pa_cons (pe_lst (pa_cons pe_int (pa_cons pe_int pa_nil))) pa_nil))) (pa_cons (pe_tup (pa_cons pe_int (pa_cons (pe_lst (pa_cons pe_int (pa_cons pe_int pa_nil))) pa_nil))) pa_nil))))))))))
      (pss_cons (ps_set (i := 6) sc__law_ps_drawn.nd rfl (Or.inl rfl) (pe_ix ix_list (pv 5) (pe_callG ((ok__law_coin p).mono (by decide)) hg hr (by rfl) p.d__law_coin.gl p.d__law_coin.kp p.d__law_coin.bd pass0 (pa_cons (pv 0) (pa_cons pe_int pa_nil))) (fun _ _ => rfl)))
      (pss_one (ps_if (PW.pt (pw_and (pt_cmpR op_le (pe_ix ix_tup (pv 6) pe_int (fun _ _ => rfl)) (pv 1) (nomark _)) (pw_and1 (pt_cmpR op_le (pe_callB call_len_seq (by rfl) p.blt.len PySem.boot_len (pa_cons (pe_ix ix_tup (pv 6) pe_int (fun _ _ => rfl)) pa_nil)) (pv 2) (nomark _)))))
      (pss_one (ps_ret (pe_tup (pa_cons (pe_ix ix_tup (pv 6) pe_int (fun _ _ => rfl)) (pa_cons (pe_callTy call_list_of (by rfl) p.blt.list (by decide +kernel) (pa_cons (pe_ix ix_tup (pv 6) pe_int (fun _ _ => rfl)) pa_nil)) pa_nil))))) pss_nil)))) pss_nil)
      (pss_cons (ps_if (pt_cmpR op_eq (pv 3) pe_int (nomark _))
      (pss_cons (ps_set (i := 4) sc__law_ps_drawn.nd rfl (Or.inr rfl) (pe_callB (call_min2 rfl) (by rfl) p.blt.min (by decide +kernel) (pa_cons (pv 4) (pa_cons (pv 2) pa_nil))))
      (pss_one (ps_ret (pe_tup (pa_cons (pv 4) (pa_cons (pe_callG ((ok__law_ps_order p).mono (by decide)) hg hr (by rfl) p.d__law_ps_order.gl p.d__law_ps_order.kp p.d__law_ps_order.bd pass0 (pa_cons (pv 0) (pa_cons (pv 4) pa_nil))) pa_nil)))))) pss_nil)
      (pss_cons (ps_if (pt_cmpR op_eq (pv 3) pe_int (nomark _))
      (pss_cons (ps_set (i := 4) sc__law_ps_drawn.nd rfl (Or.inr rfl) (pe_callB (call_min2 rfl) (by rfl) p.blt.min (by decide +kernel) (pa_cons (pv 4) (pa_cons (pv 2) pa_nil))))
      (pss_cons (ps_set (i := 7) sc__law_ps_drawn.nd rfl (Or.inl rfl) (pe_callG ((ok__law_ps_order p).mono (by decide)) hg hr (by rfl) p.d__law_ps_order.gl p.d__law_ps_order.kp p.d__law_ps_order.bd pass0 (pa_cons (pv 0) (pa_cons (pv 4) pa_nil))))
      (pss_cons (ps_set (i := 8) sc__law_ps_drawn.nd rfl (Or.inl rfl) (pe_callG ((ok__law_coin p).mono (by decide)) hg hr (by rfl) p.d__law_coin.gl p.d__law_coin.kp p.d__law_coin.bd pass0 (pa_cons (pv 0) (pa_cons (pe_op op_add (pe_callB call_len_seq (by rfl) p.blt.len PySem.boot_len (pa_cons (pv 7) pa_nil)) pe_int) pa_nil))))
      (pss_cons (ps_if (PW.pt (pw_or (pt_cmpR op_eq (pe_callG ((ok__law_coin p).mono (by decide)) hg hr (by rfl) p.d__law_coin.gl p.d__law_coin.kp p.d__law_coin.bd pass0 (pa_cons (pv 0) (pa_cons pe_int pa_nil))) pe_int (nomark _)) (pw_or (pt_cmpR op_eq (pe_callB call_len_seq (by rfl) p.blt.len PySem.boot_len (pa_cons (pv 7) pa_nil)) (pv 2) (nomark _)) (pw_or1 (pt_cmpR (op_eqD hr.units) (pv 7) (pe_lst pa_nil) (nomark _))))))
      (pss_one (ps_ret (pe_tup (pa_cons (pv 4) (pa_cons (pe_op op_cat (pe_slice sl_list (pv 7) po_none (po_some (pv 8))) (pe_slice sl_list (pv 7) (po_some (pe_op op_add (pv 8) pe_int)) po_none)) pa_nil))))) pss_nil)
      (pss_one (ps_ret (pe_tup (pa_cons (pv 4) (pa_cons (pe_op op_cat (pe_op op_cat (pe_slice sl_list (pv 7) po_none (po_some (pv 8))) (pe_lst (pa_cons (pe_ix ix_list (pv 7) (pe_callG ((ok__law_coin p).mono (by decide)) hg hr (by rfl) p.d__law_coin.gl p.d__law_coin.kp p.d__law_coin.bd pass0 (pa_cons (pv 0) (pa_cons (pe_callB call_len_seq (by rfl) p.blt.len PySem.boot_len (pa_cons (pv 7) pa_nil)) pa_nil))) (fun _ _ => rfl)) pa_nil))) (pe_slice sl_list (pv 7) (po_some (pv 8)) po_none)) pa_nil))))))))) pss_nil)
      (pss_cons (ps_if (pt_cmpR op_eq (pv 3) pe_int (nomark _))
      (pss_cons (ps_set (i := 9) sc__law_ps_drawn.nd rfl (Or.inr rfl) (pe_callG ((ok__law_coin p).mono (by decide)) hg hr (by rfl) p.d__law_coin.gl p.d__law_coin.kp p.d__law_coin.bd pass0 (pa_cons (pv 0) (pa_cons (pe_op op_add (pv 4) pe_int) pa_nil))))
      (pss_cons (ps_set (i := 4) sc__law_ps_drawn.nd rfl (Or.inr rfl) (pe_callB (call_min2 rfl) (by rfl) p.blt.min (by decide +kernel) (pa_cons (pv 4) (pa_cons (pe_op op_add (pv 9) (pv 2)) pa_nil))))
      (pss_cons (ps_set (i := 10) sc__law_ps_drawn.nd rfl (Or.inl rfl) (pe_ifExp (pt_cmpR op_gt (pv 9) pe_int (nomark _)) (pe_callG ((ok__law_coin p).mono (by decide)) hg hr (by rfl) p.d__law_coin.gl p.d__law_coin.kp p.d__law_coin.bd pass0 (pa_cons (pv 0) (pa_cons (pe_op op_add (pe_op op_add (pe_op op_sub (pv 2) (pv 4)) (pv 9)) pe_int) pa_nil))) pe_int))
      (pss_cons (ps_setLc (i := 7) (own := [("_law_turn", 11)]) (g := gName 11) (tt := tYes) rfl sc__law_ps_drawn.nd rfl rfl (sw_true rfl rfl rfl (by decide +kernel)) (pi_range1 (by rfl) p.blt.range (pa_cons (pv 10) pa_nil)) (blkOk_by (N := N__law_ps_drawn) (sc := defScope s__law_ps_drawn) (by decide +kernel)) (fun _ _ _ _ _ => pg_name (i := 11) sc__law_ps_drawn.nd rfl (Or.inl rfl)) (fun _ _ _ _ _ => pts_nil) (fun _ _ _ _ _ => (pe_op op_add pe_int (pe_callG ((ok__law_coin p).mono (by decide)) hg hr (by rfl) p.d__law_coin.gl p.d__law_coin.kp p.d__law_coin.bd pass0 (pa_cons (pv 0) (pa_cons (pv 9) pa_nil))))))
      (pss_one (ps_ret (pe_tup (pa_cons (pv 4) (pa_cons (pe_op op_cat (pv 7) (pe_listRg rfl (by rfl) p.blt.list (prg_2 (by rfl) p.blt.range (pe_op op_add (pv 9) pe_int) (pe_op op_add (pv 4) pe_int)))) pa_nil))))))))) pss_nil)
      (pss_cons (ps_set (i := 10) sc__law_ps_drawn.nd rfl (Or.inl rfl) (pe_ifExp (pt_cmpR op_gt (pv 4) pe_int (nomark _)) (pe_callG ((ok__law_coin p).mono (by decide)) hg hr (by rfl) p.d__law_coin.gl p.d__law_coin.kp p.d__law_coin.bd pass0 (pa_cons (pv 0) (pa_cons (pe_op op_add (pv 2) pe_int) pa_nil))) pe_int))
      (C8.pss_cut (ps_if (pt_cmpR op_eq (pv 3) pe_int (nomark _))
      (pss_one (ps_set (i := 10) sc__law_ps_drawn.nd rfl (Or.inl rfl) (pe_callB (call_min2 rfl) (by rfl) p.blt.min (by decide +kernel) (pa_cons (pv 10) (pa_cons pe_int pa_nil))))) pss_nil)
      (pss_one (ps_ret (pe_tup (pa_cons (pv 4) (pa_cons (pe_lc (own := [("_law_turn", 11)]) (g := gName 11) (tt := tYes) rfl sc__law_ps_drawn.nd (pi_range1 (by rfl) p.blt.range (pa_cons (pv 10) pa_nil)) (blkOk_by (N := N__law_ps_drawn) (sc := defScope s__law_ps_drawn) (by decide +kernel)) (fun _ _ _ _ _ => pg_name (i := 11) sc__law_ps_drawn.nd rfl (Or.inl rfl)) (fun _ _ _ _ _ => pts_nil) (fun _ _ _ _ _ => (pe_op op_add pe_int (pe_callG ((ok__law_coin p).mono (by decide)) hg hr (by rfl) p.d__law_coin.gl p.d__law_coin.kp p.d__law_coin.bd pass0 (pa_cons (pv 0) (pa_cons (pv 4) pa_nil)))))) pa_nil)))))))))))), ?_⟩
    -- sort, takes = coin(6), coin(deep + 1)
    refine ⟨_, rfl, hS.callP (vs := [.int 6]) (by omega) (.cons (.int _) .nil) ⟨6, rfl, by omega, by omega, fun so s0 s1 v' H1 h1 => ?_⟩⟩
    obtain ⟨rfl, h1'⟩ := h1.int
    refine ⟨_, rfl, _, rfl, _, _, rfl, rfl, h1'.callP (vs := [.int (deep + 1)]) (by omega) (.cons (.int _) .nil) ⟨_, rfl, by omega, by omega, fun ta t0 t1 v' H2 h2 => ?_⟩⟩
    obtain ⟨rfl, h2'⟩ := h2.int
    refine ⟨szle (by simp), fun z hz => ?_⟩
    have h3 := h2'.mkTup (vs := [.int so, .int ta]) hz
    refine ⟨z, _, rfl, SqT.of upd_same, rfl, _, _, rfl, _, _, rfl, rfl, ?_⟩
    -- if sort == 0
    refine ⟨fun σ' H' => ∃ y5 y6 c Fz Ow Tp, σ' = [some (.ref u), some (.int deep), some (.int most), some (.int so), some (.int ta), y5, y6, none, none, none, none, none] ∧ St H (some u) (some (u, c)) Fz Ow Tp H' ∧ c ≤ b + 3, ?_, ?_⟩
    · refine ⟨_, rfl, rfl, _, rfl, ?_⟩
      rw [dec_eq_int]
      by_cases e0 : so = 0
      · rw [decide_eq_true e0]
        refine iteT ?_
        refine w_asg (w_lit h3 (d := .list (menu8.map dE)) (by walk_at "lit") (fun v H4 h4 => ?_))
        have h5 := h4.freeze
        refine ⟨_, rfl, _, rfl, h5.callP (vs := [.int 8]) (by omega) (.cons (.int _) .nil) ⟨8, rfl, by omega, by omega, fun x x0 x1 v' H6 h6 => ?_⟩⟩
        obtain ⟨rfl, h6'⟩ := h6.int
        obtain ⟨⟨n, gs⟩, hx⟩ : ∃ e, menu8[x.toNat]? = some e := ⟨_, List.getElem?_eq_getElem (show x.toNat < menu8.length from by show x.toNat < 8; omega)⟩
        have ef := menu8_eff _ (List.mem_of_getElem? hx)
        obtain ⟨a, vs, w', rfl, ea, _, ew, h7⟩ := h6'.fget (i := x.toNat) (d := dE (n, gs)) (by walk_at "mem") (by rw [List.getElem?_map, hx]; rfl)
        obtain ⟨t, w1, w2, rfl, h8⟩ := h7.ftup2 (by walk_at "mem")
        obtain rfl := h8.fint (v := w1) (i := n) (by walk_at "mem")
        obtain ⟨l, rfl, hl⟩ := h8.rints (v := w2) (ns := gs) (.fz (by walk_at "mem"))
        have ht := h8.tp (t := t) (by walk_at "mem")
        refine ⟨a, vs, x, .ref t, rfl, rfl, SqL.of ea, at_nat (k := x.toNat) (by omega) ew, ?_⟩
        refine ⟨_, rfl, t, _, _, _, rfl, rfl, SqT.of ht, atI_nat (j := 0) rfl, _, rfl, _, _, rfl, rfl, _, rfl, ?_⟩
        have fall : ∀ y5 y6, ∃ y5' y6' c Fz Ow Tp, [some (V.ref u), some (.int deep), some (.int most), some (.int so), some (.int ta), y5, y6, none, none, none, none, none] = [some (V.ref u), some (.int deep), some (.int most), some (.int so), some (.int ta), y5', y6', none, none, none, none, none] ∧ St H (some u) (some (u, c)) Fz Ow Tp H6 ∧ c ≤ b + 3 := fun y5 y6 => ⟨y5, y6, _, _, _, _, rfl, h8, by omega⟩
        refine iteB (fun c1 => ?_) (fun c1 => iteF (fall _ _))
        refine ⟨_, rfl, t, _, _, _, rfl, rfl, SqT.of ht, atI_nat (j := 1) rfl, l, _, rfl, .inl (SqL.of hl), _, rfl, _, _, rfl, rfl, _, rfl, ?_⟩
        rw [ints_len]
        refine iteB (fun c2 => ?_) (fun c2 => fall _ _)
        refine ⟨_, rfl, t, _, _, _, rfl, rfl, SqT.of ht, atI_nat (j := 0) rfl, _, rfl, t, _, _, _, rfl, rfl, SqT.of ht, atI_nat (j := 1) rfl, l, _, rfl, .inl (SqL.of hl), fun o ho => ?_⟩
        exact out (h8.mkInts ho) (by omega) ef (of_decide_eq_true c1) (of_decide_eq_true c2)
      · rw [decide_eq_false e0]
        exact iteF ⟨_, _, _, _, _, _, rfl, h3, by omega⟩
    · intro σ' H' hI
      obtain ⟨y5, y6, c, Fz, Ow, Tp, rfl, h4, hc⟩ := hI
      -- if sort == 1
      refine ⟨_, rfl, rfl, _, rfl, ?_⟩
      rw [dec_eq_int]
      by_cases e1 : so = 1
      · rw [decide_eq_true e1]
        refine iteT ?_
        obtain ⟨tk, etk, a1, a2, a3⟩ : ∃ tk, (if most < ta then most else ta) = tk ∧ 0 ≤ tk ∧ tk ≤ ta ∧ tk ≤ most := ⟨_, rfl, by split <;> omega, by split <;> omega, by split <;> omega⟩
        refine ⟨_, rfl, _, rfl, _, _, rfl, ?_⟩
        rw [etk]
        refine ⟨_, rfl, _, rfl, _, rfl, h4.callP (vs := [.int tk]) (by omega) (.cons (.int _) .nil) ⟨tk, rfl, a1, by omega, fun gs pm v' H5 h5 => ?_⟩⟩
        obtain ⟨l, rfl, _⟩ := h5.rints (v := v') (ns := gs) (.ow (List.Mem.head _))
        obtain ⟨p1, p2⟩ := perm_rg a1 pm
        exact out h5 (by omega) ⟨a1, fun x hx => (p2 x hx).1, fun x hx => (p2 x hx).2⟩ (by omega) (by omega)
      rw [decide_eq_false e1]
      refine iteF ?_
      -- if sort == 2
      refine ⟨_, rfl, rfl, _, rfl, ?_⟩
      rw [dec_eq_int]
      by_cases e2 : so = 2
      · rw [decide_eq_true e2]
        refine iteT ?_
        obtain ⟨tk, etk, a1, a2, a3⟩ : ∃ tk, (if most < ta then most else ta) = tk ∧ 0 ≤ tk ∧ tk ≤ ta ∧ tk ≤ most := ⟨_, rfl, by split <;> omega, by split <;> omega, by split <;> omega⟩
        refine ⟨_, rfl, _, rfl, _, _, rfl, ?_⟩
        rw [etk]
        refine ⟨_, rfl, _, rfl, h4.callP (vs := [.int tk]) (by omega) (.cons (.int _) .nil) ⟨tk, rfl, a1, by omega, fun gs pm v' H5 h5 => ?_⟩⟩
        obtain ⟨l, rfl, hl⟩ := h5.rints (v := v') (ns := gs) (.ow (List.Mem.head _))
        obtain ⟨p1, p2⟩ := perm_rg a1 pm
        -- rank
        refine ⟨_, rfl, _, rfl, l, _, rfl, .inl (SqL.of hl), _, _, rfl, rfl, ?_⟩
        rw [ints_len]
        refine h5.callP (vs := [.int _]) (by omega) (.cons (.int _) .nil) ⟨_, rfl, by omega, by omega, fun ra r0 r1 v' H6 h6 => ?_⟩
        obtain ⟨rfl, h6'⟩ := h6.int
        obtain ⟨rn, rfl⟩ : ∃ rn : Nat, ra = (rn : Int) := ⟨ra.toNat, by omega⟩
        -- one thing left out
        have wayA : ∀ (c' : Int) Fz Ow Tp (H' : Hp), St H (some u) (some (u, c')) Fz ((.ref l, dI gs) :: Ow) Tp H' → c' ≤ b + 5000 → tRet (tTup (tCons (tVar 4) (tCons (tOp rCat (tSl (rSlL K) (tVar 7) tNoPart (tPart (tVar 8))) (tSl (rSlL K) (tVar 7) (tPart (tOp (rI0 fun i j => .int (i + j)) (tVar 8) (tC (.int 1)))) tNoPart)) tNil))) ⟨fun _ H' => Q .non H', Q, fun _ _ => False, fun _ _ => False⟩
            [some (.ref u), some (.int deep), some (.int most), some (.int so), some (.int tk), y5, y6, some (.ref l), some (.int (rn : Int)), none, none, none] H' := fun c' Fz Ow Tp H' h7 hc' => by
          obtain ⟨hl7, _⟩ := h7.putInts
          refine ⟨_, rfl, _, rfl, _, rfl, _, rfl, l, _, rfl, SqL.of hl7, fun o ho => ?_⟩
          rw [cutV_to, ← List.map_take]
          have h8 := h7.mkInts (ns := gs.take rn) ho
          obtain ⟨ho8, _⟩ := h8.putInts
          obtain ⟨hl8, _⟩ := (h8.front (.tl .hd)).putInts
          refine ⟨_, rfl, _, rfl, _, _, rfl, rfl, _, rfl, l, _, rfl, SqL.of hl8, fun e he => ?_⟩
          have er : ((rn : Int) + 1) = ((rn + 1 : Nat) : Int) := by omega
          rw [er, cutV_from, ← List.map_drop]
          have h9 := h8.mkInts (ns := gs.drop (rn + 1)) he
          obtain ⟨he9, _⟩ := h9.putInts
          obtain ⟨ho9, _⟩ := (h9.front (.tl .hd)).putInts
          refine ⟨o, e, _, _, rfl, rfl, ho9, he9, szle (by rw [ints_len, ints_len, List.length_take, List.length_drop]; omega), fun y hy => ?_⟩
          rw [← List.map_append]
          refine out (h9.mkInts hy) (by omega) ⟨a1, fun x hx => ?_, fun x hx => ?_⟩ (by omega) (by rw [List.length_append, List.length_take, List.length_drop]; omega)
          · rcases List.mem_append.mp hx with hx | hx
            · exact (p2 x (List.mem_of_mem_take hx)).1
            · exact (p2 x (List.mem_of_mem_drop hx)).1
          · rcases List.mem_append.mp hx with hx | hx
            · exact (p2 x (List.mem_of_mem_take hx)).2
            · exact (p2 x (List.mem_of_mem_drop hx)).2
        -- the test
        refine ⟨_, rfl, h6'.callP (vs := [.int 2]) (by omega) (.cons (.int _) .nil) ⟨2, rfl, by omega, by omega, fun x x0 x1 v' H7 h7 => ?_⟩⟩
        obtain ⟨rfl, h7'⟩ := h7.int
        refine ⟨rfl, _, rfl, iteB (fun _ => iteT (wayA _ _ _ _ _ h7' (by omega))) (fun _ => ?_)⟩
        obtain ⟨hl7, _⟩ := h7'.putInts
        refine ⟨_, rfl, l, _, rfl, .inl (SqL.of hl7), _, rfl, rfl, _, rfl, ?_⟩
        rw [ints_len, dec_eq_int]
        by_cases cm : (gs.length : Int) = most
        · rw [decide_eq_true cm]
          exact iteT (iteT (wayA _ _ _ _ _ h7' (by omega)))
        · rw [decide_eq_false cm]
          refine iteF ?_
          refine ⟨_, rfl, szle (by simp), fun o ho => ?_⟩
          have h8 := h7'.mkInts (ns := []) ho
          obtain ⟨ho8, _⟩ := h8.putInts
          have h8l := h8.front (.tl .hd)
          obtain ⟨hl8, _⟩ := h8l.putInts
          refine ⟨_, _, dp_ints hl8, dp_ints ho8, shaped_ints _, shaped_ints _, _, rfl, ?_⟩
          rw [eqv_ints]
          by_cases ce : gs = []
          · rw [decide_eq_true ce]
            exact iteT (wayA _ _ _ _ _ h8l (by omega))
          · rw [decide_eq_false ce]
            refine iteF ?_
            have gpos : 0 < gs.length := List.length_pos_iff.mpr ce
            -- one thing put once more
            refine ⟨_, rfl, _, rfl, _, rfl, _, rfl, l, _, rfl, SqL.of hl8, fun f hf => ?_⟩
            rw [cutV_to, ← List.map_take]
            have h9 := h8l.mkInts (ns := gs.take rn) hf
            obtain ⟨hl9, _⟩ := (h9.front (.tl .hd)).putInts
            refine ⟨_, rfl, _, rfl, _, rfl, l, _, rfl, .inl (SqL.of hl9), ?_⟩
            rw [ints_len]
            refine h9.callP (vs := [.int _]) (by omega) (.cons (.int _) .nil) ⟨_, rfl, by omega, by omega, fun j j0 j1 v' HA hA => ?_⟩
            obtain ⟨rfl, hA'⟩ := hA.int
            obtain ⟨hlA, _⟩ := (hA'.front (.tl .hd)).putInts
            obtain ⟨gj, hgj⟩ : ∃ e, gs[j.toNat]? = some e := ⟨_, List.getElem?_eq_getElem (show j.toNat < gs.length by omega)⟩
            refine ⟨l, _, j, _, rfl, rfl, SqL.of hlA, at_nat (k := j.toNat) (by omega) (ints_at hgj), szle (by simp), fun f2 hf2 => ?_⟩
            have hB := hA'.mkInts (ns := [gj]) hf2
            obtain ⟨hf2B, _⟩ := hB.putInts
            obtain ⟨hfB, _⟩ := (hB.front (.tl .hd)).putInts
            refine ⟨f, f2, _, _, rfl, rfl, hfB, hf2B, szle (by rw [ints_len, List.length_take]; simp; omega), fun f3 hf3 => ?_⟩
            have em : (gs.take rn).map V.int ++ [gj].map V.int = (gs.take rn ++ [gj]).map V.int := List.map_append.symm
            rw [em]
            have hC := hB.mkInts (ns := gs.take rn ++ [gj]) hf3
            obtain ⟨hf3C, _⟩ := hC.putInts
            obtain ⟨a', e', hlC⟩ := hC.rints (v := .ref l) (ns := gs) (.ow (by walk_at "mem"))
            cases e'
            refine ⟨_, rfl, _, rfl, _, rfl, l, _, rfl, SqL.of hlC, fun f4 hf4 => ?_⟩
            rw [cutV_from, ← List.map_drop]
            have hD := hC.mkInts (ns := gs.drop rn) hf4
            obtain ⟨hf4D, _⟩ := hD.putInts
            obtain ⟨hf3D, _⟩ := (hD.front (.tl .hd)).putInts
            refine ⟨f3, f4, _, _, rfl, rfl, hf3D, hf4D, szle (by rw [ints_len, ints_len, List.length_append, List.length_take, List.length_drop]; simp; omega), fun f5 hf5 => ?_⟩
            rw [← List.map_append]
            have gm := p2 gj (List.mem_of_getElem? hgj)
            have all : ∀ x ∈ gs.take rn ++ [gj] ++ gs.drop rn, 1 ≤ x ∧ x ≤ tk := fun x hx => by
              rcases List.mem_append.mp hx with hx | hx
              · rcases List.mem_append.mp hx with hx | hx
                · exact p2 x (List.mem_of_mem_take hx)
                · simp at hx
                  rw [hx]
                  exact gm
              · exact p2 x (List.mem_of_mem_drop hx)
            exact out (hD.mkInts hf5) (by omega) ⟨a1, fun x hx => (all x hx).1, fun x hx => (all x hx).2⟩ (by omega) (by rw [List.length_append, List.length_append, List.length_take, List.length_drop]; simp; omega)
      rw [decide_eq_false e2]
      refine iteF ?_
      -- if sort == 3
      refine ⟨_, rfl, rfl, _, rfl, ?_⟩
      rw [dec_eq_int]
      by_cases e3 : so = 3
      · rw [decide_eq_true e3]
        refine iteT ?_
        refine ⟨_, rfl, _, rfl, _, _, rfl, rfl, h4.callP (vs := [.int (ta + 1)]) (by omega) (.cons (.int _) .nil) ⟨_, rfl, by omega, by omega, fun up u0 u1 v' H5 h5 => ?_⟩⟩
        obtain ⟨rfl, h5'⟩ := h5.int
        obtain ⟨tk, etk, a1, a2, a3, a4⟩ : ∃ tk, (if up + most < ta then up + most else ta) = tk ∧ 0 ≤ tk ∧ tk ≤ ta ∧ tk ≤ up + most ∧ up ≤ tk := ⟨_, rfl, by split <;> omega, by split <;> omega, by split <;> omega, by split <;> omega⟩
        refine ⟨_, rfl, _, rfl, _, rfl, _, _, rfl, rfl, _, _, rfl, ?_⟩
        rw [etk]
        -- the end, with a number of drawn places
        have endU : ∀ (sz c' : Int) Fz Ow Tp (H' : Hp), 0 ≤ sz → sz ≤ most - tk + up → (0 < sz → 0 < up) → St H (some u) (some (u, c')) Fz Ow Tp H' → c' ≤ b + 5000 →
            (tSeq (tAsg (tLc (iRng1 (tCons (tVar 10) tNil)) (gName 11) tYes (tOp (rI0 fun i j => .int (i + j)) (tC (.int 1)) (tCall (spP 1 w__law_coin) [] E0 (tCons (tVar 0) (tCons (tVar 9) tNil)))) [11]) (gName 7))
              (tRet (tTup (tCons (tVar 4) (tCons (tOp rCat (tVar 7) (tLstRg (tRg2 (tOp (rI0 fun i j => .int (i + j)) (tVar 9) (tC (.int 1))) (tOp (rI0 fun i j => .int (i + j)) (tVar 4) (tC (.int 1)))))) tNil))))) ⟨fun _ H' => Q .non H', Q, fun _ _ => False, fun _ _ => False⟩
              [some (.ref u), some (.int deep), some (.int most), some (.int so), some (.int tk), y5, y6, none, none, some (.int up), some (.int sz), none] H' := fun sz c' Fz Ow Tp H' z0 z1 z2 h7 hc' => by
          refine w_asg (coins_lc h7 (i := 10) (j := 11) (k := 9) (n := sz) (m := up) rfl rfl rfl (by decide) (by decide) z0 (by omega) z2 (by omega) (by omega) fun gs l H8 el hg h8 => ?_)
          obtain ⟨hl8, _⟩ := h8.putInts
          refine ⟨_, rfl, _, rfl, _, rfl, _, _, rfl, rfl, _, rfl, _, _, rfl, rfl, _, _, rfl, rfl, RgOk.of_le (by omega) (by omega) (by omega) (by omega), fun o ho => ?_⟩
          rw [rgV_map]
          have h9 := h8.mkInts (ns := rg (up + 1) (tk + 1)) ho
          obtain ⟨ho9, _⟩ := h9.putInts
          obtain ⟨hl9, _⟩ := (h9.front (.tl .hd)).putInts
          have lr := rg_length (up + 1) (tk + 1)
          refine ⟨l, o, _, _, rfl, rfl, hl9, ho9, szle (by rw [ints_len, ints_len]; omega), fun y hy => ?_⟩
          rw [← List.map_append]
          have all : ∀ x ∈ gs ++ rg (up + 1) (tk + 1), 1 ≤ x ∧ x ≤ tk := fun x hx => by
            rcases List.mem_append.mp hx with hx | hx
            · have := hg x hx
              omega
            · have := mem_rg.mp hx
              omega
          exact out (h9.mkInts hy) (by omega) ⟨a1, fun x hx => (all x hx).1, fun x hx => (all x hx).2⟩ (by omega) (by rw [List.length_append]; omega)
        -- size = coin(..) if upper > 0 else 0
        refine ⟨_, rfl, _, _, rfl, rfl, _, rfl, ?_⟩
        refine iteB (fun c1 => ?_) (fun c1 => ?_)
        · have up0 : 0 < up := of_decide_eq_true c1
          refine ⟨_, rfl, _, rfl, _, rfl, _, _, rfl, rfl, _, rfl, _, _, rfl, rfl, _, _, rfl, rfl, h5'.callP (vs := [.int _]) (by omega) (.cons (.int _) .nil) ⟨_, rfl, by omega, by omega, fun sz z0 z1 v' H6 h6 => ?_⟩⟩
          obtain ⟨rfl, h6'⟩ := h6.int
          exact endU sz _ _ _ _ _ z0 (by omega) (fun _ => up0) h6' (by omega)
        · have up0 : ¬ 0 < up := of_decide_eq_false c1
          exact endU 0 _ _ _ _ _ (by omega) (by omega) (fun z => by omega) h5' (by omega)
      rw [decide_eq_false e3]
      refine iteF ?_
      -- the rest: any places
      have endS : ∀ (sz c' : Int) Fz Ow Tp (H' : Hp), 0 ≤ sz → sz ≤ most → (0 < sz → 0 < ta) → St H (some u) (some (u, c')) Fz Ow Tp H' → c' ≤ b + 5000 →
          tRet (tTup (tCons (tVar 4) (tCons (tLc (iRng1 (tCons (tVar 10) tNil)) (gName 11) tYes (tOp (rI0 fun i j => .int (i + j)) (tC (.int 1)) (tCall (spP 1 w__law_coin) [] E0 (tCons (tVar 0) (tCons (tVar 4) tNil)))) [11]) tNil))) ⟨fun _ H' => Q .non H', Q, fun _ _ => False, fun _ _ => False⟩
            [some (.ref u), some (.int deep), some (.int most), some (.int so), some (.int ta), y5, y6, none, none, none, some (.int sz), none] H' := fun sz c' Fz Ow Tp H' z0 z1 z2 h7 hc' => by
        refine w_ret ⟨_, rfl, coins_lc h7 (i := 10) (j := 11) (k := 4) (n := sz) (m := ta) rfl rfl rfl (by decide) (by decide) z0 (by omega) z2 (by omega) (by omega) fun gs l H8 el hg h8 => ?_⟩
        exact out h8 (by omega) ⟨by omega, fun x hx => (hg x hx).1, fun x hx => (hg x hx).2⟩ (by omega) (by omega)
      have mid : ∀ (sz c' : Int) Fz Ow Tp (H' : Hp), 0 ≤ sz → sz ≤ most → (0 < sz → 0 < ta) → St H (some u) (some (u, c')) Fz Ow Tp H' → c' ≤ b + 5000 →
          C8.tCut (tIfS (tTest (tOp rEq (tVar 3) (tC (.int 4)))) (tAsg (tCB (fun xs H Q => ∃ i j, xs = [.int i, .int j] ∧ Q (.int (if j < i then j else i)) H) (tCons (tVar 10) (tCons (tC (.int 4)) tNil))) (gName 10)) tNext)
            (tRet (tTup (tCons (tVar 4) (tCons (tLc (iRng1 (tCons (tVar 10) tNil)) (gName 11) tYes (tOp (rI0 fun i j => .int (i + j)) (tC (.int 1)) (tCall (spP 1 w__law_coin) [] E0 (tCons (tVar 0) (tCons (tVar 4) tNil)))) [11]) tNil)))) ⟨fun _ H' => Q .non H', Q, fun _ _ => False, fun _ _ => False⟩
            [some (.ref u), some (.int deep), some (.int most), some (.int so), some (.int ta), y5, y6, none, none, none, some (.int sz), none] H' := fun sz c' Fz Ow Tp H' z0 z1 z2 h7 hc' => by
        refine ⟨fun σ' H'' => H'' = H' ∧ ∃ sz', σ' = [some (.ref u), some (.int deep), some (.int most), some (.int so), some (.int ta), y5, y6, none, none, none, some (.int sz'), none] ∧ 0 ≤ sz' ∧ sz' ≤ most ∧ (0 < sz' → 0 < ta), ?_, fun σ' H'' hI => ?_⟩
        · refine ⟨_, rfl, rfl, _, rfl, ?_⟩
          refine iteB (fun _ => ?_) (fun _ => ⟨rfl, sz, rfl, z0, z1, z2⟩)
          refine ⟨_, rfl, _, _, rfl, rfl, _, rfl, ?_, ?_, ?_⟩
          · split <;> omega
          · split <;> omega
          · intro z
            refine z2 ?_
            revert z
            split <;> omega
        · obtain ⟨rfl, sz', rfl, y0, y1, y2⟩ := hI
          exact endS sz' _ _ _ _ _ y0 y1 y2 h7 hc'
      refine ⟨_, rfl, _, _, rfl, rfl, _, rfl, ?_⟩
      refine iteB (fun c1 => ?_) (fun c1 => ?_)
      · have ta0 : 0 < ta := of_decide_eq_true c1
        refine ⟨_, rfl, _, rfl, _, _, rfl, rfl, h4.callP (vs := [.int (most + 1)]) (by omega) (.cons (.int _) .nil) ⟨_, rfl, by omega, by omega, fun sz z0 z1 v' H6 h6 => ?_⟩⟩
        obtain ⟨rfl, h6'⟩ := h6.int
        exact mid sz _ _ _ _ _ z0 (by omega) (fun _ => ta0) h6' (by omega)
      · exact mid 0 _ _ _ _ _ (by omega) (by omega) (fun z => by omega) h4 (by omega)
/-! ### _law_ps_wider -/
/-- the effect with m more straight places -/
def w__law_ps_wider : Tw := fun ds Q => ∃ n gs deep most, ds = [.tuple [.int n, dI gs], .int deep, .int most] ∧ 0 ≤ n ∧ n ≤ 100000 ∧ gs.length ≤ 100000 ∧
  ∀ m : Int, 0 ≤ m → m ≤ 9 → (0 < m → n + m ≤ deep ∧ (gs.length : Int) + m ≤ most) → Q (dE (n + m, gs ++ rg (n + 1) (n + m + 1)))
theorem ok__law_ps_wider (p : Prog K mg) : FnG P w K mg base CX0 2 p.f__law_ps_wider p.fd__law_ps_wider ["_law_sack", "_law_fx", "_law_deep", "_law_most"] (spP 1 w__law_ps_wider) := by
  refine okG p.d__law_ps_wider.F sc__law_ps_wider (fun vs H Q E h => ?_) (fun cdv A outer s H vs Q E hg hr h => ?_)
  · obtain ⟨p, b, vs', S, ds, G, rfl, _, _, r, _, ⟨n, gs, d, m, rfl, _⟩, _⟩ := h
    exact congrArg Nat.succ r.length
  · obtain ⟨u, b, vs', S, ds, G, rfl, hp, hb, r, np, ⟨n, gs, deep, most, rfl, n0, n1, l1, q⟩, k⟩ := h
    obtain ⟨v1, v2, v3, rfl, hS⟩ := enterP3 r hp np
    obtain rfl := hS.fint (v := v2) (by walk_at "mem")
    obtain rfl := hS.fint (v := v3) (by walk_at "mem")
    obtain ⟨t, w1, w2, rfl, h1⟩ := hS.ftup2 (by walk_at "mem")
    obtain rfl := h1.fint (v := w1) (by walk_at "mem")
    obtain ⟨a, rfl, ha⟩ := h1.rints (v := w2) (.fz (by walk_at "mem"))
    have ht := h1.tp (t := t) (by walk_at "mem")
    refine ⟨_, (pss_cons (ps_set (i := 4) sc__law_ps_wider.nd rfl (Or.inl rfl) (pe_callG ((ok__law_coin p).mono (by decide)) hg hr (by rfl) p.d__law_coin.gl p.d__law_coin.kp p.d__law_coin.bd pass0 (pa_cons (pv 0) (pa_cons (pe_op op_add pe_int (pe_callB (call_max2 rfl) (by rfl) p.blt.max (by decide +kernel) (pa_cons pe_int (pa_cons (pe_callB (call_min3 rfl) (by rfl) p.blt.min (by decide +kernel) (pa_cons (pe_op op_sub (pv 2) (pe_ix ix_tup (pv 1) pe_int (fun _ _ => rfl))) (pa_cons (pe_op op_sub (pv 3) (pe_callB call_len_seq (by rfl) p.blt.len PySem.boot_len (pa_cons (pe_ix ix_tup (pv 1) pe_int (fun _ _ => rfl)) pa_nil))) (pa_cons pe_int pa_nil)))) pa_nil)))) pa_nil))))
      (pss_one (ps_ret (pe_tup (pa_cons (pe_op op_add (pe_ix ix_tup (pv 1) pe_int (fun _ _ => rfl)) (pv 4)) (pa_cons (pe_op op_cat (pe_ix ix_tup (pv 1) pe_int (fun _ _ => rfl)) (pe_listRg rfl (by rfl) p.blt.list (prg_2 (by rfl) p.blt.range (pe_op op_add (pe_ix ix_tup (pv 1) pe_int (fun _ _ => rfl)) pe_int) (pe_op op_add (pe_op op_add (pe_ix ix_tup (pv 1) pe_int (fun _ _ => rfl)) (pv 4)) pe_int)))) pa_nil)))))), ?_⟩
    -- more = coin(1 + max(0, min(deep - fx[0], most - len(fx[1]), 9)))
    refine ⟨_, rfl, _, rfl, _, rfl, t, _, _, _, rfl, rfl, SqT.of ht, atI_nat (j := 0) rfl, _, _, rfl, rfl, _, rfl, _, rfl, t, _, _, _, rfl, rfl, SqT.of ht, atI_nat (j := 1) rfl, a, _, rfl, .inl (SqL.of ha), _, _, rfl, rfl, _, _, _, rfl, _, _, rfl, _, _, rfl, rfl, ?_⟩
    rw [ints_len]
    refine h1.callP (vs := [.int _]) (by omega) (.cons (.int _) .nil) ⟨_, rfl, by split <;> omega, by split <;> omega, fun m m0 m1 v' H2 h2 => ?_⟩
    obtain ⟨rfl, h3⟩ := h2.int
    have m9 : m ≤ 9 := by
      revert m1
      split <;> omega
    have mb : 0 < m → n + m ≤ deep ∧ (gs.length : Int) + m ≤ most := by
      intro mp
      revert m1
      split <;> omega
    have qq := q m m0 m9 mb
    obtain ⟨a', e, ha3⟩ := h3.rints (v := .ref a) (.fz (by walk_at "mem"))
    cases e
    have ht3 := h3.tp (t := t) (by walk_at "mem")
    -- the pair
    refine ⟨_, rfl, t, _, _, _, rfl, rfl, SqT.of ht3, atI_nat (j := 0) rfl, _, rfl, _, _, rfl, rfl, ?_⟩
    refine ⟨_, rfl, t, _, _, _, rfl, rfl, SqT.of ht3, atI_nat (j := 1) rfl, ?_⟩
    refine ⟨_, rfl, t, _, _, _, rfl, rfl, SqT.of ht3, atI_nat (j := 0) rfl, _, _, rfl, rfl, _, rfl, t, _, _, _, rfl, rfl, SqT.of ht3, atI_nat (j := 0) rfl, _, rfl, _, _, rfl, rfl, _, _, rfl, rfl, _, _, rfl, rfl, RgOk.of_le (by omega) (by omega) (by omega) (by omega), fun l hl => ?_⟩
    rw [rgV_map]
    have h4 := h3.mkInts (ns := rg (n + 1) (n + m + 1)) hl
    obtain ⟨hl1, _⟩ := h4.putInts
    have lr := rg_length (n + 1) (n + m + 1)
    refine ⟨a, l, _, _, rfl, rfl, same_upd hl _ _ ha3, hl1, szle (by rw [ints_len, ints_len]; omega), fun o ho => ?_⟩
    rw [← List.map_append]
    have h5 := h4.mkInts (ns := gs ++ rg (n + 1) (n + m + 1)) ho
    refine ⟨szle (by simp), fun z hz => ?_⟩
    have h6 := (h5.mkTup hz).take (.tp2 (List.Mem.head _) (.int (n + m)) (.own .hd))
    obtain ⟨fr, pu, nw⟩ := h6.leaveP (c := b + 1) (by omega)
    exact k _ _ _ qq fr pu nw
/-! ### _law_ps_do -/
def w__law_ps_do : Tw := fun ds Q => ∃ n gs hp, ds = [.tuple [.int n, dI gs], dI hp] ∧ 0 ≤ n ∧ (∀ x ∈ gs, 1 ≤ x ∧ x ≤ (hp.length : Nat)) ∧ gs.length ≤ 100000 ∧ hp.length ≤ 100000 ∧ Q (dI (doE (n, gs) hp))
theorem ok__law_ps_do (p : Prog K mg) : FnG P w K mg base CX0 1 p.f__law_ps_do p.fd__law_ps_do ["_law_fx", "_law_heap"] (spT w__law_ps_do) := by
  refine okG p.d__law_ps_do.F sc__law_ps_do (fun vs H Q E h => ?_) (fun cdv A outer s H vs Q E hg hr h => ?_)
  · obtain ⟨S, ds, Gq, r, ⟨n, gs, hp, rfl, _⟩, _⟩ := h
    exact r.length
  · obtain ⟨S, ds, Gq, r, ⟨n, gs, hp, rfl, n0, hx, l1, l2, q⟩, k⟩ := h
    obtain ⟨v1, v2, rfl, hS⟩ := enter2 r
    obtain ⟨t, w1, w2, rfl, h1⟩ := hS.ftup2 (v := v1) (by walk_at "mem")
    obtain rfl := h1.fint (v := w1) (by walk_at "mem")
    obtain ⟨a, rfl, ha⟩ := h1.rints (v := w2) (ns := gs) (.fz (by walk_at "mem"))
    obtain ⟨b, rfl, hb⟩ := h1.rints (v := v2) (ns := hp) (.fz (by walk_at "mem"))
    have ht := h1.tp (t := t) (by walk_at "mem")
    refine ⟨_, (pss_one (ps_ret (pe_op op_cat (pe_lc (own := [("_law_rank", 2)]) (g := gName 2) (tt := tYes) rfl sc__law_ps_do.nd (pi_list (pe_ix ix_tup (pv 0) pe_int (fun _ _ => rfl))) (blkOk_by (N := N__law_ps_do) (sc := defScope s__law_ps_do) (by decide +kernel)) (fun _ _ _ _ _ => pg_name (i := 2) sc__law_ps_do.nd rfl (Or.inl rfl)) (fun _ _ _ _ _ => pts_nil) (fun _ _ _ _ _ => (pe_ix (show IxR _ (rIxL K) from ix_list) (pv 1) (pe_op op_sub (pv 2) pe_int) (fun _ _ => rfl)))) (pe_slice sl_list (pv 1) (po_some (pe_ix ix_tup (pv 0) pe_int (fun _ _ => rfl))) po_none)))), ?_⟩
    refine ⟨_, rfl, t, _, _, _, rfl, rfl, SqT.of ht, atI_nat (j := 1) rfl, a, rfl, ⟨_, SqL.of ha⟩, fun Dl hD => ?_⟩
    refine lc_map (fun x => hp.getD (x - 1).toNat 0) h1 hD (fun _ => .fz (by walk_at "mem")) (by omega) (fun x hxm gs' H1 h2 R hR => ?_) (fun H1 h2 => ?_)
    · obtain ⟨b', e, hb1⟩ := h2.rints (v := .ref b) (ns := hp) (.fz (by walk_at "mem"))
      cases e
      have b1 := hx x hxm
      have e : hp[(x - 1).toNat]? = some hp[(x - 1).toNat] := List.getElem?_eq_getElem (by omega)
      refine ⟨_, rfl, _, rfl, _, _, rfl, rfl, b, _, x - 1, _, rfl, rfl, SqL.of hb1, at_nat (k := (x - 1).toNat) (by omega) (ints_at e), ?_⟩
      rw [List.getD_eq_getElem?_getD, e] at hR
      exact hR
    · obtain ⟨b', e, hb1⟩ := h2.rints (v := .ref b) (ns := hp) (.fz (by walk_at "mem"))
      cases e
      have ht2 := h2.tp (t := t) (vs := [.int n, .ref a]) (by walk_at "mem")
      refine ⟨_, rfl, _, rfl, t, _, _, _, rfl, rfl, SqT.of ht2, atI_nat (j := 0) rfl, _, rfl, b, _, rfl, SqL.of hb1, fun c hc => ?_⟩
      obtain ⟨m, rfl⟩ : ∃ m : Nat, n = (m : Int) := ⟨n.toNat, by omega⟩
      rw [cutV_from, ← List.map_drop]
      have h3 := h2.mkInts (ns := hp.drop m) hc
      obtain ⟨hc1, _⟩ := h3.putInts
      obtain ⟨hD1, _⟩ := h2.putInts
      refine ⟨Dl, c, _, _, rfl, rfl, same_upd hc _ _ hD1, hc1, szle (by rw [ints_len, ints_len]; simp; omega), fun o ho => ?_⟩
      rw [← List.map_append]
      have h4 := h3.mkInts (ns := gs.map (fun x => hp.getD (x - 1).toNat 0) ++ hp.drop m) ho
      obtain ⟨sm, nw⟩ := h4.leave
      exact k _ _ _ q sm nw
/-! ### _law_ps_both -/
def bothE (e f : Int × List Int) : Int × List Int := leastE (cE e f f.1).1 (cE e f f.1).2
theorem doE_pre {n d : Int} {gs : List Int} (ef : Eff (n, gs)) (h0 : 0 ≤ d) : doE (n, gs) (rg 1 (n + d + 1)) = upE (n, gs) d := by
  have n0 : 0 ≤ n := ef.nn
  unfold doE upE
  have e1 : (rg 1 (n + d + 1)).drop n.toNat = rg (n + 1) (n + d + 1) := by
    have l := rg_length 1 (n + 1)
    rw [← rg_app (a := 1) (b := n + 1) (c := n + d + 1) (by omega) (by omega), List.drop_append_of_le_length (by omega), List.drop_of_length_le (by omega), List.nil_append]
  dsimp only
  rw [e1]
  congr 1
  conv => rhs; rw [← List.map_id gs]
  refine List.map_congr_left fun x hx => ?_
  have h1 : 1 ≤ x := ef.ge x hx
  have h2 : x ≤ n := ef.le x hx
  rw [rg_getD (by omega)]
  show _ = x
  omega
theorem both_join {e f : Int × List Int} (he : Eff e) (hf : Eff f) : bothE e f = joinE (leastE e.1 e.2) (leastE f.1 f.2) := by
  have h0 := hf.nn
  have le := (leastE_ok he).eff
  have lf := (leastE_ok hf).eff
  have ok : f.1 ≤ e.2.length + f.1 := by omega
  refine canon (leastE_ok (cE_eff he hf h0 ok)).eff (join_eff le lf) (leastE_idem _ _) join_lst fun r hr => ?_
  rw [from_join lf hr, from_least (n := f.1) (gs := f.2) hr, from_least (from_ge hf hr)]
  have e1 : fromE (bothE e f) r = fromE (cE e f f.1) r := from_least (n := (cE e f f.1).1) (gs := (cE e f f.1).2) hr
  rw [e1]
  exact from_c hf h0 ok hr
theorem join_bd {e f : Int × List Int} (he : Eff e) (hf : Eff f) : (joinE e f).1 ≤ e.1 + f.1 ∧ (joinE e f).2.length ≤ f.2.length + e.2.length := by
  have h0 := hf.nn
  have mo := more_ok (e := e) (d := f.1)
  have ml : moreE e f.1 ≤ f.1 := by
    unfold moreE
    split <;> omega
  have ok := leastE_ok (cE_eff he hf mo.1 mo.2)
  have cl := cE_len (e := e) hf mo.1 mo.2
  have a1 : (joinE e f).1 ≤ e.1 + moreE e f.1 := ok.le
  have a2 : (joinE e f).2.length ≤ (cE e f (moreE e f.1)).2.length := ok.len
  exact ⟨by omega, by omega⟩
theorem from_nil {r : Int} (hr : 1 ≤ r) : fromE (0, []) r = r := by
  unfold fromE
  rw [if_neg (by simp; omega)]
  simp
theorem eff_nil : Eff (0, []) := ⟨Int.le_refl _, by simp, by simp⟩
theorem join_nil {e : Int × List Int} (he : Eff e) (le : Lst e) : joinE e (0, []) = e := canon (join_eff he eff_nil) he join_lst le fun r hr => by rw [from_join eff_nil hr, from_nil hr]
theorem nil_join {e : Int × List Int} (he : Eff e) (le : Lst e) : joinE (0, []) e = e := canon (join_eff eff_nil he) he join_lst le fun r hr => by rw [from_join he hr, from_nil (from_ge he hr)]
def w__law_ps_both : Tw := fun ds Q => ∃ n gs d ls, ds = [.tuple [.int n, dI gs], .tuple [.int d, dI ls]] ∧ Eff (n, gs) ∧ Eff (d, ls) ∧ n ≤ 1000 ∧ d ≤ 1000 ∧ gs.length ≤ 1000 ∧ ls.length ≤ 1000 ∧ Q (dE (joinE (leastE n gs) (leastE d ls)))
theorem ok__law_ps_both (p : Prog K mg) : FnG P w K mg base CX0 2 p.f__law_ps_both p.fd__law_ps_both ["_law_fx", "_law_gx"] (spT w__law_ps_both) := by
  refine okG p.d__law_ps_both.F sc__law_ps_both (fun vs H Q E h => ?_) (fun cdv A outer s H vs Q E hg hr h => ?_)
  · obtain ⟨S, ds, Gq, r, ⟨n, gs, d, ls, rfl, _⟩, _⟩ := h
    exact r.length
  · obtain ⟨S, ds, Gq, r, ⟨n, gs, d, ls, rfl, ef, eg, n1, d1, l1, l2, q⟩, k⟩ := h
    obtain ⟨v1, v2, rfl, hS⟩ := enter2 r
    have n0 : 0 ≤ n := ef.nn
    have d0 : 0 ≤ d := eg.nn
    obtain ⟨t, w1, w2, rfl, h1⟩ := hS.ftup2 (v := v1) (by walk_at "mem")
    obtain rfl := h1.fint (v := w1) (by walk_at "mem")
    obtain ⟨t2, w3, w4, rfl, h2⟩ := h1.ftup2 (v := v2) (by walk_at "mem")
    obtain rfl := h2.fint (v := w3) (by walk_at "mem")
    have ht := h2.tp (t := t) (by walk_at "mem")
    have ht2 := h2.tp (t := t2) (by walk_at "mem")
    refine ⟨_, (pss_cons (ps_set (i := 2) sc__law_ps_both.nd rfl (Or.inl rfl) (pe_op op_add (pe_ix ix_tup (pv 0) pe_int (fun _ _ => rfl)) (pe_ix ix_tup (pv 1) pe_int (fun _ _ => rfl))))
      (pss_one (ps_ret (pe_callG ((ok__law_ps_least p).mono (by decide)) hg hr (by rfl) p.d__law_ps_least.gl p.d__law_ps_least.kp p.d__law_ps_least.bd pass0 (pa_cons (pv 2) (pa_cons (pe_callG ((ok__law_ps_do p).mono (by decide)) hg hr (by rfl) p.d__law_ps_do.gl p.d__law_ps_do.kp p.d__law_ps_do.bd pass0 (pa_cons (pv 1) (pa_cons (pe_callG ((ok__law_ps_do p).mono (by decide)) hg hr (by rfl) p.d__law_ps_do.gl p.d__law_ps_do.kp p.d__law_ps_do.bd pass0 (pa_cons (pv 0) (pa_cons (pe_listRg rfl (by rfl) p.blt.list (prg_2 (by rfl) p.blt.range pe_int (pe_op op_add (pv 2) pe_int))) pa_nil))) pa_nil))) pa_nil)))))), ?_⟩
    -- deep = fx[0] + gx[0]
    refine ⟨_, rfl, t, _, _, _, rfl, rfl, SqT.of ht, atI_nat (j := 0) rfl, _, rfl, t2, _, _, _, rfl, rfl, SqT.of ht2, atI_nat (j := 0) rfl, _, _, rfl, rfl, ?_⟩
    -- return least(deep, do(gx, do(fx, list(range(1, deep + 1)))))
    refine ⟨_, rfl, _, rfl, _, rfl, _, rfl, _, _, rfl, rfl, _, _, rfl, rfl, RgOk.of_le (by omega) (by omega) (by omega) (by omega), fun l hl => ?_⟩
    rw [rgV_map]
    have h3 := h2.mkInts (ns := rg 1 (n + d + 1)) hl
    have lr := rg_length 1 (n + d + 1)
    refine h3.call (vs := [.ref t, .ref l]) (.cons (.tp2 (by walk_at "mem") (.int _) (.fz (by walk_at "mem"))) (.cons (.ow (by walk_at "mem")) .nil)) ⟨n, gs, _, rfl, n0, fun x hx => ?_, by omega, by omega, fun v H4 h4 => ?_⟩
    · have a1 : 1 ≤ x := ef.ge x hx
      have a2 : x ≤ n := ef.le x hx
      omega
    rw [doE_pre ef d0] at h4
    have ul : (((upE (n, gs) d).length : Nat) : Int) = gs.length + d := up_len (e := (n, gs)) d0
    refine h4.call (vs := [.ref t2, v]) (.cons (.tp2 (by walk_at "mem") (.int _) (.fz (by walk_at "mem"))) (.cons (.ow (by walk_at "mem")) .nil)) ⟨d, ls, _, rfl, d0, fun x hx => ?_, by omega, by omega, fun v H5 h5 => ?_⟩
    · have a1 : 1 ≤ x := eg.ge x hx
      have a2 : x ≤ d := eg.le x hx
      omega
    have ce := cE_eff (e := (n, gs)) (f := (d, ls)) (m := d) ef eg d0 (by show d ≤ (gs.length : Nat) + d; omega)
    have cl := cE_len (e := (n, gs)) (f := (d, ls)) (m := d) eg d0 (by show d ≤ (gs.length : Nat) + d; omega)
    have cl2 : (((doE (d, ls) (upE (n, gs) d)).length : Nat) : Int) = ls.length + (gs.length + d - d) := cl
    refine h5.call (vs := [.int (n + d), v]) (.cons (.int _) (.cons (.ow (by walk_at "mem")) .nil)) ⟨n + d, doE (d, ls) (upE (n, gs) d), rfl, ce.le, by omega, fun v H6 h6 => ?_⟩
    have eb : leastE (n + d) (doE (d, ls) (upE (n, gs) d)) = joinE (leastE n gs) (leastE d ls) := both_join (e := (n, gs)) (f := (d, ls)) ef eg
    rw [eb] at h6
    obtain ⟨sm, nw⟩ := h6.leave
    exact k _ _ _ q sm nw
/-! ### _law_ps_same -/
def w__law_ps_same : Tw := fun ds Q => ∃ d e : D, ds = [d, e] ∧ d = e ∧ Sh 60 10000000 d ∧ Q (.bool true)
theorem ok__law_ps_same (p : Prog K mg) : FnG P w K mg base CX0 1 p.f__law_ps_same p.fd__law_ps_same ["_law_told", "_law_due"] (spT w__law_ps_same) := by
  refine okG p.d__law_ps_same.F sc__law_ps_same (fun vs H Q E h => ?_) (fun cdv A outer s H vs Q E hg hr h => ?_)
  · obtain ⟨S, ds, G, r, ⟨d, e, rfl, _⟩, _⟩ := h
    exact r.length
  · obtain ⟨S, ds, G, r, ⟨d, e, rfl, rfl, sh, q⟩, k⟩ := h
    cases r with
    | cons r1 r =>
      cases r with
      | cons r2 r =>
        cases r
        refine ⟨_, (pss_one (ps_ret (pe_cmpR op_eq (pe_callB (cr_repr hg hr.units) (by rfl) p.blt.repr (by decide +kernel) (pa_cons (pv 0) pa_nil)) (pe_callB (cr_repr hg hr.units) (by rfl) p.blt.repr (by decide +kernel) (pa_cons (pv 1) pa_nil)) (nomark _)))), ?_⟩
        have D1 := Rep.dp K _ _ _ r1
        have D2 := Rep.dp K _ _ _ r2
        have sz : d.shown.length ≤ sizeLine := Nat.le_trans (shown_wd d (Dp.nodict d _ D1)) (szle sh.wd)
        refine ⟨_, rfl, _, d, rfl, D1, sh.sh, sh.dp, sz, _, rfl, _, d, rfl, D2, sh.sh, sh.dp, sz, rfl, ?_⟩
        rw [decide_eq_true rfl]
        exact k _ _ _ q (Same.refl _) ⟨[], .bl true, by simp, by simp⟩
/-! ### _law_ps_spoil -/
theorem ok__law_ps_spoil (p : Prog K mg) : ∀ n : Nat, FnG P w K mg base CX0 n p.f__law_ps_spoil p.fd__law_ps_spoil ["_law_thing", "_law_tally"] (spSpoil n) := by
  intro n
  induction n with
  | zero =>
    refine ⟨fun vs H Q E h => ?_, fun A outer s H args us vs Q E hg hr e0 bt r h => ?_⟩
    · obtain ⟨v, l, d, k, S, _, _, _, _, _, h, _⟩ := h
      exact absurd h (Nat.not_lt_zero _)
    · obtain ⟨v, l, d, k, S, _, _, _, _, _, h, _⟩ := h
      exact absurd h (Nat.not_lt_zero _)
  | succ n ih =>
    refine okG p.d__law_ps_spoil.F sc__law_ps_spoil (fun vs H Q E h => ?_) (fun cdv A outer s H vs Q E hg hr h => ?_)
    · obtain ⟨v, l, d, k, S, rfl, _⟩ := h
      rfl
    · obtain ⟨v, l, d, k, S, rfl, rep, nd, nl, hl, dp, sz, q⟩ := h
      refine ⟨_, (C8.pss_cut (ps_if (pt_val (pe_callB call_isiT (by rfl) p.blt.isinstance (by decide +kernel) (pa_cons (pv 0) (pa_cons (pe_tup (pa_cons (pe_bltn (v := .ty "list") (by rfl) p.blt.list (by decide +kernel) rfl) (pa_cons (pe_bltn (v := .ty "tuple") (by rfl) p.blt.tuple (by decide +kernel) rfl) pa_nil))) pa_nil))))
      (pss_one (ps_for PassesOwn.never rfl (pi_or (pi_list (pv 0)) (pi_tup (pv 0))) (pg_name (i := 2) sc__law_ps_spoil.nd rfl (Or.inl rfl))
      (pss_one (ps_expr (pe_callG ih hg hr (by rfl) p.d__law_ps_spoil.gl p.d__law_ps_spoil.kp p.d__law_ps_spoil.bd pass0 (pa_cons (pv 2) (pa_cons (pv 1) pa_nil))))))) pss_nil)
      (pss_one (ps_if (pt_val (pe_callB call_isi (by rfl) p.blt.isinstance (by decide +kernel) (pa_cons (pv 0) (pa_cons (pe_bltn (v := .ty "list") (by rfl) p.blt.list (by decide +kernel) rfl) pa_nil))))
      (pss_cons (ps_asg (pe_op op_add (pe_ix ix_list (pv 1) pe_int (fun _ _ => rfl)) pe_int) (pg_sub (pv 1) pe_int set_list))
      (pss_one (ps_expr (pe_bm PySem.F.plainAttrs_list PySem.F.slot_list_append PySem.F.type_list_append mt_append (pv 0) (pa_cons (pe_un un_neg (pe_ix ix_list (pv 1) pe_int (fun _ _ => rfl))) pa_nil))))) pss_nil))), ?_⟩
      cases d with
      | list ds =>
        cases rep with
        | @lst a vs S' _ ha rs =>
          have len := rs.length
          simp only [PyData.depth] at dp
          simp only [G.wd] at sz
          have ala : a ≠ l := fun z => nl (z ▸ List.mem_cons_self)
          have nds : S'.Nodup := (List.nodup_cons.mp nd).2
          have nls : l ∉ S' := fun z => nl (List.mem_cons_of_mem _ z)
          have nas : a ∉ S' := (List.nodup_cons.mp nd).1
          have rep : Rep H (a :: S') (.ref a) (.list ds) := .lst ha rs
          refine ⟨fun σ H1 => ∃ y, σ = [some (.ref a), some (.ref l), y] ∧ Reps H1 S' vs (spDs ds k).1 ∧ H1 l = some (.lst [.int (spDs ds k).2]) ∧ ∀ b o, H b = some o → b ∉ S' → b ≠ l → H1 b = some o, ?_, fun σ H1 hI => ?_⟩
          · refine ⟨_, rfl, szle (by simp), fun t ht => ⟨_, t, _, _, [.type "list", .type "tuple"], _, rfl, upd_same, .cons (.ty _) (.cons (.ty _) .nil), tyx (rep.same (same_upd ht)), kit_seq rep, ?_⟩⟩
            refine ⟨_, rfl, iteT ?_⟩
            refine .inl ⟨_, rfl, a, rfl, ⟨_, SqL.of (same_upd ht _ _ ha)⟩, ?_⟩
            refine for_list (xs := vs) (fun i σ H1 => i ≤ ds.length ∧ (∃ y, σ = [some (.ref a), some (.ref l), y]) ∧ SpI H l k S' vs ds i H1) ⟨Nat.zero_le _, ⟨_, rfl⟩, SpI.zero (Reps.mono (fun t' xs e => same_upd ht _ _ e) _ _ _ rs fun b m o e => same_upd ht _ _ e) (same_upd ht _ _ hl) fun b o e _ _ => same_upd ht _ _ e⟩ (fun i σ H1 _ hI => ?_) (fun i x σ H1 hx hI => ?_) (fun σ H1 hI => ?_)
            · obtain ⟨_, _, _, _, _, _, _, _, fr⟩ := hI
              exact SqL.of (fr _ _ ha nas ala)
            · obtain ⟨hi, ⟨y, rfl⟩, hJ⟩ := hI
              have hil : i < vs.length := (List.getElem?_eq_some_iff.mp hx).1
              obtain ⟨di, hdi⟩ : ∃ e, ds[i]? = some e := ⟨_, List.getElem?_eq_getElem (show i < ds.length by omega)⟩
              have mi := List.mem_of_getElem? hdi
              have z1 := depth_mem mi
              have z2 := wd_mem mi
              obtain ⟨Sx, rx, ndx, nlx, hlx, kx⟩ := hJ.step nds nls hx hdi
              refine ⟨_, rfl, _, rfl, x, l, di, _, Sx, rfl, rx, ndx, nlx, hlx, by omega, by omega, fun H2 fr2 r2 hl2 => ?_⟩
              exact ⟨by omega, ⟨_, rfl⟩, kx H2 fr2 r2 hl2⟩
            · obtain ⟨_, ⟨y, rfl⟩, hJ⟩ := hI
              obtain ⟨a1, a2, a3⟩ := hJ.fin len
              exact ⟨_, rfl, a1, a2, a3⟩
          · obtain ⟨y, rfl, r1, hl1, fr⟩ := hI
            have ha1 := fr _ _ ha nas ala
            have rep1 : Rep H1 (a :: S') (.ref a) (.list (spDs ds k).1) := .lst ha1 r1
            refine ⟨_, rfl, .ref a, _, _, _, _, rfl, .ty _, tyx rep1, kit_list rep1, ?_⟩
            refine ⟨_, rfl, iteT ?_⟩
            refine ⟨_, rfl, _, _, _, _, rfl, rfl, SqL.of hl1, atI_nat (j := 0) rfl, _, _, rfl, rfl, _, rfl, _, _, _, 0, rfl, rfl, hl1, rfl, ?_⟩
            have ha2 : upd H1 l (.lst [.int ((spDs ds k).2 + 1)]) a = some (.lst vs) := by rw [upd_ne ala]; exact ha1
            have lv := wds_len ds
            refine ⟨_, rfl, tyL ha2, _, rfl, _, _, _, _, rfl, rfl, SqL.of upd_same, atI_nat (j := 0) rfl, _, rfl, a, _, _, rfl, rfl, ha2, szlt (by omega), ?_⟩
            have lists : ∀ b ∈ S', ∃ xs, H1 b = some (.lst xs) := Reps.dom _ _ _ r1
            have nt : ∀ t xs, H1 t = some (.tup xs) → upd (upd H1 l (.lst [.int ((spDs ds k).2 + 1)])) a (.lst (vs ++ [.int (-((spDs ds k).2 + 1))])) t = some (.tup xs) := fun t xs e => by
              have e1 : t ≠ a := fun z => by rw [z, ha1] at e; cases e
              have e2 : t ≠ l := fun z => by rw [z, hl1] at e; cases e
              rw [upd_ne e1, upd_ne e2]
              exact e
            refine q _ (fun b o e m1 m2 => ?_) ?_ ?_
            · have e1 : b ≠ a := fun z => m1 (z ▸ List.mem_cons_self)
              rw [upd_ne e1, upd_ne m2]
              exact fr b o e (fun z => m1 (List.mem_cons_of_mem _ z)) m2
            · simp only [spD]
              refine .lst upd_same ?_
              have q := Reps.append (Reps.mono nt _ _ _ r1 fun b m o e => by
                have e1 : b ≠ a := fun z => nas (z ▸ m)
                have e2 : b ≠ l := fun z => nls (z ▸ m)
                rw [upd_ne e1, upd_ne e2]
                exact e) (Reps.cons (.int (-((spDs ds k).2 + 1))) .nil)
              rw [List.append_nil, List.append_nil] at q
              exact q
            · rw [upd_ne (Ne.symm ala)]
              exact upd_same
      | tuple ds =>
        cases rep with
        | @tup a vs S _ ha rs =>
          have len := rs.length
          simp only [PyData.depth] at dp
          simp only [G.wd] at sz
          have ala : a ≠ l := fun z => by rw [z, hl] at ha; cases ha
          have nds : S.Nodup := nd
          have nls : l ∉ S := nl
          have nas : a ∉ S := fun z => by
            obtain ⟨xs, e⟩ := Reps.dom _ _ _ rs a z
            rw [ha] at e
            cases e
          have rep : Rep H S (.ref a) (.tuple ds) := .tup ha rs
          refine ⟨fun σ H1 => ∃ y, σ = [some (.ref a), some (.ref l), y] ∧ Reps H1 S vs (spDs ds k).1 ∧ H1 l = some (.lst [.int (spDs ds k).2]) ∧ ∀ b o, H b = some o → b ∉ S → b ≠ l → H1 b = some o, ?_, fun σ H1 hI => ?_⟩
          · refine ⟨_, rfl, szle (by simp), fun t ht => ⟨_, t, _, _, [.type "list", .type "tuple"], _, rfl, upd_same, .cons (.ty _) (.cons (.ty _) .nil), tyx (rep.same (same_upd ht)), kit_seq rep, ?_⟩⟩
            refine ⟨_, rfl, iteT ?_⟩
            refine .inr ⟨_, rfl, a, rfl, ⟨_, SqT.of (same_upd ht _ _ ha)⟩, ?_⟩
            refine for_tup (xs := vs) (fun i σ H1 => i ≤ ds.length ∧ (∃ y, σ = [some (.ref a), some (.ref l), y]) ∧ SpI H l k S vs ds i H1) ⟨Nat.zero_le _, ⟨_, rfl⟩, SpI.zero (Reps.mono (fun t' xs e => same_upd ht _ _ e) _ _ _ rs fun b m o e => same_upd ht _ _ e) (same_upd ht _ _ hl) fun b o e _ _ => same_upd ht _ _ e⟩ (fun i σ H1 _ hI => ?_) (fun i x σ H1 hx hI => ?_) (fun σ H1 hI => ?_)
            · obtain ⟨_, _, _, _, _, _, _, _, fr⟩ := hI
              exact SqT.of (fr _ _ ha nas ala)
            · obtain ⟨hi, ⟨y, rfl⟩, hJ⟩ := hI
              have hil : i < vs.length := (List.getElem?_eq_some_iff.mp hx).1
              obtain ⟨di, hdi⟩ : ∃ e, ds[i]? = some e := ⟨_, List.getElem?_eq_getElem (show i < ds.length by omega)⟩
              have mi := List.mem_of_getElem? hdi
              have z1 := depth_mem mi
              have z2 := wd_mem mi
              obtain ⟨Sx, rx, ndx, nlx, hlx, kx⟩ := hJ.step nds nls hx hdi
              refine ⟨_, rfl, _, rfl, x, l, di, _, Sx, rfl, rx, ndx, nlx, hlx, by omega, by omega, fun H2 fr2 r2 hl2 => ?_⟩
              exact ⟨by omega, ⟨_, rfl⟩, kx H2 fr2 r2 hl2⟩
            · obtain ⟨_, ⟨y, rfl⟩, hJ⟩ := hI
              obtain ⟨a1, a2, a3⟩ := hJ.fin len
              exact ⟨_, rfl, a1, a2, a3⟩
          · obtain ⟨y, rfl, r1, hl1, fr⟩ := hI
            have ha1 := fr _ _ ha nas ala
            have rep1 : Rep H1 S (.ref a) (.tuple (spDs ds k).1) := .tup ha1 r1
            refine ⟨_, rfl, .ref a, _, _, _, _, rfl, .ty _, tyx rep1, kit_list rep1, ?_⟩
            refine ⟨_, rfl, iteF ?_⟩
            refine q _ fr ?_ ?_
            · simp only [spD]
              exact .tup ha1 r1
            · simp only [spD]
              exact hl1
      | none =>
        refine ⟨fun σ H1 => ∃ y, σ = [some v, some (.ref l), y] ∧ Same H H1, ?_, fun σ H1 hI => ?_⟩
        · refine ⟨_, rfl, szle (by simp), fun t ht => ⟨_, t, _, _, [.type "list", .type "tuple"], _, rfl, upd_same, .cons (.ty _) (.cons (.ty _) .nil), tyx (rep.same (same_upd ht)), kit_seq rep, ?_⟩⟩
          exact ⟨_, rfl, iteF ⟨_, rfl, same_upd ht⟩⟩
        · obtain ⟨y, rfl, sm⟩ := hI
          refine ⟨_, rfl, v, _, _, _, _, rfl, .ty _, tyx (rep.same sm), kit_list rep, ?_⟩
          refine ⟨_, rfl, iteF ?_⟩
          exact q _ (fun a o e _ _ => sm a o e) (Rep.mono (fun t vs e => sm _ _ e) _ _ _ rep fun a m o e => sm a o e) (sm _ _ hl)
      | bool b =>
        refine ⟨fun σ H1 => ∃ y, σ = [some v, some (.ref l), y] ∧ Same H H1, ?_, fun σ H1 hI => ?_⟩
        · refine ⟨_, rfl, szle (by simp), fun t ht => ⟨_, t, _, _, [.type "list", .type "tuple"], _, rfl, upd_same, .cons (.ty _) (.cons (.ty _) .nil), tyx (rep.same (same_upd ht)), kit_seq rep, ?_⟩⟩
          exact ⟨_, rfl, iteF ⟨_, rfl, same_upd ht⟩⟩
        · obtain ⟨y, rfl, sm⟩ := hI
          refine ⟨_, rfl, v, _, _, _, _, rfl, .ty _, tyx (rep.same sm), kit_list rep, ?_⟩
          refine ⟨_, rfl, iteF ?_⟩
          exact q _ (fun a o e _ _ => sm a o e) (Rep.mono (fun t vs e => sm _ _ e) _ _ _ rep fun a m o e => sm a o e) (sm _ _ hl)
      | int i =>
        refine ⟨fun σ H1 => ∃ y, σ = [some v, some (.ref l), y] ∧ Same H H1, ?_, fun σ H1 hI => ?_⟩
        · refine ⟨_, rfl, szle (by simp), fun t ht => ⟨_, t, _, _, [.type "list", .type "tuple"], _, rfl, upd_same, .cons (.ty _) (.cons (.ty _) .nil), tyx (rep.same (same_upd ht)), kit_seq rep, ?_⟩⟩
          exact ⟨_, rfl, iteF ⟨_, rfl, same_upd ht⟩⟩
        · obtain ⟨y, rfl, sm⟩ := hI
          refine ⟨_, rfl, v, _, _, _, _, rfl, .ty _, tyx (rep.same sm), kit_list rep, ?_⟩
          refine ⟨_, rfl, iteF ?_⟩
          exact q _ (fun a o e _ _ => sm a o e) (Rep.mono (fun t vs e => sm _ _ e) _ _ _ rep fun a m o e => sm a o e) (sm _ _ hl)
      | str x =>
        refine ⟨fun σ H1 => ∃ y, σ = [some v, some (.ref l), y] ∧ Same H H1, ?_, fun σ H1 hI => ?_⟩
        · refine ⟨_, rfl, szle (by simp), fun t ht => ⟨_, t, _, _, [.type "list", .type "tuple"], _, rfl, upd_same, .cons (.ty _) (.cons (.ty _) .nil), tyx (rep.same (same_upd ht)), kit_seq rep, ?_⟩⟩
          exact ⟨_, rfl, iteF ⟨_, rfl, same_upd ht⟩⟩
        · obtain ⟨y, rfl, sm⟩ := hI
          refine ⟨_, rfl, v, _, _, _, _, rfl, .ty _, tyx (rep.same sm), kit_list rep, ?_⟩
          refine ⟨_, rfl, iteF ?_⟩
          exact q _ (fun a o e _ _ => sm a o e) (Rep.mono (fun t vs e => sm _ _ e) _ _ _ rep fun a m o e => sm a o e) (sm _ _ hl)
      | dict _ => cases rep
/-! ### _law_ps_alone -/
theorem ok__law_ps_alone (p : Prog K mg) : FnG P w K mg base CX0 9 p.f__law_ps_alone p.fd__law_ps_alone ["_law_told"] spEat := by
  refine okG p.d__law_ps_alone.F sc__law_ps_alone (fun vs H Q E h => ?_) (fun cdv A outer s H vs Q E hg hr h => ?_)
  · obtain ⟨v, d, S, rfl, _⟩ := h
    rfl
  · obtain ⟨v, d, S, rfl, rep, nd, sh, hn, q⟩ := h
    have dp := sh.dp
    have sw := sh.wd
    refine ⟨_, (pss_cons (ps_set (i := 1) sc__law_ps_alone.nd rfl (Or.inl rfl) (pe_callG ((ok__law_copied p 8).mono (by decide)) hg hr (by rfl) p.d__law_copied.gl p.d__law_copied.kp p.d__law_copied.bd pass0 (pa_cons (pv 0) pa_nil)))
      (pss_cons (ps_expr (pe_callG ((ok__law_ps_spoil p 8).mono (by decide)) hg hr (by rfl) p.d__law_ps_spoil.gl p.d__law_ps_spoil.kp p.d__law_ps_spoil.bd pass0 (pa_cons (pv 0) (pa_cons (pe_lst (pa_cons pe_int pa_nil)) pa_nil))))
      (pss_cons (ps_expr (pe_callG ((ok__law_ps_spoil p 8).mono (by decide)) hg hr (by rfl) p.d__law_ps_spoil.gl p.d__law_ps_spoil.kp p.d__law_ps_spoil.bd pass0 (pa_cons (pv 1) (pa_cons (pe_lst (pa_cons pe_int pa_nil)) pa_nil))))
      (pss_one (ps_ret (pe_cmpR op_eq (pe_callB (cr_repr hg hr.units) (by rfl) p.blt.repr (by decide +kernel) (pa_cons (pv 0) pa_nil)) (pe_callB (cr_repr hg hr.units) (by rfl) p.blt.repr (by decide +kernel) (pa_cons (pv 1) pa_nil)) (nomark _))))))), ?_⟩
    -- mirror = copied(told)
    have h0 : St H .none .none [(v, d)] [] [] H := St.enter (vs := [v]) (ds := [d]) (.cons rep .nil)
    refine ⟨_, rfl, h0.call (vs := [v]) (.cons (.fz (by walk_at "mem")) .nil) ⟨d, rfl, by omega, by omega, fun m H1 h1 => ?_⟩⟩
    obtain ⟨sm1, S', rep1, nd', new'⟩ := h1.leave
    have r1 : Rep H1 S v d := Rep.mono (fun t vs e => sm1 _ _ e) _ _ _ rep fun a m o e => sm1 a o e
    have dis : ∀ a ∈ S, a ∉ S' := fun a m m' => by
      obtain ⟨xs, e⟩ := Rep.dom _ _ _ rep a m
      rw [new' a m'] at e
      cases e
    have dom1 := Rep.dom _ _ _ r1
    have dom' := Rep.dom _ _ _ rep1
    -- spoil(told, [0])
    refine ⟨_, rfl, szle (by simp), fun l hl => ?_⟩
    have nl1 : l ∉ S := fun z => by
      obtain ⟨xs, e⟩ := dom1 l z
      rw [hl] at e
      cases e
    have nl2 : l ∉ S' := fun z => by
      obtain ⟨xs, e⟩ := dom' l z
      rw [hl] at e
      cases e
    have up : Same H1 (upd H1 l (.lst [.int 0])) := same_upd hl
    refine ⟨v, l, d, 0, S, rfl, Rep.mono (fun t vs e => up _ _ e) _ _ _ r1 (fun a m o e => up a o e), nd, nl1, upd_same, by omega, by omega, fun H2 fr2 r2 hl2 => ?_⟩
    have sm2 : ∀ a o, H1 a = some o → a ∉ S → H2 a = some o := fun a o e m => fr2 a o (up a o e) m (ne_of_none e hl)
    have tup2 : ∀ t vs, H1 t = some (.tup vs) → H2 t = some (.tup vs) := fun t vs e => sm2 t _ e fun m => by
      obtain ⟨xs, e2⟩ := dom1 t m
      rw [e] at e2
      cases e2
    have m2 : Rep H2 S' m d := Rep.mono tup2 _ _ _ rep1 fun a z o e => sm2 a o e fun z2 => dis a z2 z
    -- spoil(mirror, [0])
    refine ⟨_, rfl, szle (by simp), fun l' hl' => ?_⟩
    have dom2 := Rep.dom _ _ _ r2
    have dom2' := Rep.dom _ _ _ m2
    have nl1' : l' ∉ S := fun z => by
      obtain ⟨xs, e⟩ := dom2 l' z
      rw [hl'] at e
      cases e
    have nl2' : l' ∉ S' := fun z => by
      obtain ⟨xs, e⟩ := dom2' l' z
      rw [hl'] at e
      cases e
    have up2 : Same H2 (upd H2 l' (.lst [.int 0])) := same_upd hl'
    refine ⟨m, l', d, 0, S', rfl, Rep.mono (fun t vs e => up2 _ _ e) _ _ _ m2 (fun a z o e => up2 a o e), nd', nl2', upd_same, by omega, by omega, fun H3 fr3 r3 hl3 => ?_⟩
    have sm3 : ∀ a o, H2 a = some o → a ∉ S' → H3 a = some o := fun a o e z => fr3 a o (up2 a o e) z (ne_of_none e hl')
    have t3 : Rep H3 S v (spD d 0).1 := Rep.mono (fun t vs e => sm3 t _ e fun z => by
      obtain ⟨xs, e2⟩ := dom2' t z
      rw [e] at e2
      cases e2) _ _ _ r2 fun a z o e => sm3 a o e (dis a z)
    -- return repr(told) == repr(mirror)
    have s3 := sp_Sh sh (by omega)
    have w3 := s3.wd
    have d3 := s3.dp
    have D1 := Rep.dp K _ _ _ t3
    have D2 := Rep.dp K _ _ _ r3
    have sz : (spD d 0).1.shown.length ≤ sizeLine := Nat.le_trans (shown_wd _ (Dp.nodict _ _ D1)) (szle (by omega))
    refine ⟨_, rfl, _, _, rfl, D1, s3.sh, by omega, sz, _, rfl, _, _, rfl, D2, s3.sh, by omega, sz, rfl, ?_⟩
    rw [decide_eq_true rfl]
    refine q _ H3 rfl fun a o e z => ?_
    have e1 := sm1 a o e
    exact sm3 a o (sm2 a o e1 z) fun z2 => by
      rw [new' a z2] at e
      cases e
/-! ### _law_ps_bounds -/
def w__law_ps_bounds : Tw := fun ds Q => ds = [] ∧ ∀ d m : Int, (d = 3 ∧ m = 4 ∨ d = 6 ∧ m = 8 ∨ d = 60 ∧ m = 60) → Q (.tuple [.int d, .int m])
theorem ok__law_ps_bounds (p : Prog K mg) : FnG P w K mg base CX0 2 p.f__law_ps_bounds p.fd__law_ps_bounds ["_law_sack"] (spP 1 w__law_ps_bounds) := by
  refine okG p.d__law_ps_bounds.F sc__law_ps_bounds (fun vs H Q E h => ?_) (fun cdv A outer s H vs Q E hg hr h => ?_)
  · obtain ⟨p, b, vs', S, ds, G, rfl, _, _, r, _, ⟨rfl, _⟩, _⟩ := h
    exact congrArg Nat.succ r.length
  · obtain ⟨u, b, vs', S, ds, G, rfl, hp, hb, r, np, ⟨rfl, q⟩, k⟩ := h
    obtain ⟨rfl, hS⟩ := enterP0 r hp np
    refine ⟨_, (pss_one (ps_ret (pe_ix ix_list (pe_lst (pa_cons (pe_tup (pa_cons pe_int (pa_cons pe_int pa_nil))) (pa_cons (pe_tup (pa_cons pe_int (pa_cons pe_int pa_nil))) (pa_cons (pe_tup (pa_cons pe_int (pa_cons pe_int pa_nil))) pa_nil)))) (pe_callG ((ok__law_coin p).mono (by decide)) hg hr (by rfl) p.d__law_coin.gl p.d__law_coin.kp p.d__law_coin.bd pass0 (pa_cons (pv 0) (pa_cons pe_int pa_nil))) (fun _ _ => rfl)))), ?_⟩
    refine w_op (w_lit hS (d := .list [.tuple [.int 3, .int 4], .tuple [.int 6, .int 8], .tuple [.int 60, .int 60]]) (by walk_at "lit") (fun v H1 h1 => ?_))
    refine ⟨_, rfl, h1.callP (vs := [.int 3]) (by omega) (.cons (.int _) .nil) ⟨3, rfl, by decide, by decide, fun x x0 x1 v' H2 h2 => ?_⟩⟩
    obtain ⟨rfl, h2'⟩ := h2.int
    have h3 := h2'.freeze
    have fin : ∀ (i : Nat) (d : D), x = (i : Int) → ([.tuple [.int 3, .int 4], .tuple [.int 6, .int 8], .tuple [.int 60, .int 60]] : List D)[i]? = some d → nolist d = true → G d → rIxL K v (.int x) H2 Q := fun i d ei ed nl qd => by
      obtain ⟨a, vs, w', rfl, ea, _, ew, h4⟩ := h3.fget (i := i) (List.Mem.head _) ed
      refine ⟨a, vs, x, w', rfl, rfl, SqL.of ea, at_nat ei ew, ?_⟩
      have h5 := h4.unfreeze (List.Mem.head _) nl
      obtain ⟨fr, pu, nw⟩ := h5.leaveP (c := b + 1) (by omega)
      exact k _ _ _ qd fr pu nw
    have c : x = (0 : Nat) ∨ x = (1 : Nat) ∨ x = (2 : Nat) := by omega
    rcases c with c | c | c
    · exact fin 0 _ c rfl rfl (q _ _ (.inl ⟨rfl, rfl⟩))
    · exact fin 1 _ c rfl rfl (q _ _ (.inr (.inl ⟨rfl, rfl⟩)))
    · exact fin 2 _ c rfl rfl (q _ _ (.inr (.inr ⟨rfl, rfl⟩)))
/-! ### _law_ps_right -/
theorem kb_joined_onot (p : Prog K mg) : KBinds K p.fd_joined ["one", "other"] ["one", "other"] (gKw [0, 1]) (gKwV [0, 1]) := by
  obtain ⟨oc, od, kV, doc, pm, an, cdv, ct, osl, e, lk, hcd⟩ := p.d_joined.F.ex
  rw [e]
  refine kb_of (by decide) fun ws hl => ?_
  match ws, hl with
  | [], h => simp at h
  | [a], h => simp at h
  | a :: b :: r, _ => rfl
theorem kb_joined_oton (p : Prog K mg) : KBinds K p.fd_joined ["one", "other"] ["other", "one"] (gKw [1, 0]) (gKwV [1, 0]) := by
  obtain ⟨oc, od, kV, doc, pm, an, cdv, ct, osl, e, lk, hcd⟩ := p.d_joined.F.ex
  rw [e]
  refine kb_of (by decide) fun ws hl => ?_
  match ws, hl with
  | [], h => simp at h
  | [a], h => simp at h
  | a :: b :: r, _ => rfl
def w__law_ps_right : Tw := fun ds Q => ds = [] ∧ Q (.bool true)
theorem ok__law_ps_right (p : Prog K mg) : FnG P w K mg base CX0 10 p.f__law_ps_right p.fd__law_ps_right ["_law_sack"] (spP 100000 w__law_ps_right) := by
  refine okG p.d__law_ps_right.F sc__law_ps_right (fun vs H Q E h => ?_) (fun cdv A outer s H vs Q E hg hr h => ?_)
  · obtain ⟨p, b, vs', S, ds, Gq, rfl, _, _, r, _, ⟨rfl, _⟩, _⟩ := h
    exact congrArg Nat.succ r.length
  · obtain ⟨u, b, vs', S, ds, Gq, rfl, hp, hb, r, np, ⟨rfl, q⟩, k⟩ := h
    obtain ⟨rfl, hS⟩ := enterP0 r hp np
    -- return True
    have out : ∀ {c : Int} {Fz Ow : List (V × D)} {Tp : List (Addr × List V)} {H1 : Hp}, St H (some u) (some (u, c)) Fz Ow Tp H1 → c ≤ b + 100000 → Q (.bl true) H1 := fun {c Fz Ow Tp H1} h1 hc => by
      obtain ⟨fr, pu, nw⟩ := (h1.take (.bl true)).leaveP hc
      exact k _ _ _ q fr pu nw
    refine ⟨_, (pss_cons (ps_asg (pe_callG ((ok__law_ps_bounds p).mono (by decide)) hg hr (by rfl) p.d__law_ps_bounds.gl p.d__law_ps_bounds.kp p.d__law_ps_bounds.bd pass0 (pa_cons (pv 0) pa_nil)) (pg_tup rfl (pgs_cons (pg_name (i := 1) sc__law_ps_right.nd rfl (Or.inl rfl)) (pgs_cons (pg_name (i := 2) sc__law_ps_right.nd rfl (Or.inl rfl)) pgs_nil))))
      (pss_cons (ps_par (i := 3) (j := 4) rfl sc__law_ps_right.nd rfl rfl (by decide) rfl rfl (pa_cons (pe_callG ((ok__law_ps_drawn p).mono (by decide)) hg hr (by rfl) p.d__law_ps_drawn.gl p.d__law_ps_drawn.kp p.d__law_ps_drawn.bd pass0 (pa_cons (pv 0) (pa_cons (pv 1) (pa_cons (pv 2) pa_nil)))) (pa_cons (pe_callG ((ok__law_ps_drawn p).mono (by decide)) hg hr (by rfl) p.d__law_ps_drawn.gl p.d__law_ps_drawn.kp p.d__law_ps_drawn.bd pass0 (pa_cons (pv 0) (pa_cons (pv 1) (pa_cons (pv 2) pa_nil)))) pa_nil)) (by rfl))
      (C8.pss_cut (ps_if (pt_cmpR op_eq (pe_callG ((ok__law_coin p).mono (by decide)) hg hr (by rfl) p.d__law_coin.gl p.d__law_coin.kp p.d__law_coin.bd pass0 (pa_cons (pv 0) (pa_cons pe_int pa_nil))) pe_int (nomark _))
      (pss_one (ps_set (i := 4) sc__law_ps_right.nd rfl (Or.inl rfl) (pv 3))) pss_nil)
      (pss_cons (ps_par (i := 5) (j := 6) rfl sc__law_ps_right.nd rfl rfl (by decide) rfl rfl (pa_cons (pe_callG ((ok__law_ps_wider p).mono (by decide)) hg hr (by rfl) p.d__law_ps_wider.gl p.d__law_ps_wider.kp p.d__law_ps_wider.bd pass0 (pa_cons (pv 0) (pa_cons (pv 3) (pa_cons (pv 1) (pa_cons (pv 2) pa_nil))))) (pa_cons (pe_callG ((ok__law_copied p 8).mono (by decide)) hg hr (by rfl) p.d__law_copied.gl p.d__law_copied.kp p.d__law_copied.bd pass0 (pa_cons (pe_lst (pa_cons (pv 3) (pa_cons (pv 4) pa_nil))) pa_nil)) pa_nil)) (by rfl))
      (pss_cons (ps_set (i := 7) sc__law_ps_right.nd rfl (Or.inl rfl) (pe_callG ((ok__law_ps_both p).mono (by decide)) hg hr (by rfl) p.d__law_ps_both.gl p.d__law_ps_both.kp p.d__law_ps_both.bd pass0 (pa_cons (pv 3) (pa_cons (pv 4) pa_nil))))
      (pss_cons (ps_set (i := 8) sc__law_ps_right.nd rfl (Or.inl rfl) (pe_callG ((ok_joined p).mono (by decide)) hg hr (by rfl) p.d_joined.gl p.d_joined.kp p.d_joined.bd pass0 (pa_cons (pv 3) (pa_cons (pv 4) pa_nil))))
      (pss_cons (ps_if (PW.pt (pw_or (pt_not (pt_val (pe_callG ((ok__law_ps_same p).mono (by decide)) hg hr (by rfl) p.d__law_ps_same.gl p.d__law_ps_same.kp p.d__law_ps_same.bd pass0 (pa_cons (pv 8) (pa_cons (pv 7) pa_nil))))) (pw_or1 (pt_not (pt_val (pe_callG ((ok__law_ps_same p).mono (by decide)) hg hr (by rfl) p.d__law_ps_same.gl p.d__law_ps_same.kp p.d__law_ps_same.bd pass0 (pa_cons (pe_lst (pa_cons (pv 3) (pa_cons (pv 4) pa_nil))) (pa_cons (pv 6) pa_nil))))))))
      (pss_one (ps_ret pe_bl)) pss_nil)
      (pss_cons (ps_expr (pe_bm PySem.F.plainAttrs_list PySem.F.slot_list_append PySem.F.type_list_append mt_append (pe_ix ix_tup (pv 8) pe_int (fun _ _ => rfl)) (pa_cons pe_int pa_nil)))
      (pss_cons (ps_if (pt_not (pt_val (pe_callG ((ok__law_ps_same p).mono (by decide)) hg hr (by rfl) p.d__law_ps_same.gl p.d__law_ps_same.kp p.d__law_ps_same.bd pass0 (pa_cons (pe_lst (pa_cons (pv 3) (pa_cons (pv 4) pa_nil))) (pa_cons (pv 6) pa_nil)))))
      (pss_one (ps_ret pe_bl)) pss_nil)
      (pss_cons (ps_if (pt_not (pt_val (pe_callG ((ok__law_ps_same p).mono (by decide)) hg hr (by rfl) p.d__law_ps_same.gl p.d__law_ps_same.kp p.d__law_ps_same.bd pass0 (pa_cons (pe_callK0G ((ok_joined p).mono (by decide)) hg hr (by rfl) p.d_joined.gl p.d_joined.kp (kb_joined_onot p) pass0 (pk_cons (pv 5) (pk_cons (pv 4) pk_nil))) (pa_cons (pv 7) pa_nil)))))
      (pss_one (ps_ret pe_bl)) pss_nil)
      (pss_cons (ps_if (pt_not (pt_val (pe_callG ((ok__law_ps_same p).mono (by decide)) hg hr (by rfl) p.d__law_ps_same.gl p.d__law_ps_same.kp p.d__law_ps_same.bd pass0 (pa_cons (pe_callK0G ((ok_joined p).mono (by decide)) hg hr (by rfl) p.d_joined.gl p.d_joined.kp (kb_joined_oton p) pass0 (pk_cons (pv 5) (pk_cons (pv 4) pk_nil))) (pa_cons (pe_callG ((ok__law_ps_both p).mono (by decide)) hg hr (by rfl) p.d__law_ps_both.gl p.d__law_ps_both.kp p.d__law_ps_both.bd pass0 (pa_cons (pv 4) (pa_cons (pv 3) pa_nil))) pa_nil)))))
      (pss_one (ps_ret pe_bl)) pss_nil)
      (pss_cons (ps_set (i := 9) sc__law_ps_right.nd rfl (Or.inl rfl) (pe_callG ((ok__law_ps_wider p).mono (by decide)) hg hr (by rfl) p.d__law_ps_wider.gl p.d__law_ps_wider.kp p.d__law_ps_wider.bd pass0 (pa_cons (pv 0) (pa_cons (pe_tup (pa_cons pe_int (pa_cons (pe_lst pa_nil) pa_nil))) (pa_cons (pv 1) (pa_cons (pv 2) pa_nil))))))
      (pss_cons (ps_set (i := 10) sc__law_ps_right.nd rfl (Or.inl rfl) (pe_callG ((ok__law_ps_least p).mono (by decide)) hg hr (by rfl) p.d__law_ps_least.gl p.d__law_ps_least.kp p.d__law_ps_least.bd pass0 (pa_cons (pe_ix ix_tup (pv 3) pe_int (fun _ _ => rfl)) (pa_cons (pe_ix ix_tup (pv 3) pe_int (fun _ _ => rfl)) pa_nil))))
      (pss_cons (ps_set (i := 11) sc__law_ps_right.nd rfl (Or.inl rfl) (pe_lst (pa_cons (pe_callG ((ok_joined p).mono (by decide)) hg hr (by rfl) p.d_joined.gl p.d_joined.kp p.d_joined.bd pass0 (pa_cons (pv 3) (pa_cons (pv 9) pa_nil))) (pa_cons (pe_callG ((ok_joined p).mono (by decide)) hg hr (by rfl) p.d_joined.gl p.d_joined.kp p.d_joined.bd pass0 (pa_cons (pv 9) (pa_cons (pv 3) pa_nil))) (pa_cons (pe_callG ((ok_joined p).mono (by decide)) hg hr (by rfl) p.d_joined.gl p.d_joined.kp p.d_joined.bd pass0 (pa_cons (pv 3) (pa_cons (pv 3) pa_nil))) pa_nil)))))
      (pss_cons (ps_if (pt_not (pt_val (pe_callG ((ok__law_ps_same p).mono (by decide)) hg hr (by rfl) p.d__law_ps_same.gl p.d__law_ps_same.kp p.d__law_ps_same.bd pass0 (pa_cons (pv 11) (pa_cons (pe_lst (pa_cons (pv 10) (pa_cons (pv 10) (pa_cons (pe_callG ((ok__law_ps_both p).mono (by decide)) hg hr (by rfl) p.d__law_ps_both.gl p.d__law_ps_both.kp p.d__law_ps_both.bd pass0 (pa_cons (pv 3) (pa_cons (pv 3) pa_nil))) pa_nil)))) pa_nil)))))
      (pss_one (ps_ret pe_bl)) pss_nil)
      (C8.pss_cut (ps_if (PW.pt (pw_and (pt_cmpR op_lt (pe_ix ix_tup (pv 4) pe_int (fun _ _ => rfl)) (pv 1) (nomark _)) (pw_and1 (pt_cmpR op_lt (pe_callB call_len_seq (by rfl) p.blt.len PySem.boot_len (pa_cons (pe_ix ix_tup (pv 4) pe_int (fun _ _ => rfl)) pa_nil)) (pv 2) (nomark _)))))
      (pss_cons (ps_set (i := 4) sc__law_ps_right.nd rfl (Or.inl rfl) (pe_tup (pa_cons (pe_op op_add (pe_ix ix_tup (pv 4) pe_int (fun _ _ => rfl)) pe_int) (pa_cons (pe_ix ix_tup (pv 4) pe_int (fun _ _ => rfl)) pa_nil))))
      (pss_one (ps_expr (pe_bm PySem.F.plainAttrs_list PySem.F.slot_list_append PySem.F.type_list_append mt_append (pe_ix ix_tup (pv 4) pe_int (fun _ _ => rfl)) (pa_cons (pe_ix ix_tup (pv 4) pe_int (fun _ _ => rfl)) pa_nil))))) pss_nil)
      (pss_one (ps_ret (pe_and (pe_callG ((ok__law_ps_same p).mono (by decide)) hg hr (by rfl) p.d__law_ps_same.gl p.d__law_ps_same.kp p.d__law_ps_same.bd pass0 (pa_cons (pe_callG ((ok_joined p).mono (by decide)) hg hr (by rfl) p.d_joined.gl p.d_joined.kp p.d_joined.bd pass0 (pa_cons (pe_ix ix_list (pv 6) pe_int (fun _ _ => rfl)) (pa_cons (pv 4) pa_nil))) (pa_cons (pv 7) pa_nil))) (pe_one (pe_callG ((ok__law_ps_alone p).mono (by decide)) hg hr (by rfl) p.d__law_ps_alone.gl p.d__law_ps_alone.kp p.d__law_ps_alone.bd pass0 (pa_cons (pv 11) pa_nil)))))))))))))))))))))), ?_⟩
    -- deep, most = bounds(sack)
    refine ⟨_, rfl, hS.callP (vs := []) (by omega) .nil ⟨rfl, fun deep most hd v H1 h1 => ?_⟩⟩
    obtain ⟨t0, w1, w2, rfl, h1a⟩ := h1.tup2
    obtain ⟨rfl, h1b⟩ := h1a.int
    obtain ⟨rfl, h1c⟩ := h1b.int
    refine ⟨t0, _, rfl, SqT.of (h1c.tp (by walk_at "mem")), rfl, _, _, rfl, _, _, rfl, rfl, ?_⟩
    have hde : 0 ≤ deep ∧ deep ≤ 60 ∧ 0 ≤ most ∧ most ≤ 60 := by omega
    -- fx, gx = drawn(sack, deep, most), drawn(sack, deep, most)
    refine ⟨_, rfl, _, rfl, _, rfl, h1c.callP (vs := [.int deep, .int most]) (by omega) (.cons (.int _) (.cons (.int _) .nil)) ⟨deep, most, rfl, by omega, by omega, by omega, by omega, fun n gs ef hn hm v H2 h2 => ?_⟩⟩
    obtain ⟨tf, w1, w2, rfl, h2a⟩ := h2.tup2
    obtain ⟨rfl, h2b⟩ := h2a.int
    obtain ⟨lf, rfl, _⟩ := h2b.rints (v := w2) (.ow (List.Mem.head _))
    have n0 : 0 ≤ n := ef.nn
    have l60 : gs.length ≤ 60 := by omega
    refine ⟨_, rfl, _, rfl, _, rfl, h2b.callP (vs := [.int deep, .int most]) (by omega) (.cons (.int _) (.cons (.int _) .nil)) ⟨deep, most, rfl, by omega, by omega, by omega, by omega, fun d ls eg hd2 hm2 v H3 h3 => ?_⟩⟩
    obtain ⟨tg, w1, w2, rfl, h3a⟩ := h3.tup2
    obtain ⟨rfl, h3b⟩ := h3a.int
    obtain ⟨lg, rfl, _⟩ := h3b.rints (v := w2) (.ow (List.Mem.head _))
    have d0 : 0 ≤ d := eg.nn
    have l60g : ls.length ≤ 60 := by omega
    refine ⟨_, _, rfl, ?_⟩
    have le1 := leastE_ok ef
    have shE : ∀ n' gs', Eff (n', gs') → n' ≤ 1000 → gs'.length ≤ 1000 → Sh 3 1700000 (dE (n', gs')) := fun n' gs' h1 h2 h3 => sh_effE h1 (by show n' ≤ _; omega) (by show gs'.length ≤ _; omega)
    -- if coin(sack, 5) == 0: gx = fx
    refine ⟨fun σ H' => ∃ (tg : Addr) (d : Int) (ls : List Int) (lg : Addr) (c : Int) (Fz Ow Ow' : List (V × D)) (Tp : List (Addr × List V)), σ = [some (.ref u), some (.int deep), some (.int most), some (.ref tf), some (.ref tg), none, none, none, none, none, none, none] ∧ St H (some u) (some (u, c)) Fz Ow Tp H' ∧ c ≤ b + 30000 ∧ Eff (d, ls) ∧ d ≤ deep ∧ (ls.length : Int) ≤ most ∧ Rdb Fz Ow Tp (.ref tf) (dE (n, gs)) ∧ Rdb Fz Ow Tp (.ref lf) (dI gs) ∧ (tf, [V.int n, V.ref lf]) ∈ Tp ∧ Rdb Fz Ow Tp (.ref tg) (dE (d, ls)) ∧ (tg, [V.int d, V.ref lg]) ∈ Tp ∧ Pick (V.ref lg, dI ls) Ow Ow', ?_, fun σ' H' hI => ?_⟩
    · refine ⟨_, rfl, h3b.callP (vs := [.int 5]) (by omega) (.cons (.int _) .nil) ⟨5, rfl, by omega, by omega, fun x x0 x1 v H4 h4 => ?_⟩⟩
      obtain ⟨rfl, h4a⟩ := h4.int
      refine ⟨rfl, _, rfl, ?_⟩
      rw [dec_eq_int]
      refine iteB (fun _ => ?_) (fun _ => ?_)
      · exact ⟨_, rfl, tf, n, gs, lf, _, _, _, _, _, rfl, h4a, by omega, ef, hn, hm, (.tp2 (by walk_at "mem") (.int _) (.ow (by walk_at "mem"))), (.ow (by walk_at "mem")), (by walk_at "mem"), (.tp2 (by walk_at "mem") (.int _) (.ow (by walk_at "mem"))), (by walk_at "mem"), (by walk_at "pick")⟩
      · exact ⟨tg, d, ls, lg, _, _, _, _, _, rfl, h4a, by omega, eg, hd2, hm2, (.tp2 (by walk_at "mem") (.int _) (.ow (by walk_at "mem"))), (.ow (by walk_at "mem")), (by walk_at "mem"), (.tp2 (by walk_at "mem") (.int _) (.ow (by walk_at "mem"))), (by walk_at "mem"), (by walk_at "pick")⟩
    obtain ⟨tg, d, ls, lg, c, Fz, Ow, Ow', Tp, rfl, hZ, hc, eg, hd2, hm2, rf, rlf, mtf, rg0, mtg, pk⟩ := hI
    have d0 : 0 ≤ d := eg.nn
    have l60g : ls.length ≤ 60 := by omega
    have le2 := leastE_ok eg
    have shf := shE n gs ef (by omega) (by omega)
    have shg := shE d ls eg (by omega) (by omega)
    have shk : Sh 60 10000000 (.list [dE (n, gs), dE (d, ls)]) := by
      refine (sh_list (k := 3) (B := 1700000) (n := 2) (fun x hx => ?_) (by simp)).mono (by omega) (by omega)
      simp only [List.mem_cons, List.not_mem_nil, or_false] at hx
      rcases hx with rfl | rfl
      · exact shf
      · exact shg
    have shk2 : Sh 4 3400007 (.list [dE (n, gs), dE (d, ls)]) := by
      refine (sh_list (k := 3) (B := 1700000) (n := 2) (fun x hx => ?_) (by simp)).mono (by omega) (by omega)
      simp only [List.mem_cons, List.not_mem_nil, or_false] at hx
      rcases hx with rfl | rfl
      · exact shf
      · exact shg
    -- wide_one, kept = wider(sack, fx, deep, most), copied([fx, gx])
    refine ⟨_, rfl, _, rfl, _, rfl, _, rfl, hZ.callP (vs := [.ref tf, .int deep, .int most]) (by omega) (.cons rf (.cons (.int _) (.cons (.int _) .nil))) ⟨n, gs, deep, most, rfl, by omega, by omega, by omega, fun m m0 m9 mb v H5 h5 => ?_⟩⟩
    have ewd := leastE_wideI (n := n) (m := m) (gs := gs) ef.le m0
    have lr := rg_length (n + 1) (n + m + 1)
    have efw := wide_eff ef m0
    have lw : (gs ++ rg (n + 1) (n + m + 1)).length ≤ 1000 := by
      rw [List.length_append]
      omega
    generalize gs ++ rg (n + 1) (n + m + 1) = wg at h5 ewd efw lw
    obtain ⟨tw, w1, w2, rfl, h5a⟩ := h5.tup2
    obtain ⟨rfl, h5b⟩ := h5a.int
    obtain ⟨lw', rfl, _⟩ := h5b.rints (v := w2) (.ow (List.Mem.head _))
    refine ⟨_, rfl, _, rfl, szle (by simp), fun L1 hL1 => ?_⟩
    obtain ⟨h6, T1, p1⟩ := h5b.two hL1 (v1 := .ref tf) (d1 := dE (n, gs)) (v2 := .ref tg) (d2 := dE (d, ls)) (by walk_at "up") (by walk_at "up")
    refine h6.callX (vs := [.ref L1]) ⟨_, .cons p1 .nil⟩ ⟨_, rfl, by have := shk2.dp; omega, by have := shk2.wd; omega, fun ke H7 h7 => ?_⟩
    refine ⟨_, _, rfl, ?_⟩
    -- due = both(fx, gx)
    have jef := join_eff le1.eff le2.eff
    refine ⟨_, rfl, _, rfl, h7.call (vs := [.ref tf, .ref tg]) (.cons (by walk_at "up") (.cons (by walk_at "up") .nil)) ⟨n, gs, d, ls, rfl, ef, eg, by omega, by omega, by omega, by omega, fun vd H8 h8 => ?_⟩⟩
    -- told = joined(fx, gx)
    refine ⟨_, rfl, _, rfl, h8.call (vs := [.ref tf, .ref tg]) (.cons (by walk_at "up") (.cons (by walk_at "up") .nil)) ⟨n, gs, d, ls, rfl, ef, eg, by omega, by omega, by omega, by omega, fun v H9 h9 => ?_⟩⟩
    have a1 : (leastE n gs).1 ≤ n := le1.le
    have a2 : (leastE n gs).2.length ≤ gs.length := le1.len
    have a3 : (leastE d ls).1 ≤ d := le2.le
    have a4 : (leastE d ls).2.length ≤ ls.length := le2.len
    have jbd := join_bd le1.eff le2.eff
    have jls : Lst (joinE (leastE n gs) (leastE d ls)) := join_lst
    obtain ⟨⟨jn, jl⟩, ej⟩ : ∃ e, joinE (leastE n gs) (leastE d ls) = e := ⟨_, rfl⟩
    rw [ej] at h9 jef jbd jls
    have jb1 : jn ≤ 120 := by have : jn ≤ _ := jbd.1; omega
    have jb2 : jl.length ≤ 120 := by have : jl.length ≤ _ := jbd.2; omega
    have shd : Sh 60 10000000 (dE (jn, jl)) := (shE jn jl jef (by omega) (by omega)).mono (by omega) (by omega)
    obtain ⟨tt, w1, w2, rfl, h9a⟩ := h9.tup2
    obtain ⟨rfl, h9b⟩ := h9a.int
    obtain ⟨lt, rfl, _⟩ := h9b.rints (v := w2) (.ow (List.Mem.head _))
    -- if not same(told, due) or not same([fx, gx], kept)
    refine ⟨_, rfl, _, rfl, h9b.call (vs := [.ref tt, vd]) (.cons (.tp2 (by walk_at "mem") (.int _) (.ow (by walk_at "mem"))) (.cons (.ow (by walk_at "mem")) .nil)) ⟨_, _, rfl, rfl, shd, fun v HA hA => ?_⟩⟩
    obtain ⟨rfl, hAa⟩ := hA.bool
    refine ⟨_, rfl, iteF ?_⟩
    refine ⟨_, rfl, _, rfl, szle (by simp), fun M2 hM2 => ?_⟩
    obtain ⟨q2, T2, p2⟩ := hAa.two hM2 (v1 := .ref tf) (d1 := dE (n, gs)) (v2 := .ref tg) (d2 := dE (d, ls)) (by walk_at "up") (by walk_at "up")
    obtain ⟨U2, pu2, _⟩ := q2.rd (v := ke) (d := .list [dE (n, gs), dE (d, ls)]) (.ow (by walk_at "mem"))
    refine ⟨_, rfl, q2.callX (vs := [.ref M2, ke]) ⟨_, .cons p2 (.cons pu2 .nil)⟩ ⟨_, _, rfl, rfl, shk, fun v N2 n2 => ?_⟩⟩
    obtain ⟨rfl, hBa⟩ := n2.bool
    refine ⟨_, rfl, iteF ?_⟩
    -- told[1].append(1)
    have hC := hBa.front (x := (.ref lt, dI jl)) (by walk_at "pick")
    obtain ⟨hlt, kC⟩ := hC.putInts
    refine ⟨_, rfl, tt, _, _, _, rfl, rfl, SqT.of (hC.tp (by walk_at "mem")), atI_nat (j := 1) rfl, tyL hlt, lt, _, _, rfl, rfl, hlt, szlt (by rw [ints_len]; omega), ?_⟩
    have hD := kC (jl ++ [1])
    rw [List.map_append] at hD
    -- if not same([fx, gx], kept)
    refine ⟨_, rfl, _, rfl, szle (by simp), fun M3 hM3 => ?_⟩
    obtain ⟨q3, T3, p3⟩ := hD.two hM3 (v1 := .ref tf) (d1 := dE (n, gs)) (v2 := .ref tg) (d2 := dE (d, ls)) (by walk_at "up") (by walk_at "up")
    obtain ⟨U3, pu3, _⟩ := q3.rd (v := ke) (d := .list [dE (n, gs), dE (d, ls)]) (.ow (by walk_at "mem"))
    refine ⟨_, rfl, q3.callX (vs := [.ref M3, ke]) ⟨_, .cons p3 (.cons pu3 .nil)⟩ ⟨_, _, rfl, rfl, shk, fun v N3 n3 => ?_⟩⟩
    obtain ⟨rfl, hF⟩ := n3.bool
    refine ⟨_, rfl, iteF ?_⟩
    -- if not same(joined(one=wide_one, other=gx), due)
    refine ⟨_, rfl, _, rfl, hF.call (vs := [.ref tw, .ref tg]) (.cons (.tp2 (by walk_at "mem") (.int _) (.ow (by walk_at "mem"))) (.cons (by walk_at "up") .nil)) ⟨n + m, wg, d, ls, rfl, efw, eg, by omega, by omega, by omega, by omega, fun v HG hG => ?_⟩⟩
    rw [ewd, ej] at hG
    refine ⟨_, rfl, hG.call (vs := [v, vd]) (.cons (.ow (by walk_at "mem")) (.cons (.ow (by walk_at "mem")) .nil)) ⟨_, _, rfl, rfl, shd, fun v HH hH => ?_⟩⟩
    obtain ⟨rfl, hHa⟩ := hH.bool
    refine ⟨_, rfl, iteF ?_⟩
    -- if not same(joined(other=wide_one, one=gx), both(gx, fx))
    refine ⟨_, rfl, _, rfl, hHa.call (vs := [.ref tg, .ref tw]) (.cons (by walk_at "up") (.cons (.tp2 (by walk_at "mem") (.int _) (.ow (by walk_at "mem"))) .nil)) ⟨d, ls, n + m, wg, rfl, eg, efw, by omega, by omega, by omega, by omega, fun v HI hI => ?_⟩⟩
    rw [ewd] at hI
    refine ⟨_, rfl, _, rfl, hI.call (vs := [.ref tg, .ref tf]) (.cons (by walk_at "up") (.cons (by walk_at "up") .nil)) ⟨d, ls, n, gs, rfl, eg, ef, by omega, by omega, by omega, by omega, fun v2 HJ hJ => ?_⟩⟩
    have kef := join_eff le2.eff le1.eff
    have kbd := join_bd le2.eff le1.eff
    have she : Sh 60 10000000 (dE (joinE (leastE d ls) (leastE n gs))) := (sh_effE kef (by omega) (by omega)).mono (by omega) (by omega)
    refine hJ.call (vs := [v, v2]) (.cons (.ow (by walk_at "mem")) (.cons (.ow (by walk_at "mem")) .nil)) ⟨_, _, rfl, rfl, she, fun v HK hK => ?_⟩
    obtain ⟨rfl, hKa⟩ := hK.bool
    refine ⟨_, rfl, iteF ?_⟩
    -- idle = wider(sack, (0, []), deep, most)
    refine ⟨_, rfl, szle (by simp), fun l0 hl0 => ?_⟩
    have hG1 := hKa.mkInts (ns := []) hl0
    refine ⟨szle (by simp), fun t1 ht1 => ?_⟩
    have hG2 := hG1.mkTup (vs := [.int 0, .ref l0]) ht1
    refine ⟨_, rfl, _, rfl, hG2.callP (vs := [.ref t1, .int deep, .int most]) (by omega) (.cons (.tp2 (by walk_at "mem") (.int _) (.ow (by walk_at "mem"))) (.cons (.int _) (.cons (.int _) .nil))) ⟨0, [], deep, most, rfl, by omega, by omega, by simp, fun m2 m20 m29 m2b v HL hL => ?_⟩⟩
    have ewd0 := leastE_wideI (n := 0) (m := m2) (gs := []) eff_nil.le m20
    have efw0 := wide_eff eff_nil m20
    have lr0 := rg_length (0 + 1) (0 + m2 + 1)
    have lw0 : (([] : List Int) ++ rg (0 + 1) (0 + m2 + 1)).length ≤ 1000 := by
      rw [List.nil_append]
      omega
    generalize ([] : List Int) ++ rg (0 + 1) (0 + m2 + 1) = wg0 at hL ewd0 efw0 lw0
    have el0 : leastE 0 [] = (0, []) := rfl
    rw [el0] at ewd0
    obtain ⟨ti, w1, w2, rfl, hLa⟩ := hL.tup2
    obtain ⟨rfl, hLb⟩ := hLa.int
    obtain ⟨li, rfl, _⟩ := hLb.rints (v := w2) (.ow (List.Mem.head _))
    -- alone = least(fx[0], fx[1])
    have htf := hLb.tp (t := tf) (vs := [.int n, .ref lf]) (by walk_at "memu")
    refine ⟨_, rfl, tf, _, _, _, rfl, rfl, SqT.of htf, atI_nat (j := 0) rfl, _, rfl, tf, _, _, _, rfl, rfl, SqT.of htf, atI_nat (j := 1) rfl, hLb.call (vs := [.int n, .ref lf]) (.cons (.int _) (.cons (by walk_at "up") .nil)) ⟨n, gs, rfl, ef.le, by omega, fun va HM hM => ?_⟩⟩
    have hM2 := hM.freeze
    -- found = [joined(fx, idle), joined(idle, fx), joined(fx, fx)]
    refine ⟨_, rfl, _, rfl, hM2.call (vs := [.ref tf, .ref ti]) (.cons (by walk_at "up") (.cons (.tp2 (by walk_at "mem") (.int _) (.ow (by walk_at "mem"))) .nil)) ⟨n, gs, 0 + m2, wg0, rfl, ef, efw0, by omega, by omega, by omega, by omega, fun v1 HN hN => ?_⟩⟩
    rw [ewd0, join_nil le1.eff le1.lst] at hN
    refine ⟨_, rfl, _, rfl, hN.call (vs := [.ref ti, .ref tf]) (.cons (.tp2 (by walk_at "mem") (.int _) (.ow (by walk_at "mem"))) (.cons (by walk_at "up") .nil)) ⟨0 + m2, wg0, n, gs, rfl, efw0, ef, by omega, by omega, by omega, by omega, fun v2 HO hO => ?_⟩⟩
    rw [ewd0, nil_join le1.eff le1.lst] at hO
    refine ⟨_, rfl, _, rfl, hO.call (vs := [.ref tf, .ref tf]) (.cons (by walk_at "up") (.cons (by walk_at "up") .nil)) ⟨n, gs, n, gs, rfl, ef, ef, by omega, by omega, by omega, by omega, fun v3 HP hP => ?_⟩⟩
    refine ⟨szle (by simp), fun lo hlo => ?_⟩
    have hQ := hP.mkLst (vs := [v1, v2, v3]) hlo (.cons (.own (by walk_at "pick")) (.cons (.own (by walk_at "pick")) (.cons (.own .hd) .nil)))
    -- if not same(found, [alone, alone, both(fx, fx)])
    refine ⟨_, rfl, _, rfl, _, rfl, _, rfl, _, rfl, hQ.call (vs := [.ref tf, .ref tf]) (.cons (by walk_at "up") (.cons (by walk_at "up") .nil)) ⟨n, gs, n, gs, rfl, ef, ef, by omega, by omega, by omega, by omega, fun v4 HR hR => ?_⟩⟩
    have hR2 := hR.freeze
    refine ⟨szle (by simp), fun lu hlu => ?_⟩
    have hS2 := hR2.mkLstF (vs := [va, va, v4]) hlu (.cons (.fz (by walk_at "mem")) (.cons (.fz (by walk_at "mem")) (.cons (.fz (by walk_at "mem")) .nil)))
    have ffe := join_eff le1.eff le1.eff
    have ffb := join_bd le1.eff le1.eff
    have sh3 : Sh 4 5100009 (.list [dE (leastE n gs), dE (leastE n gs), dE (joinE (leastE n gs) (leastE n gs))]) := by
      refine (sh_list (k := 3) (B := 1700000) (n := 3) (fun x hx => ?_) (by simp)).mono (by omega) (by omega)
      simp only [List.mem_cons, List.not_mem_nil, or_false] at hx
      rcases hx with rfl | rfl | rfl
      · exact sh_effE le1.eff (by omega) (by omega)
      · exact sh_effE le1.eff (by omega) (by omega)
      · exact sh_effE ffe (by omega) (by omega)
    refine hS2.call (vs := [.ref lo, .ref lu]) (.cons (.ow (by walk_at "mem")) (.cons (.fz (by walk_at "mem")) .nil)) ⟨_, _, rfl, rfl, sh3.mono (by omega) (by omega), fun v HT hT => ?_⟩
    obtain ⟨rfl, hTa⟩ := hT.bool
    refine ⟨_, rfl, iteF ?_⟩
    have smE : ∀ e : Int × List Int, Eff e → e.1 ≤ 1000 → e.2.length ≤ 250 → Sh 3 110000 (dE e) := fun e he h1 h2 => by
      have hn := he.nn
      refine (sh_tuple (k := 2) (B := 51753) (n := 2) (fun x hx => ?_) (by simp)).mono (by omega) (by omega)
      simp only [List.mem_cons, List.not_mem_nil, or_false] at hx
      rcases hx with rfl | rfl
      · exact (sh_int (by omega)).mono (by omega) (by omega)
      · exact (sh_ints (n := 250) (fun x hx => by
          have b1 := he.ge x hx
          have b2 := he.le x hx
          omega) h2).mono (by omega) (by omega)
    have sh4 : Sh 7 1000000 (.list [dE (leastE n gs), dE (leastE n gs), dE (joinE (leastE n gs) (leastE n gs))]) := by
      refine (sh_list (k := 3) (B := 110000) (n := 3) (fun x hx => ?_) (by simp)).mono (by omega) (by omega)
      simp only [List.mem_cons, List.not_mem_nil, or_false] at hx
      rcases hx with rfl | rfl | rfl
      · exact smE _ le1.eff (by omega) (by omega)
      · exact smE _ le1.eff (by omega) (by omega)
      · exact smE _ ffe (by omega) (by omega)
    have hTb := (hTa.front (x := (ke, .list [dE (n, gs), dE (d, ls)])) (by walk_at "pick")).freeze
    have hTc := (hTb.front (x := (vd, dE (jn, jl))) (by walk_at "pick")).freeze
    -- if gx[0] < deep and len(gx[1]) < most
    refine ⟨fun σ H' => ∃ (tg2 : Addr) (d2 : Int) (ls2 : List Int) (c2 : Int) (Fz Ow Ow' : List (V × D)) (Tp : List (Addr × List V)), σ = [some (.ref u), some (.int deep), some (.int most), some (.ref tf), some (.ref tg2), some (.ref tw), some ke, some vd, some (.ref tt), some (.ref ti), some va, some (.ref lo)] ∧ St H (some u) (some (u, c2)) Fz Ow Tp H' ∧ c2 ≤ b + 100000 ∧ Eff (d2, ls2) ∧ leastE d2 ls2 = leastE d ls ∧ d2 ≤ 100 ∧ ls2.length ≤ 100 ∧ Rdb Fz Ow Tp (.ref tg2) (dE (d2, ls2)) ∧ (vd, dE (jn, jl)) ∈ Fz ∧ (ke, .list [dE (n, gs), dE (d, ls)]) ∈ Fz ∧ Pick (V.ref lo, .list [dE (leastE n gs), dE (leastE n gs), dE (joinE (leastE n gs) (leastE n gs))]) Ow Ow', ?_, fun σ' H' hI => ?_⟩
    · have htg := hTc.tp (t := tg) (vs := [.int d, .ref lg]) (by walk_at "memu")
      have hV := hTc.front (x := (.ref lg, dI ls)) (by walk_at "picku")
      obtain ⟨hlg, _⟩ := hV.putInts
      refine ⟨_, rfl, tg, _, _, _, rfl, rfl, SqT.of htg, atI_nat (j := 0) rfl, _, rfl, _, _, rfl, rfl, _, rfl, ?_⟩
      refine iteB (fun c1 => ?_) (fun c1 => iteF ⟨tg, d, ls, _, _, _, _, _, rfl, hTc, by omega, eg, rfl, by omega, by omega, (by walk_at "up"), (by walk_at "mem"), (by walk_at "mem"), (by walk_at "pick")⟩)
      refine ⟨_, rfl, tg, _, _, _, rfl, rfl, SqT.of htg, atI_nat (j := 1) rfl, lg, _, rfl, .inl (SqL.of hlg), _, rfl, _, _, rfl, rfl, _, rfl, ?_⟩
      refine iteB (fun c2 => ?_) (fun c2 => ⟨tg, d, ls, _, _, _, _, _, rfl, hTc, by omega, eg, rfl, by omega, by omega, (by walk_at "up"), (by walk_at "mem"), (by walk_at "mem"), (by walk_at "pick")⟩)
      -- gx = (gx[0] + 1, gx[1])
      refine ⟨_, rfl, tg, _, _, _, rfl, rfl, SqT.of htg, atI_nat (j := 0) rfl, _, _, rfl, rfl, _, rfl, tg, _, _, _, rfl, rfl, SqT.of htg, atI_nat (j := 1) rfl, szle (by simp), fun tx htx => ?_⟩
      have hW := hV.mkTup (vs := [.int (d + 1), .ref lg]) htx
      obtain ⟨hlg2, kW⟩ := hW.putInts
      have hx := hW.tp (t := tx) (by walk_at "mem")
      -- gx[1].append(gx[0])
      refine ⟨_, rfl, tx, _, _, _, rfl, rfl, SqT.of hx, atI_nat (j := 1) rfl, tyL hlg2, _, rfl, tx, _, _, _, rfl, rfl, SqT.of hx, atI_nat (j := 0) rfl, lg, _, _, rfl, rfl, hlg2, szlt (by rw [ints_len]; omega), ?_⟩
      have hX := kW (ls ++ [d + 1])
      rw [List.map_append] at hX
      have eg2 : Eff (d + 1, ls ++ [d + 1]) := ⟨by show 0 ≤ d + 1; omega, fun y hy => by
        rcases List.mem_append.mp hy with hy | hy
        · exact eg.ge y hy
        · simp at hy
          omega, fun y hy => by
        rcases List.mem_append.mp hy with hy | hy
        · have : y ≤ d := eg.le y hy
          show y ≤ d + 1
          omega
        · simp at hy
          show y ≤ d + 1
          omega⟩
      exact ⟨tx, d + 1, ls ++ [d + 1], _, _, _, _, _, rfl, hX, by omega, eg2, leastE_step eg.le, by omega, by simp; omega, (.tp2 (by walk_at "mem") (.int _) (.ow (by walk_at "mem"))), (by walk_at "mem"), (by walk_at "mem"), (by walk_at "pick")⟩
    · obtain ⟨tg2, d2, ls2, c2, Fz2, Ow2, Ow3, Tp2, rfl, hY, hc2, eg2, els, d2b, l2b, rg2, md, mk, pk2⟩ := hI
      obtain ⟨ak, vsk, wk, rfl, eak, _, ewk, hY1⟩ := hY.fget (i := 0) (d := dE (n, gs)) mk rfl
      have dd0 : 0 ≤ d2 := eg2.nn
      -- return same(joined(kept[0], gx), due) and alone(found)
      refine ⟨_, rfl, ak, vsk, 0, wk, rfl, rfl, SqL.of eak, atI_nat (j := 0) ewk, _, rfl, hY1.call (vs := [wk, .ref tg2]) (.cons (.fz (by walk_at "mem")) (.cons (by walk_at "up") .nil)) ⟨n, gs, d2, ls2, rfl, ef, eg2, by omega, by omega, by omega, by omega, fun v Z1 z1 => ?_⟩⟩
      rw [els, ej] at z1
      refine ⟨_, rfl, z1.call (vs := [v, vd]) (.cons (.ow (by walk_at "mem")) (.cons (.fz (List.mem_cons_of_mem _ md)) .nil)) ⟨_, _, rfl, rfl, shd, fun v Z2 z2 => ?_⟩⟩
      obtain ⟨rfl, z3⟩ := z2.bool
      refine ⟨_, rfl, iteT ?_⟩
      have z4 := (z3.drop).front pk2
      refine ⟨_, rfl, z4.callE sh4 (by simp [nl, nls, nls_ints]) (fun w8 K8 e8 z5 => ?_)⟩
      subst e8
      exact out z5 (by omega)
/-! ### law -/
def spLaw (K : PySem.W.Frag) : Sp := fun vs H Q _ => ∃ (a : Addr) (ns : List Int), vs = [.ref a] ∧ SqL K H a (ns.map V.int) ∧ ns.length ≤ 63 ∧ (∀ z ∈ ns, Builtin.Int.intBits z ≤ 1048576) ∧ ∀ H', Q (.bl true) H'
theorem ok_law (p : Prog K mg) : FnG P w K mg base CX0 11 p.f_law p.fd_law ["_law_script"] (spLaw K) := by
  refine okG p.d_law.F sc_law (fun vs H Q E h => ?_) (fun cdv A outer s H vs Q E hg hr h => ?_)
  · obtain ⟨a, ns, rfl, _⟩ := h
    rfl
  · obtain ⟨a, ns, rfl, hs, hl, hb, q⟩ := h
    refine ⟨_, (pss_cons (ps_for PassesOwn.never rfl (pi_range1 (by rfl) p.blt.range (pa_cons (pe_callB (call_max2 rfl) (by rfl) p.blt.max (by decide +kernel) (pa_cons pe_int (pa_cons (pe_callB (call_min2 rfl) (by rfl) p.blt.min (by decide +kernel) (pa_cons pe_int (pa_cons (pe_callB call_len_seq (by rfl) p.blt.len PySem.boot_len (pa_cons (pv 0) pa_nil)) pa_nil))) pa_nil))) pa_nil)) (pg_name (i := 1) sc_law.nd rfl (Or.inl rfl))
      (pss_cons (ps_set (i := 2) sc_law.nd rfl (Or.inl rfl) (pe_callG ((ok__law_ps_sack p).mono (by decide)) hg hr (by rfl) p.d__law_ps_sack.gl p.d__law_ps_sack.kp p.d__law_ps_sack.bd pass0 (pa_cons (pv 0) (pa_cons (pv 1) pa_nil))))
      (pss_one (ps_for PassesOwn.never rfl (pi_range1 (by rfl) p.blt.range (pa_cons pe_int pa_nil)) (pg_name (i := 3) sc_law.nd rfl (Or.inl rfl))
      (pss_one (ps_if (pt_not (pt_val (pe_callG ((ok__law_ps_right p).mono (by decide)) hg hr (by rfl) p.d__law_ps_right.gl p.d__law_ps_right.kp p.d__law_ps_right.bd pass0 (pa_cons (pv 2) pa_nil))))
      (pss_one (ps_ret pe_bl)) pss_nil))))))
      (pss_one (ps_ret pe_bl))), ?_⟩
    refine ⟨_, rfl, a, _, rfl, .inl hs, _, _, rfl, _, _, rfl, ?_⟩
    rw [ints_len]
    refine ⟨_, rfl, by split <;> split <;> omega, by split <;> split <;> omega, ?_⟩
    refine for_range (fun i σ H1 => ∃ y1 y2 y3, σ = [some (.ref a), y1, y2, y3] ∧ Same H H1) ⟨none, none, none, rfl, Same.refl _⟩ (fun i σ H1 hi hI => ?_) (fun σ H1 hI => q _)
    obtain ⟨y1, y2, y3, rfl, sm⟩ := hI
    have hi' : i ≤ 64 := by
      revert hi
      split <;> split <;> omega
    -- sack = ..
    refine ⟨_, rfl, _, rfl, a, ns, _, rfl, sm.seq hs, hl, hb, by omega, by omega, fun H2 u sm2 un pu => ?_⟩
    refine ⟨2, rfl, by decide, by decide, ?_⟩
    refine for_range (fun j σ H3 => ∃ y3, σ = [some (.ref a), some (.int (0 + (i : Int))), some (.ref u), y3] ∧ (∀ b o, H1 b = some o → H3 b = some o) ∧ PuAt H3 u (j * 100000)) ⟨y3, rfl, sm2, by simpa using pu⟩ (fun j σ H3 hj hJ => ?_) (fun σ H3 hJ => ?_)
    · obtain ⟨y3, rfl, sm3, pu3⟩ := hJ
      have hj2 : j < 2 := hj
      refine ⟨_, rfl, u, _, [], [], [], _, rfl, pu3, by omega, .nil, (fun z => nomatch z), ⟨rfl, rfl⟩, fun d v H4 ed fr pu4 nw => ?_⟩
      subst ed
      obtain ⟨S, rp, _⟩ := nw
      cases rp
      refine ⟨_, rfl, iteF ?_⟩
      refine ⟨_, rfl, fun b o e => fr b o (sm3 b o e) fun z => ?_, ?_⟩
      · rw [z, un] at e
        cases e
      · have e : ((j + 1 : Nat) : Int) * 100000 = (j : Int) * 100000 + 100000 := by omega
        rw [e]
        exact pu4
    · obtain ⟨y3, rfl, sm3, _⟩ := hJ
      exact ⟨_, _, _, rfl, sm.trans sm3⟩
theorem all_mk {l : PySem.W.OpenLaw} {w : World} {K : PySem.W.Frag} {h : Heap} {mg : Str → Option Value} {fa : Addr} (X : K.In h) (G : h.Ns mainGlobals mg) (hfa : mg "law" = some (.ref fa))
    {f0 f1 f2 f3 f4 f5 f6 f7 f8 f9 f10 f11 f12 f13 f14 f15 f16 f17 f18 f19 : Addr} {od0 an0 : Option Addr} {sl0 : Array (Option Value)} {oc0 kV0 dc0 pm0 cd0 ct0 : Value} {od1 an1 : Option Addr} {sl1 : Array (Option Value)} {oc1 kV1 dc1 pm1 cd1 ct1 : Value} {od2 an2 : Option Addr} {sl2 : Array (Option Value)} {oc2 kV2 dc2 pm2 cd2 ct2 : Value} {od3 an3 : Option Addr} {sl3 : Array (Option Value)} {oc3 kV3 dc3 pm3 cd3 ct3 : Value} {od4 an4 : Option Addr} {sl4 : Array (Option Value)} {oc4 kV4 dc4 pm4 cd4 ct4 : Value} {od5 an5 : Option Addr} {sl5 : Array (Option Value)} {oc5 kV5 dc5 pm5 cd5 ct5 : Value} {od6 an6 : Option Addr} {sl6 : Array (Option Value)} {oc6 kV6 dc6 pm6 cd6 ct6 : Value} {od7 an7 : Option Addr} {sl7 : Array (Option Value)} {oc7 kV7 dc7 pm7 cd7 ct7 : Value} {od8 an8 : Option Addr} {sl8 : Array (Option Value)} {oc8 kV8 dc8 pm8 cd8 ct8 : Value} {od9 an9 : Option Addr} {sl9 : Array (Option Value)} {oc9 kV9 dc9 pm9 cd9 ct9 : Value} {od10 an10 : Option Addr} {sl10 : Array (Option Value)} {oc10 kV10 dc10 pm10 cd10 ct10 : Value} {od11 an11 : Option Addr} {sl11 : Array (Option Value)} {oc11 kV11 dc11 pm11 cd11 ct11 : Value} {od12 an12 : Option Addr} {sl12 : Array (Option Value)} {oc12 kV12 dc12 pm12 cd12 ct12 : Value} {od13 an13 : Option Addr} {sl13 : Array (Option Value)} {oc13 kV13 dc13 pm13 cd13 ct13 : Value} {od14 an14 : Option Addr} {sl14 : Array (Option Value)} {oc14 kV14 dc14 pm14 cd14 ct14 : Value} {od15 an15 : Option Addr} {sl15 : Array (Option Value)} {oc15 kV15 dc15 pm15 cd15 ct15 : Value} {od16 an16 : Option Addr} {sl16 : Array (Option Value)} {oc16 kV16 dc16 pm16 cd16 ct16 : Value} {od17 an17 : Option Addr} {sl17 : Array (Option Value)} {oc17 kV17 dc17 pm17 cd17 ct17 : Value} {od18 an18 : Option Addr} {sl18 : Array (Option Value)} {oc18 kV18 dc18 pm18 cd18 ct18 : Value} {od19 an19 : Option Addr} {sl19 : Array (Option Value)} {oc19 kV19 dc19 pm19 cd19 ct19 : Value}
    (a0 : PySem.W.nsIn K mainGlobals "is_effect" = some (some (.ref f0))) (l0 : K.lookup f0 = some ⟨oc0, od0, .func (PySem.W.fnOf "is_effect" "is_effect" (defArgs s_is_effect) (defBody s_is_effect) (defScope s_is_effect) .none kV0 dc0 pm0 an0 cd0 ct0), sl0⟩) (c0 : PySem.W.codeIn K cd0 "is_effect" = true) (k0 : PySem.W.keepIn K (.ref f0) = true)
    (a1 : PySem.W.nsIn K mainGlobals "least_of" = some (some (.ref f1))) (l1 : K.lookup f1 = some ⟨oc1, od1, .func (PySem.W.fnOf "least_of" "least_of" (defArgs s_least_of) (defBody s_least_of) (defScope s_least_of) .none kV1 dc1 pm1 an1 cd1 ct1), sl1⟩) (c1 : PySem.W.codeIn K cd1 "least_of" = true) (k1 : PySem.W.keepIn K (.ref f1) = true)
    (a2 : PySem.W.nsIn K mainGlobals "checked" = some (some (.ref f2))) (l2 : K.lookup f2 = some ⟨oc2, od2, .func (PySem.W.fnOf "checked" "checked" (defArgs s_checked) (defBody s_checked) (defScope s_checked) .none kV2 dc2 pm2 an2 cd2 ct2), sl2⟩) (c2 : PySem.W.codeIn K cd2 "checked" = true) (k2 : PySem.W.keepIn K (.ref f2) = true)
    (a3 : PySem.W.nsIn K mainGlobals "join_of" = some (some (.ref f3))) (l3 : K.lookup f3 = some ⟨oc3, od3, .func (PySem.W.fnOf "join_of" "join_of" (defArgs s_join_of) (defBody s_join_of) (defScope s_join_of) .none kV3 dc3 pm3 an3 cd3 ct3), sl3⟩) (c3 : PySem.W.codeIn K cd3 "join_of" = true) (k3 : PySem.W.keepIn K (.ref f3) = true)
    (a4 : PySem.W.nsIn K mainGlobals "joined" = some (some (.ref f4))) (l4 : K.lookup f4 = some ⟨oc4, od4, .func (PySem.W.fnOf "joined" "joined" (defArgs s_joined) (defBody s_joined) (defScope s_joined) .none kV4 dc4 pm4 an4 cd4 ct4), sl4⟩) (c4 : PySem.W.codeIn K cd4 "joined" = true) (k4 : PySem.W.keepIn K (.ref f4) = true)
    (a5 : PySem.W.nsIn K mainGlobals "_law_coin" = some (some (.ref f5))) (l5 : K.lookup f5 = some ⟨oc5, od5, .func (PySem.W.fnOf "_law_coin" "_law_coin" (defArgs s__law_coin) (defBody s__law_coin) (defScope s__law_coin) .none kV5 dc5 pm5 an5 cd5 ct5), sl5⟩) (c5 : PySem.W.codeIn K cd5 "_law_coin" = true) (k5 : PySem.W.keepIn K (.ref f5) = true)
    (a6 : PySem.W.nsIn K mainGlobals "_law_copied" = some (some (.ref f6))) (l6 : K.lookup f6 = some ⟨oc6, od6, .func (PySem.W.fnOf "_law_copied" "_law_copied" (defArgs s__law_copied) (defBody s__law_copied) (defScope s__law_copied) .none kV6 dc6 pm6 an6 cd6 ct6), sl6⟩) (c6 : PySem.W.codeIn K cd6 "_law_copied" = true) (k6 : PySem.W.keepIn K (.ref f6) = true)
    (a7 : PySem.W.nsIn K mainGlobals "_law_ps_sack" = some (some (.ref f7))) (l7 : K.lookup f7 = some ⟨oc7, od7, .func (PySem.W.fnOf "_law_ps_sack" "_law_ps_sack" (defArgs s__law_ps_sack) (defBody s__law_ps_sack) (defScope s__law_ps_sack) .none kV7 dc7 pm7 an7 cd7 ct7), sl7⟩) (c7 : PySem.W.codeIn K cd7 "_law_ps_sack" = true) (k7 : PySem.W.keepIn K (.ref f7) = true)
    (a8 : PySem.W.nsIn K mainGlobals "_law_ps_least" = some (some (.ref f8))) (l8 : K.lookup f8 = some ⟨oc8, od8, .func (PySem.W.fnOf "_law_ps_least" "_law_ps_least" (defArgs s__law_ps_least) (defBody s__law_ps_least) (defScope s__law_ps_least) .none kV8 dc8 pm8 an8 cd8 ct8), sl8⟩) (c8 : PySem.W.codeIn K cd8 "_law_ps_least" = true) (k8 : PySem.W.keepIn K (.ref f8) = true)
    (a9 : PySem.W.nsIn K mainGlobals "_law_ps_order" = some (some (.ref f9))) (l9 : K.lookup f9 = some ⟨oc9, od9, .func (PySem.W.fnOf "_law_ps_order" "_law_ps_order" (defArgs s__law_ps_order) (defBody s__law_ps_order) (defScope s__law_ps_order) .none kV9 dc9 pm9 an9 cd9 ct9), sl9⟩) (c9 : PySem.W.codeIn K cd9 "_law_ps_order" = true) (k9 : PySem.W.keepIn K (.ref f9) = true)
    (a10 : PySem.W.nsIn K mainGlobals "_law_ps_drawn" = some (some (.ref f10))) (l10 : K.lookup f10 = some ⟨oc10, od10, .func (PySem.W.fnOf "_law_ps_drawn" "_law_ps_drawn" (defArgs s__law_ps_drawn) (defBody s__law_ps_drawn) (defScope s__law_ps_drawn) .none kV10 dc10 pm10 an10 cd10 ct10), sl10⟩) (c10 : PySem.W.codeIn K cd10 "_law_ps_drawn" = true) (k10 : PySem.W.keepIn K (.ref f10) = true)
    (a11 : PySem.W.nsIn K mainGlobals "_law_ps_wider" = some (some (.ref f11))) (l11 : K.lookup f11 = some ⟨oc11, od11, .func (PySem.W.fnOf "_law_ps_wider" "_law_ps_wider" (defArgs s__law_ps_wider) (defBody s__law_ps_wider) (defScope s__law_ps_wider) .none kV11 dc11 pm11 an11 cd11 ct11), sl11⟩) (c11 : PySem.W.codeIn K cd11 "_law_ps_wider" = true) (k11 : PySem.W.keepIn K (.ref f11) = true)
    (a12 : PySem.W.nsIn K mainGlobals "_law_ps_do" = some (some (.ref f12))) (l12 : K.lookup f12 = some ⟨oc12, od12, .func (PySem.W.fnOf "_law_ps_do" "_law_ps_do" (defArgs s__law_ps_do) (defBody s__law_ps_do) (defScope s__law_ps_do) .none kV12 dc12 pm12 an12 cd12 ct12), sl12⟩) (c12 : PySem.W.codeIn K cd12 "_law_ps_do" = true) (k12 : PySem.W.keepIn K (.ref f12) = true)
    (a13 : PySem.W.nsIn K mainGlobals "_law_ps_both" = some (some (.ref f13))) (l13 : K.lookup f13 = some ⟨oc13, od13, .func (PySem.W.fnOf "_law_ps_both" "_law_ps_both" (defArgs s__law_ps_both) (defBody s__law_ps_both) (defScope s__law_ps_both) .none kV13 dc13 pm13 an13 cd13 ct13), sl13⟩) (c13 : PySem.W.codeIn K cd13 "_law_ps_both" = true) (k13 : PySem.W.keepIn K (.ref f13) = true)
    (a14 : PySem.W.nsIn K mainGlobals "_law_ps_same" = some (some (.ref f14))) (l14 : K.lookup f14 = some ⟨oc14, od14, .func (PySem.W.fnOf "_law_ps_same" "_law_ps_same" (defArgs s__law_ps_same) (defBody s__law_ps_same) (defScope s__law_ps_same) .none kV14 dc14 pm14 an14 cd14 ct14), sl14⟩) (c14 : PySem.W.codeIn K cd14 "_law_ps_same" = true) (k14 : PySem.W.keepIn K (.ref f14) = true)
    (a15 : PySem.W.nsIn K mainGlobals "_law_ps_spoil" = some (some (.ref f15))) (l15 : K.lookup f15 = some ⟨oc15, od15, .func (PySem.W.fnOf "_law_ps_spoil" "_law_ps_spoil" (defArgs s__law_ps_spoil) (defBody s__law_ps_spoil) (defScope s__law_ps_spoil) .none kV15 dc15 pm15 an15 cd15 ct15), sl15⟩) (c15 : PySem.W.codeIn K cd15 "_law_ps_spoil" = true) (k15 : PySem.W.keepIn K (.ref f15) = true)
    (a16 : PySem.W.nsIn K mainGlobals "_law_ps_alone" = some (some (.ref f16))) (l16 : K.lookup f16 = some ⟨oc16, od16, .func (PySem.W.fnOf "_law_ps_alone" "_law_ps_alone" (defArgs s__law_ps_alone) (defBody s__law_ps_alone) (defScope s__law_ps_alone) .none kV16 dc16 pm16 an16 cd16 ct16), sl16⟩) (c16 : PySem.W.codeIn K cd16 "_law_ps_alone" = true) (k16 : PySem.W.keepIn K (.ref f16) = true)
    (a17 : PySem.W.nsIn K mainGlobals "_law_ps_bounds" = some (some (.ref f17))) (l17 : K.lookup f17 = some ⟨oc17, od17, .func (PySem.W.fnOf "_law_ps_bounds" "_law_ps_bounds" (defArgs s__law_ps_bounds) (defBody s__law_ps_bounds) (defScope s__law_ps_bounds) .none kV17 dc17 pm17 an17 cd17 ct17), sl17⟩) (c17 : PySem.W.codeIn K cd17 "_law_ps_bounds" = true) (k17 : PySem.W.keepIn K (.ref f17) = true)
    (a18 : PySem.W.nsIn K mainGlobals "_law_ps_right" = some (some (.ref f18))) (l18 : K.lookup f18 = some ⟨oc18, od18, .func (PySem.W.fnOf "_law_ps_right" "_law_ps_right" (defArgs s__law_ps_right) (defBody s__law_ps_right) (defScope s__law_ps_right) .none kV18 dc18 pm18 an18 cd18 ct18), sl18⟩) (c18 : PySem.W.codeIn K cd18 "_law_ps_right" = true) (k18 : PySem.W.keepIn K (.ref f18) = true)
    (a19 : PySem.W.nsIn K mainGlobals "law" = some (some (.ref f19))) (l19 : K.lookup f19 = some ⟨oc19, od19, .func (PySem.W.fnOf "law" "law" (defArgs s_law) (defBody s_law) (defScope s_law) .none kV19 dc19 pm19 an19 cd19 ct19), sl19⟩) (c19 : PySem.W.codeIn K cd19 "law" = true) (k19 : PySem.W.keepIn K (.ref f19) = true)
    (z0 : PySem.W.nsIn K mainGlobals "len" = some none)
    (z1 : PySem.W.nsIn K mainGlobals "range" = some none)
    (z2 : PySem.W.nsIn K mainGlobals "max" = some none)
    (z3 : PySem.W.nsIn K mainGlobals "min" = some none)
    (z4 : PySem.W.nsIn K mainGlobals "abs" = some none)
    (z5 : PySem.W.nsIn K mainGlobals "int" = some none)
    (z6 : PySem.W.nsIn K mainGlobals "list" = some none)
    (z7 : PySem.W.nsIn K mainGlobals "tuple" = some none)
    (z8 : PySem.W.nsIn K mainGlobals "repr" = some none)
    (z9 : PySem.W.nsIn K mainGlobals "all" = some none)
    (z10 : PySem.W.nsIn K mainGlobals "any" = some none)
    (z11 : PySem.W.nsIn K mainGlobals "sum" = some none)
    (z12 : PySem.W.nsIn K mainGlobals "sorted" = some none)
    (z13 : PySem.W.nsIn K mainGlobals "isinstance" = some none)
    (z14 : PySem.W.nsIn K mainGlobals "set" = some none)
    (z15 : PySem.W.nsIn K mainGlobals "enumerate" = some none)
    (z16 : PySem.W.nsIn K mainGlobals "zip" = some none)
    (z17 : PySem.W.nsIn K mainGlobals "str" = some none)
    (z18 : PySem.W.nsIn K mainGlobals "divmod" = some none)
    (z19 : PySem.W.nsIn K mainGlobals "dict" = some none)
    (z20 : PySem.W.nsIn K mainGlobals "bool" = some none)
    (z21 : PySem.W.nsIn K mainGlobals "reversed" = some none)
    : ∃ fd : FuncData, (∀ (s : Shared) (v : Value), BindsTo s fd ⟨[v], []⟩ [("_law_script", v)]) ∧ ∀ base : Heap, K.In base → base.Ns mainGlobals mg → FnG l.prog w K mg base CX0 11 fa fd ["_law_script"] (spLaw K) := by
  have e := hfa.symm.trans (PySem.W.mg_of X G a19)
  cases e
  exact ⟨PySem.W.fnOf "law" "law" (defArgs s_law) (defBody s_law) (defScope s_law) .none kV19 dc19 pm19 an19 cd19 ct19, fun s v => .of_eq rfl, fun base _ _ => ok_law (⟨⟨PySem.W.mg_none_of X G z0, PySem.W.mg_none_of X G z1, PySem.W.mg_none_of X G z2, PySem.W.mg_none_of X G z3, PySem.W.mg_none_of X G z4, PySem.W.mg_none_of X G z5, PySem.W.mg_none_of X G z6, PySem.W.mg_none_of X G z7, PySem.W.mg_none_of X G z8, PySem.W.mg_none_of X G z9, PySem.W.mg_none_of X G z10, PySem.W.mg_none_of X G z11, PySem.W.mg_none_of X G z12, PySem.W.mg_none_of X G z13, PySem.W.mg_none_of X G z14, PySem.W.mg_none_of X G z15, PySem.W.mg_none_of X G z16, PySem.W.mg_none_of X G z17, PySem.W.mg_none_of X G z18, PySem.W.mg_none_of X G z19, PySem.W.mg_none_of X G z20, PySem.W.mg_none_of X G z21⟩,
    f0, _, ⟨fun_mk (st := s_is_effect) l0 c0 k0, PySem.W.mg_of X G a0, (fun_mk (st := s_is_effect) l0 c0 k0).binds fun _ _ _ _ _ _ us hl => match us, hl with | [_], _ => rfl⟩,
    f1, _, ⟨fun_mk (st := s_least_of) l1 c1 k1, PySem.W.mg_of X G a1, (fun_mk (st := s_least_of) l1 c1 k1).binds fun _ _ _ _ _ _ us hl => match us, hl with | [_, _], _ => rfl⟩,
    f2, _, ⟨fun_mk (st := s_checked) l2 c2 k2, PySem.W.mg_of X G a2, (fun_mk (st := s_checked) l2 c2 k2).binds fun _ _ _ _ _ _ us hl => match us, hl with | [_], _ => rfl⟩,
    f3, _, ⟨fun_mk (st := s_join_of) l3 c3 k3, PySem.W.mg_of X G a3, (fun_mk (st := s_join_of) l3 c3 k3).binds fun _ _ _ _ _ _ us hl => match us, hl with | [_, _], _ => rfl⟩,
    f4, _, ⟨fun_mk (st := s_joined) l4 c4 k4, PySem.W.mg_of X G a4, (fun_mk (st := s_joined) l4 c4 k4).binds fun _ _ _ _ _ _ us hl => match us, hl with | [_, _], _ => rfl⟩,
    f5, _, ⟨fun_mk (st := s__law_coin) l5 c5 k5, PySem.W.mg_of X G a5, (fun_mk (st := s__law_coin) l5 c5 k5).binds fun _ _ _ _ _ _ us hl => match us, hl with | [_, _], _ => rfl⟩,
    f6, _, ⟨fun_mk (st := s__law_copied) l6 c6 k6, PySem.W.mg_of X G a6, (fun_mk (st := s__law_copied) l6 c6 k6).binds fun _ _ _ _ _ _ us hl => match us, hl with | [_], _ => rfl⟩,
    f7, _, ⟨fun_mk (st := s__law_ps_sack) l7 c7 k7, PySem.W.mg_of X G a7, (fun_mk (st := s__law_ps_sack) l7 c7 k7).binds fun _ _ _ _ _ _ us hl => match us, hl with | [_, _], _ => rfl⟩,
    f8, _, ⟨fun_mk (st := s__law_ps_least) l8 c8 k8, PySem.W.mg_of X G a8, (fun_mk (st := s__law_ps_least) l8 c8 k8).binds fun _ _ _ _ _ _ us hl => match us, hl with | [_, _], _ => rfl⟩,
    f9, _, ⟨fun_mk (st := s__law_ps_order) l9 c9 k9, PySem.W.mg_of X G a9, (fun_mk (st := s__law_ps_order) l9 c9 k9).binds fun _ _ _ _ _ _ us hl => match us, hl with | [_, _], _ => rfl⟩,
    f10, _, ⟨fun_mk (st := s__law_ps_drawn) l10 c10 k10, PySem.W.mg_of X G a10, (fun_mk (st := s__law_ps_drawn) l10 c10 k10).binds fun _ _ _ _ _ _ us hl => match us, hl with | [_, _, _], _ => rfl⟩,
    f11, _, ⟨fun_mk (st := s__law_ps_wider) l11 c11 k11, PySem.W.mg_of X G a11, (fun_mk (st := s__law_ps_wider) l11 c11 k11).binds fun _ _ _ _ _ _ us hl => match us, hl with | [_, _, _, _], _ => rfl⟩,
    f12, _, ⟨fun_mk (st := s__law_ps_do) l12 c12 k12, PySem.W.mg_of X G a12, (fun_mk (st := s__law_ps_do) l12 c12 k12).binds fun _ _ _ _ _ _ us hl => match us, hl with | [_, _], _ => rfl⟩,
    f13, _, ⟨fun_mk (st := s__law_ps_both) l13 c13 k13, PySem.W.mg_of X G a13, (fun_mk (st := s__law_ps_both) l13 c13 k13).binds fun _ _ _ _ _ _ us hl => match us, hl with | [_, _], _ => rfl⟩,
    f14, _, ⟨fun_mk (st := s__law_ps_same) l14 c14 k14, PySem.W.mg_of X G a14, (fun_mk (st := s__law_ps_same) l14 c14 k14).binds fun _ _ _ _ _ _ us hl => match us, hl with | [_, _], _ => rfl⟩,
    f15, _, ⟨fun_mk (st := s__law_ps_spoil) l15 c15 k15, PySem.W.mg_of X G a15, (fun_mk (st := s__law_ps_spoil) l15 c15 k15).binds fun _ _ _ _ _ _ us hl => match us, hl with | [_, _], _ => rfl⟩,
    f16, _, ⟨fun_mk (st := s__law_ps_alone) l16 c16 k16, PySem.W.mg_of X G a16, (fun_mk (st := s__law_ps_alone) l16 c16 k16).binds fun _ _ _ _ _ _ us hl => match us, hl with | [_], _ => rfl⟩,
    f17, _, ⟨fun_mk (st := s__law_ps_bounds) l17 c17 k17, PySem.W.mg_of X G a17, (fun_mk (st := s__law_ps_bounds) l17 c17 k17).binds fun _ _ _ _ _ _ us hl => match us, hl with | [_], _ => rfl⟩,
    f18, _, ⟨fun_mk (st := s__law_ps_right) l18 c18 k18, PySem.W.mg_of X G a18, (fun_mk (st := s__law_ps_right) l18 c18 k18).binds fun _ _ _ _ _ _ us hl => match us, hl with | [_], _ => rfl⟩,
    fa, _, ⟨fun_mk (st := s_law) l19 c19 k19, PySem.W.mg_of X G a19, (fun_mk (st := s_law) l19 c19 k19).binds fun _ _ _ _ _ _ us hl => match us, hl with | [_], _ => rfl⟩⟩ : Prog K mg)⟩
end
end My
open PySem PySem.W PyProof.Rows
set_option maxHeartbeats 0 in
theorem PySem.Challenge.cw_pileshifts_k03_effects_joined_holds : PySem.Challenge.rw_pileshifts_k03_effects_joined.Holds := by
  w_on; o_law; k_head; (case hw => w_witness2)
  k_fill
  refine G.walk_ofG (l := PySem.Challenge.rw_pileshifts_k03_effects_joined) (n := 63) (k := 11) (x := "_law_script") (CX := fun _ => L2.CX0) (sp := fun w => My.spLaw _) rfl (by decide) rfl ⟨rfl, by decide, by decide⟩ (fun w h Y => PySem.W.kIn_of Y) ?F (fun _ _ a ns hl hb _ hS => ⟨a, ns, rfl, hS, hl, hb, fun _ => rfl⟩) (fun _ _ _ _ _ h => h)
  case F =>
    intro w mg fa h KX G hmg
    refine' My.all_mk KX G hmg ?a0 ?l0 ?c0 ?k0 ?a1 ?l1 ?c1 ?k1 ?a2 ?l2 ?c2 ?k2 ?a3 ?l3 ?c3 ?k3 ?a4 ?l4 ?c4 ?k4 ?a5 ?l5 ?c5 ?k5 ?a6 ?l6 ?c6 ?k6 ?a7 ?l7 ?c7 ?k7 ?a8 ?l8 ?c8 ?k8 ?a9 ?l9 ?c9 ?k9 ?a10 ?l10 ?c10 ?k10 ?a11 ?l11 ?c11 ?k11 ?a12 ?l12 ?c12 ?k12 ?a13 ?l13 ?c13 ?k13 ?a14 ?l14 ?c14 ?k14 ?a15 ?l15 ?c15 ?k15 ?a16 ?l16 ?c16 ?k16 ?a17 ?l17 ?c17 ?k17 ?a18 ?l18 ?c18 ?k18 ?a19 ?l19 ?c19 ?k19 ?z0 ?z1 ?z2 ?z3 ?z4 ?z5 ?z6 ?z7 ?z8 ?z9 ?z10 ?z11 ?z12 ?z13 ?z14 ?z15 ?z16 ?z17 ?z18 ?z19 ?z20 ?z21
    (case a0 => k_is)
    (case l0 => k_is)
    (case c0 => k_is)
    (case k0 => k_is)
    (case a1 => k_is)
    (case l1 => k_is)
    (case c1 => k_is)
    (case k1 => k_is)
    (case a2 => k_is)
    (case l2 => k_is)
    (case c2 => k_is)
    (case k2 => k_is)
    (case a3 => k_is)
    (case l3 => k_is)
    (case c3 => k_is)
    (case k3 => k_is)
    (case a4 => k_is)
    (case l4 => k_is)
    (case c4 => k_is)
    (case k4 => k_is)
    (case a5 => k_is)
    (case l5 => k_is)
    (case c5 => k_is)
    (case k5 => k_is)
    (case a6 => k_is)
    (case l6 => k_is)
    (case c6 => k_is)
    (case k6 => k_is)
    (case a7 => k_is)
    (case l7 => k_is)
    (case c7 => k_is)
    (case k7 => k_is)
    (case a8 => k_is)
    (case l8 => k_is)
    (case c8 => k_is)
    (case k8 => k_is)
    (case a9 => k_is)
    (case l9 => k_is)
    (case c9 => k_is)
    (case k9 => k_is)
    (case a10 => k_is)
    (case l10 => k_is)
    (case c10 => k_is)
    (case k10 => k_is)
    (case a11 => k_is)
    (case l11 => k_is)
    (case c11 => k_is)
    (case k11 => k_is)
    (case a12 => k_is)
    (case l12 => k_is)
    (case c12 => k_is)
    (case k12 => k_is)
    (case a13 => k_is)
    (case l13 => k_is)
    (case c13 => k_is)
    (case k13 => k_is)
    (case a14 => k_is)
    (case l14 => k_is)
    (case c14 => k_is)
    (case k14 => k_is)
    (case a15 => k_is)
    (case l15 => k_is)
    (case c15 => k_is)
    (case k15 => k_is)
    (case a16 => k_is)
    (case l16 => k_is)
    (case c16 => k_is)
    (case k16 => k_is)
    (case a17 => k_is)
    (case l17 => k_is)
    (case c17 => k_is)
    (case k17 => k_is)
    (case a18 => k_is)
    (case l18 => k_is)
    (case c18 => k_is)
    (case k18 => k_is)
    (case a19 => k_is)
    (case l19 => k_is)
    (case c19 => k_is)
    (case k19 => k_is)
    (case z0 => k_is)
    (case z1 => k_is)
    (case z2 => k_is)
    (case z3 => k_is)
    (case z4 => k_is)
    (case z5 => k_is)
    (case z6 => k_is)
    (case z7 => k_is)
    (case z8 => k_is)
    (case z9 => k_is)
    (case z10 => k_is)
    (case z11 => k_is)
    (case z12 => k_is)
    (case z13 => k_is)
    (case z14 => k_is)
    (case z15 => k_is)
    (case z16 => k_is)
    (case z17 => k_is)
    (case z18 => k_is)
    (case z19 => k_is)
    (case z20 => k_is)
    (case z21 => k_is)
