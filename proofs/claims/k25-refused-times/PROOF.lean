import PyProof.Rows.All
import Wide.All
import OpenK.AllK
import Wide.FinOn
import HandS.ForMost
import HandS.Wide
import HandS.WideBits
import KE.BitLaws
import HandS.EndBits
import HandS.Conv
import HandS.SetFor
import HandS.Codes
import HandS.IsInst
import HandS.Dict
import PyProof.DictTruth
import PyProof.DictKeyH
import PyProof.P3In
import PyProof.Rows.SetFrom
import HandS.Zip
import HandS.SortKw
import KE.DatumOrd
import PyProof.StrLawsRepr
import HandS.More
import HandS.TryMany
import KE.KDictZip
import PyProof.EnumMake
import PyProof.EnumFor
import HandS.ExcIs
import KE.KExcIs
import HandS.Exc
import HandS.ExcOwn
import HandS.ExcInit
import HandS.ExcField
import HandS.WordsExc
import HandS.TryOnly
import HandS.NoneIn
import HandS.Style
import PyProof.ReprRoads
import PyProof.ReprLen
import PyProof.MaxThree
import KE.SortData
import PySem.Challenge.RW_pileshifts_k25_refused_times
set_option Elab.async false
set_option linter.all false
set_option maxRecDepth 100000
set_option maxHeartbeats 4000000
namespace G
open PySem PySem.Spec PyProof.Rows L2
abbrev D := PyData
mutual
inductive Rep (H : Hp) : List Addr → V → D → Prop
  | non : Rep H [] .non .none
  | bl (b : Bool) : Rep H [] (.bl b) (.bool b)
  | int (i : Int) : Rep H [] (.int i) (.int i)
  | str (x : Str) : Rep H [] (.str x) (.str x)
  | lst {a : Addr} {vs : List V} {S : List Addr} {ds : List D} : H a = some (.lst vs) → Reps H S vs ds → Rep H (a :: S) (.ref a) (.list ds)
  | tup {a : Addr} {vs : List V} {S : List Addr} {ds : List D} : H a = some (.tup vs) → Reps H S vs ds → Rep H S (.ref a) (.tuple ds)
inductive Reps (H : Hp) : List Addr → List V → List D → Prop
  | nil : Reps H [] [] []
  | cons {S T : List Addr} {v : V} {vs : List V} {d : D} {ds : List D} : Rep H S v d → Reps H T vs ds → Reps H (S ++ T) (v :: vs) (d :: ds)
end
section
variable {H H' : Hp}
mutual
theorem Rep.mono (ht : ∀ t vs, H t = some (.tup vs) → H' t = some (.tup vs)) : ∀ (d : D) (S : List Addr) (v : V), Rep H S v d → (∀ a ∈ S, ∀ o, H a = some o → H' a = some o) → Rep H' S v d
  | .none, _, _, h, _ => by cases h; exact .non
  | .bool b, _, _, h, _ => by cases h; exact .bl b
  | .int i, _, _, h, _ => by cases h; exact .int i
  | .str x, _, _, h, _ => by cases h; exact .str x
  | .list ds, _, _, h, k => by
    cases h with
    | lst h1 h2 => exact .lst (k _ List.mem_cons_self _ h1) (Reps.mono ht ds _ _ h2 fun a ha => k a (List.mem_cons_of_mem _ ha))
  | .tuple ds, _, _, h, k => by
    cases h with
    | tup h1 h2 => exact .tup (ht _ _ h1) (Reps.mono ht ds _ _ h2 k)
  | .dict _, _, _, h, _ => by cases h
theorem Reps.mono (ht : ∀ t vs, H t = some (.tup vs) → H' t = some (.tup vs)) : ∀ (ds : List D) (S : List Addr) (vs : List V), Reps H S vs ds → (∀ a ∈ S, ∀ o, H a = some o → H' a = some o) → Reps H' S vs ds
  | [], _, _, h, _ => by cases h; exact .nil
  | d :: ds, _, _, h, k => by
    cases h with
    | cons h1 h2 => exact .cons (Rep.mono ht d _ _ h1 fun a ha => k a (List.mem_append_left _ ha)) (Reps.mono ht ds _ _ h2 fun a ha => k a (List.mem_append_right _ ha))
end
mutual
/-- the lists of a tree stand in the heap -/
theorem Rep.dom : ∀ (d : D) (S : List Addr) (v : V), Rep H S v d → ∀ a ∈ S, ∃ vs, H a = some (.lst vs)
  | .none, _, _, h => by cases h; intro a z; cases z
  | .bool b, _, _, h => by cases h; intro a z; cases z
  | .int i, _, _, h => by cases h; intro a z; cases z
  | .str x, _, _, h => by cases h; intro a z; cases z
  | .list ds, _, _, h => by
    cases h with
    | lst h1 h2 =>
      intro a z
      rcases List.mem_cons.mp z with rfl | z
      · exact ⟨_, h1⟩
      · exact Reps.dom ds _ _ h2 a z
  | .tuple ds, _, _, h => by
    cases h with
    | tup h1 h2 => exact Reps.dom ds _ _ h2
  | .dict _, _, _, h => by cases h
theorem Reps.dom : ∀ (ds : List D) (S : List Addr) (vs : List V), Reps H S vs ds → ∀ a ∈ S, ∃ xs, H a = some (.lst xs)
  | [], _, _, h => by cases h; intro a z; cases z
  | d :: ds, _, _, h => by
    cases h with
    | cons h1 h2 =>
      intro a z
      rcases List.mem_append.mp z with z | z
      · exact Rep.dom d _ _ h1 a z
      · exact Reps.dom ds _ _ h2 a z
end
mutual
/-- read by the layer's own words -/
theorem Rep.dp (K : PySem.W.Frag) : ∀ (d : D) (S : List Addr) (v : V), Rep H S v d → Dp K H v d
  | .none, _, _, h => by cases h; exact .non
  | .bool b, _, _, h => by cases h; exact .bl b
  | .int i, _, _, h => by cases h; exact .int i
  | .str x, _, _, h => by cases h; exact .str x
  | .list ds, _, _, h => by
    cases h with
    | lst h1 h2 => exact .lst (SqL.of h1) (Reps.dp K ds _ _ h2)
  | .tuple ds, _, _, h => by
    cases h with
    | tup h1 h2 => exact .tup (SqT.of h1) (Reps.dp K ds _ _ h2)
  | .dict _, _, _, h => by cases h
theorem Reps.dp (K : PySem.W.Frag) : ∀ (ds : List D) (S : List Addr) (vs : List V), Reps H S vs ds → DpAll K H vs ds
  | [], _, _, h => by cases h; exact .nil
  | d :: ds, _, _, h => by
    cases h with
    | cons h1 h2 => exact .cons (Rep.dp K d _ _ h1) (Reps.dp K ds _ _ h2)
end
theorem Reps.length : ∀ {ds : List D} {S : List Addr} {vs : List V}, Reps H S vs ds → vs.length = ds.length
  | [], _, _, h => by cases h; rfl
  | d :: ds, _, _, h => by
    cases h with
    | cons h1 h2 => simp [Reps.length h2]
theorem Reps.append : ∀ {ds es : List D} {S T : List Addr} {vs us : List V}, Reps H S vs ds → Reps H T us es → Reps H (S ++ T) (vs ++ us) (ds ++ es)
  | [], _, _, _, _, _, h, k => by cases h; exact k
  | d :: ds, _, _, _, _, _, h, k => by
    cases h with
    | cons h1 h2 =>
      have q := Reps.cons h1 (Reps.append h2 k)
      rw [← List.append_assoc] at q
      exact q
theorem Reps.split : ∀ {ds es : List D} {S : List Addr} {us : List V}, Reps H S us (ds ++ es) → ∃ S1 S2 u1 u2, S = S1 ++ S2 ∧ us = u1 ++ u2 ∧ Reps H S1 u1 ds ∧ Reps H S2 u2 es
  | [], _, S, us, h => ⟨[], S, [], us, rfl, rfl, .nil, h⟩
  | d :: ds, _, _, _, h => by
    cases h with
    | cons h1 h2 =>
      obtain ⟨S1, S2, u1, u2, rfl, rfl, a, b⟩ := Reps.split h2
      exact ⟨_, S2, _, u2, (List.append_assoc ..).symm, rfl, .cons h1 a, b⟩
theorem Reps.intsR : ∀ (ns : List Int), Reps H [] (ns.map V.int) (ns.map PyData.int)
  | [] => .nil
  | n :: ns => .cons (S := []) (.int n) (Reps.intsR ns)
theorem Reps.intsInv : ∀ {ns : List Int} {S : List Addr} {vs : List V}, Reps H S vs (ns.map PyData.int) → S = [] ∧ vs = ns.map V.int
  | [], _, _, h => by cases h; exact ⟨rfl, rfl⟩
  | n :: ns, _, _, h => by
    cases h with
    | cons h1 h2 =>
      cases h1
      obtain ⟨rfl, rfl⟩ := Reps.intsInv h2
      exact ⟨rfl, rfl⟩
/-- one item -/
theorem Reps.get : ∀ {ds : List D} {S : List Addr} {vs : List V} {i : Nat} {d : D}, Reps H S vs ds → ds[i]? = some d → ∃ v T, vs[i]? = some v ∧ Rep H T v d ∧ ∀ a ∈ T, a ∈ S
  | [], _, _, _, _, _, e => by simp at e
  | d :: ds, _, _, 0, _, h, e => by
    cases h with
    | cons h1 h2 =>
      simp at e
      subst e
      exact ⟨_, _, rfl, h1, fun a z => List.mem_append_left _ z⟩
  | d :: ds, _, _, i + 1, _, h, e => by
    cases h with
    | cons h1 h2 =>
      obtain ⟨v, T, e1, r, s⟩ := Reps.get (i := i) h2 (by simpa using e)
      exact ⟨v, T, by simpa using e1, r, fun a z => List.mem_append_right _ (s a z)⟩
end
/-- a list of ints as data -/
abbrev dI (ns : List Int) : D := .list (ns.map PyData.int)
/-- a new tree: its lists are all new, each once -/
def New (H H' : Hp) (v : V) (d : D) : Prop := ∃ S, Rep H' S v d ∧ S.Nodup ∧ ∀ a ∈ S, H a = none
/-- three whole numbers, the last one (how many draws so far) at most b -/
def PuAt (H : Hp) (p : Addr) (b : Int) : Prop := ∃ x y z : Int, H p = some (.lst [.int x, .int y, .int z]) ∧ 0 ≤ y ∧ y < 10 ^ 25 ∧ 0 ≤ z ∧ z ≤ b
theorem PuAt.le {H : Hp} {p : Addr} {b c : Int} (h : PuAt H p b) (k : b ≤ c) : PuAt H p c := by
  obtain ⟨x, y, z, h1, h2, h3, h4, h5⟩ := h
  exact ⟨x, y, z, h1, h2, h3, h4, by omega⟩
/-- H0: the heap at the entry; M: its one list that may be changed; pu: the purse and a bound on its draws; Fz: trees that stay; Ow: trees whose lists each stand in one place alone, and may change; Tp: tuples -/
def St (H0 : Hp) (M : Option Addr) (pu : Option (Addr × Int)) (Fz Ow : List (V × D)) (Tp : List (Addr × List V)) (H : Hp) : Prop :=
  ∃ (Z : Addr → Prop) (S : List Addr),
    (∀ a o, H0 a = some o → some a ≠ M → Z a ∧ H a = some o) ∧
    (∀ x ∈ Fz, ∃ T, Rep H T x.1 x.2 ∧ ∀ a ∈ T, Z a) ∧
    Reps H S (Ow.map (·.1)) (Ow.map (·.2)) ∧ S.Nodup ∧ (∀ a ∈ S, ¬ Z a ∧ some a ≠ M) ∧
    (∀ x ∈ Tp, H x.1 = some (.tup x.2)) ∧
    (∀ p b, pu = some (p, b) → PuAt H p b ∧ ¬ Z p ∧ p ∉ S) ∧ (∀ a, Z a ∨ M = some a → ∃ o, H a = some o)
/-- pick one out of a list -/
inductive Pick {α : Type} (x : α) : List α → List α → Prop
  | hd {l : List α} : Pick x (x :: l) l
  | tl {y : α} {l l' : List α} : Pick x l l' → Pick x (y :: l) (y :: l')
/-- readable: v is the tree d -/
inductive Rdb (Fz Ow : List (V × D)) (Tp : List (Addr × List V)) : V → D → Prop
  | non : Rdb Fz Ow Tp .non .none
  | bl (b : Bool) : Rdb Fz Ow Tp (.bl b) (.bool b)
  | int (i : Int) : Rdb Fz Ow Tp (.int i) (.int i)
  | str (x : Str) : Rdb Fz Ow Tp (.str x) (.str x)
  | fz {v : V} {d : D} : (v, d) ∈ Fz → Rdb Fz Ow Tp v d
  | ow {v : V} {d : D} : (v, d) ∈ Ow → Rdb Fz Ow Tp v d
  | tp0 {t : Addr} : (t, []) ∈ Tp → Rdb Fz Ow Tp (.ref t) (.tuple [])
  | tp1 {t : Addr} {v1 : V} {d1 : D} : (t, [v1]) ∈ Tp → Rdb Fz Ow Tp v1 d1 → Rdb Fz Ow Tp (.ref t) (.tuple [d1])
  | tp2 {t : Addr} {v1 v2 : V} {d1 d2 : D} : (t, [v1, v2]) ∈ Tp → Rdb Fz Ow Tp v1 d1 → Rdb Fz Ow Tp v2 d2 → Rdb Fz Ow Tp (.ref t) (.tuple [d1, d2])
  | tp3 {t : Addr} {v1 v2 v3 : V} {d1 d2 d3 : D} : (t, [v1, v2, v3]) ∈ Tp → Rdb Fz Ow Tp v1 d1 → Rdb Fz Ow Tp v2 d2 → Rdb Fz Ow Tp v3 d3 → Rdb Fz Ow Tp (.ref t) (.tuple [d1, d2, d3])
inductive Rdbs (Fz Ow : List (V × D)) (Tp : List (Addr × List V)) : List V → List D → Prop
  | nil : Rdbs Fz Ow Tp [] []
  | cons {v : V} {vs : List V} {d : D} {ds : List D} : Rdb Fz Ow Tp v d → Rdbs Fz Ow Tp vs ds → Rdbs Fz Ow Tp (v :: vs) (d :: ds)
section
variable {H0 H H' : Hp} {M : Option Addr} {pu : Option (Addr × Int)} {Fz Ow Ow' : List (V × D)} {Tp : List (Addr × List V)} {v : V} {d : D}
theorem reps_of_mem {Ow : List (V × D)} {S : List Addr} (h : Reps H S (Ow.map (·.1)) (Ow.map (·.2))) : ∀ {x : V × D}, x ∈ Ow → ∃ T, Rep H T x.1 x.2 ∧ ∀ a ∈ T, a ∈ S := by
  induction Ow generalizing S with
  | nil => intro x z; cases z
  | cons y Ow ih =>
    intro x z
    cases h with
    | cons h1 h2 =>
      rcases List.mem_cons.mp z with rfl | z
      · exact ⟨_, h1, fun a m => List.mem_append_left _ m⟩
      · obtain ⟨T, r, s⟩ := ih h2 z
        exact ⟨T, r, fun a m => List.mem_append_right _ (s a m)⟩
/-- what is readable is read, away from the purse -/
theorem St.rd (h : St H0 M pu Fz Ow Tp H) (r : Rdb Fz Ow Tp v d) : ∃ T, Rep H T v d ∧ ∀ p b, pu = some (p, b) → p ∉ T := by
  obtain ⟨Z, S, h1, h2, h3, h4, h5, h6, h7, h8⟩ := h
  induction r with
  | non => exact ⟨_, .non, fun _ _ _ z => nomatch z⟩
  | bl b => exact ⟨_, .bl b, fun _ _ _ z => nomatch z⟩
  | int i => exact ⟨_, .int i, fun _ _ _ z => nomatch z⟩
  | str x => exact ⟨_, .str x, fun _ _ _ z => nomatch z⟩
  | fz m =>
    obtain ⟨T, r, z⟩ := h2 _ m
    exact ⟨T, r, fun p b e hp => (h7 p b e).2.1 (z p hp)⟩
  | ow m =>
    obtain ⟨T, r, z⟩ := reps_of_mem h3 m
    exact ⟨T, r, fun p b e hp => (h7 p b e).2.2 (z p hp)⟩
  | tp0 m => exact ⟨_, .tup (h6 _ m) .nil, fun _ _ _ z => nomatch z⟩
  | tp1 m _ i1 =>
    obtain ⟨T1, r1, z1⟩ := i1
    refine ⟨_, .tup (h6 _ m) (.cons r1 .nil), fun p b e hp => ?_⟩
    simp at hp
    exact z1 p b e hp
  | tp2 m _ _ i1 i2 =>
    obtain ⟨T1, r1, z1⟩ := i1
    obtain ⟨T2, r2, z2⟩ := i2
    refine ⟨_, .tup (h6 _ m) (.cons r1 (.cons r2 .nil)), fun p b e hp => ?_⟩
    simp at hp
    rcases hp with hp | hp
    · exact z1 p b e hp
    · exact z2 p b e hp
  | tp3 m _ _ _ i1 i2 i3 =>
    obtain ⟨T1, r1, z1⟩ := i1
    obtain ⟨T2, r2, z2⟩ := i2
    obtain ⟨T3, r3, z3⟩ := i3
    refine ⟨_, .tup (h6 _ m) (.cons r1 (.cons r2 (.cons r3 .nil))), fun p b e hp => ?_⟩
    simp at hp
    rcases hp with hp | hp | hp
    · exact z1 p b e hp
    · exact z2 p b e hp
    · exact z3 p b e hp
theorem St.rds (h : St H0 M pu Fz Ow Tp H) {vs : List V} {ds : List D} (r : Rdbs Fz Ow Tp vs ds) : ∃ T, Reps H T vs ds ∧ ∀ p b, pu = some (p, b) → p ∉ T := by
  induction r with
  | nil => exact ⟨_, .nil, fun _ _ _ z => nomatch z⟩
  | cons r _ ih =>
    obtain ⟨T1, r1, z1⟩ := h.rd r
    obtain ⟨T2, r2, z2⟩ := ih
    exact ⟨_, .cons r1 r2, fun p b e hp => (List.mem_append.mp hp).elim (z1 p b e) (z2 p b e)⟩
theorem Reps.pick {x : V × D} (k : Pick x Ow Ow') : ∀ {S : List Addr}, Reps H S (Ow.map (·.1)) (Ow.map (·.2)) → ∃ S1 S2, Rep H S1 x.1 x.2 ∧ Reps H S2 (Ow'.map (·.1)) (Ow'.map (·.2)) ∧ S.Perm (S1 ++ S2) := by
  induction k with
  | hd =>
    intro S h
    cases h with
    | cons h1 h2 => exact ⟨_, _, h1, h2, .refl _⟩
  | @tl y l l' k ih =>
    intro S h
    cases h with
    | @cons Sy T _ _ _ _ h1 h2 =>
      obtain ⟨S1, S2, r1, r2, pm⟩ := ih h2
      refine ⟨S1, Sy ++ S2, r1, .cons h1 r2, ?_⟩
      refine (List.Perm.append_left Sy pm).trans ?_
      rw [← List.append_assoc, ← List.append_assoc]
      exact List.Perm.append_right S2 List.perm_append_comm
/-- an owned tree to the front -/
theorem St.front {x : V × D} (h : St H0 M pu Fz Ow Tp H) (k : Pick x Ow Ow') : St H0 M pu Fz (x :: Ow') Tp H := by
  obtain ⟨Z, S, h1, h2, h3, h4, h5, h6, h7, h8⟩ := h
  obtain ⟨S1, S2, r1, r2, pm⟩ := Reps.pick k h3
  exact ⟨Z, S1 ++ S2, h1, h2, .cons r1 r2, pm.nodup_iff.mp h4, fun a m => h5 a (pm.mem_iff.mpr m), h6, fun p b e => ⟨(h7 p b e).1, (h7 p b e).2.1, fun m => (h7 p b e).2.2 (pm.mem_iff.mpr m)⟩, h8⟩
/-- forget an owned tree -/
theorem St.drop {x : V × D} (h : St H0 M pu Fz (x :: Ow) Tp H) : St H0 M pu Fz Ow Tp H := by
  obtain ⟨Z, S, h1, h2, h3, h4, h5, h6, h7, h8⟩ := h
  cases h3 with
  | cons r1 r2 => exact ⟨Z, _, h1, h2, r2, (List.nodup_append.mp h4).2.1, fun a m => h5 a (List.mem_append_right _ m), h6, fun p b e => ⟨(h7 p b e).1, (h7 p b e).2.1, fun m => (h7 p b e).2.2 (List.mem_append_right _ m)⟩, h8⟩
theorem St.fzs {Fz' : List (V × D)} (h : St H0 M pu Fz Ow Tp H) (k : ∀ x ∈ Fz', x ∈ Fz) : St H0 M pu Fz' Ow Tp H := by
  obtain ⟨Z, S, h1, h2, h3, h4, h5, h6, h7, h8⟩ := h
  exact ⟨Z, S, h1, fun x m => h2 x (k x m), h3, h4, h5, h6, h7, h8⟩
/-- an owned tree is from now on left as it is -/
theorem St.freeze (h : St H0 M pu Fz ((v, d) :: Ow) Tp H) : St H0 M pu ((v, d) :: Fz) Ow Tp H := by
  obtain ⟨Z, S, h1, h2, h3, h4, h5, h6, h7, h8⟩ := h
  cases h3 with
  | @cons S1 S2 _ _ _ _ r1 r2 =>
    have nd := List.nodup_append.mp h4
    refine ⟨fun a => Z a ∨ a ∈ S1, S2, fun a o e m => ⟨.inl (h1 a o e m).1, (h1 a o e m).2⟩, fun x m => ?_, r2, nd.2.1, fun a m => ⟨?_, (h5 a (List.mem_append_right _ m)).2⟩, h6, fun p b e => ⟨(h7 p b e).1, ?_, fun m => (h7 p b e).2.2 (List.mem_append_right _ m)⟩, fun a z => ?_⟩
    · rcases List.mem_cons.mp m with rfl | m
      · exact ⟨S1, r1, fun a z => .inr z⟩
      · obtain ⟨T, r, z⟩ := h2 x m
        exact ⟨T, r, fun a q => .inl (z a q)⟩
    · rintro (z | z)
      · exact (h5 a (List.mem_append_right _ m)).1 z
      · exact nd.2.2 a z a m rfl
    · rintro (z | z)
      · exact (h7 p b e).2.1 z
      · exact (h7 p b e).2.2 (List.mem_append_left _ z)
    · rcases z with (z | z) | z
      · exact h8 a (.inl z)
      · obtain ⟨xs, q⟩ := Rep.dom d S1 v r1 a z
        exact ⟨_, q⟩
      · exact h8 a (.inr z)
theorem St.step (h : St H0 M pu Fz Ow Tp H) (k : ∀ a o, H a = some o → (∀ p b, pu = some (p, b) → a ≠ p) → H' a = some o) (kp : ∀ p b, pu = some (p, b) → PuAt H' p b) : St H0 M pu Fz Ow Tp H' := by
  obtain ⟨Z, S, h1, h2, h3, h4, h5, h6, h7, h8⟩ := h
  have nt : ∀ t vs, H t = some (.tup vs) → H' t = some (.tup vs) := fun t vs e => k t _ e fun p b q z => by
    subst z
    obtain ⟨x, y, z, e2, _⟩ := (h7 t b q).1
    rw [e] at e2
    cases e2
  refine ⟨Z, S, fun a o e m => ⟨(h1 a o e m).1, k a o (h1 a o e m).2 fun p b q z => (h7 p b q).2.1 (z ▸ (h1 a o e m).1)⟩, fun x m => ?_, ?_, h4, h5, fun x m => nt _ _ (h6 x m), fun p b q => ⟨kp p b q, (h7 p b q).2⟩, fun a z => ?_⟩
  · obtain ⟨T, r, z⟩ := h2 x m
    exact ⟨T, Rep.mono nt _ _ _ r fun a q o e => k a o e fun p b e' y => (h7 p b e').2.1 (y ▸ z a q), z⟩
  · exact Reps.mono nt _ _ _ h3 fun a q o e => k a o e fun p b e' y => (h7 p b e').2.2 (y ▸ q)
  · obtain ⟨o, e⟩ := h8 a z
    cases hp : pu with
    | none => exact ⟨o, k a o e fun p b e' y => by rw [hp] at e'; cases e'⟩
    | some q =>
      by_cases hq : a = q.1
      · subst hq
        obtain ⟨x, y, zz, e2, _⟩ := kp q.1 q.2 (by rw [hp])
        exact ⟨_, e2⟩
      · exact ⟨o, k a o e fun p b e' y => hq (by rw [hp] at e'; cases e'; exact y)⟩
theorem PuAt.mono {p : Addr} {b : Int} (h : PuAt H p b) (k : ∀ o, H p = some o → H' p = some o) : PuAt H' p b := by
  obtain ⟨x, y, z, e, r⟩ := h
  exact ⟨x, y, z, k _ e, r⟩
/-- all is kept -/
theorem St.same (h : St H0 M pu Fz Ow Tp H) (k : Same H H') : St H0 M pu Fz Ow Tp H' := by
  have h7 := h
  obtain ⟨Z, S, _, _, _, _, _, _, h7, _⟩ := h7
  exact h.step (fun a o e _ => k a o e) fun p b e => (h7 p b e).1.mono (k p)
theorem same_upd {p : Addr} {o : HO} (h : H p = none) : Same H (upd H p o) := fun b x e => by
  rw [upd_ne (ne_of_none e h)]
  exact e
/-- a new tree comes -/
theorem St.new (h : St H0 M pu Fz Ow Tp H) (k : Same H H') (n : New H H' v d) : St H0 M pu Fz ((v, d) :: Ow) Tp H' := by
  obtain ⟨Z, S, h1, h2, h3, h4, h5, h6, h7, h8⟩ := h
  obtain ⟨S1, r, nd, fr⟩ := n
  have nt : ∀ t vs, H t = some (.tup vs) → H' t = some (.tup vs) := fun t vs e => k t _ e
  have out : ∀ a, Z a ∨ M = some a → a ∉ S1 := fun a z m => by
    obtain ⟨o, e⟩ := h8 a z
    rw [fr a m] at e
    cases e
  refine ⟨Z, S1 ++ S, fun a o e m => ⟨(h1 a o e m).1, k a o (h1 a o e m).2⟩, fun x m => ?_, .cons r (Reps.mono nt _ _ _ h3 fun a _ o e => k a o e), ?_, fun a m => ?_, fun x m => nt _ _ (h6 x m), fun p b e => ⟨(h7 p b e).1.mono (k p), (h7 p b e).2.1, fun m => ?_⟩, fun a z => ?_⟩
  · obtain ⟨T, r, z⟩ := h2 x m
    exact ⟨T, Rep.mono nt _ _ _ r fun a _ o e => k a o e, z⟩
  · refine List.nodup_append.mpr ⟨nd, h4, fun a m b m' e => ?_⟩
    subst e
    obtain ⟨xs, q⟩ := Reps.dom _ _ _ h3 a m'
    rw [fr a m] at q
    cases q
  · rcases List.mem_append.mp m with m | m
    · exact ⟨fun z => out a (.inl z) m, fun z => out a (.inr z.symm) m⟩
    · exact h5 a m
  · rcases List.mem_append.mp m with m | m
    · obtain ⟨x, y, z, e2, _⟩ := (h7 p b e).1
      rw [fr p m] at e2
      cases e2
    · exact (h7 p b e).2.2 m
  · obtain ⟨o, e⟩ := h8 a z
    exact ⟨o, k a o e⟩
/-- a tree that is an int, a truth value, None, a text -/
theorem St.int {i : Int} (h : St H0 M pu Fz ((v, .int i) :: Ow) Tp H) : v = .int i ∧ St H0 M pu Fz Ow Tp H := by
  refine ⟨?_, h.drop⟩
  obtain ⟨Z, S, h1, h2, h3, h4, h5, h6, h7, h8⟩ := h
  cases h3 with
  | cons r _ => cases r; rfl
theorem St.bool {b : Bool} (h : St H0 M pu Fz ((v, .bool b) :: Ow) Tp H) : v = .bl b ∧ St H0 M pu Fz Ow Tp H := by
  refine ⟨?_, h.drop⟩
  obtain ⟨Z, S, h1, h2, h3, h4, h5, h6, h7, h8⟩ := h
  cases h3 with
  | cons r _ => cases r; rfl
theorem St.none (h : St H0 M pu Fz ((v, .none) :: Ow) Tp H) : v = .non ∧ St H0 M pu Fz Ow Tp H := by
  refine ⟨?_, h.drop⟩
  obtain ⟨Z, S, h1, h2, h3, h4, h5, h6, h7, h8⟩ := h
  cases h3 with
  | cons r _ => cases r; rfl
theorem St.str {x : Str} (h : St H0 M pu Fz ((v, .str x) :: Ow) Tp H) : v = .str x ∧ St H0 M pu Fz Ow Tp H := by
  refine ⟨?_, h.drop⟩
  obtain ⟨Z, S, h1, h2, h3, h4, h5, h6, h7, h8⟩ := h
  cases h3 with
  | cons r _ => cases r; rfl
/-- an owned tuple is opened -/
theorem St.tup {ds : List D} (h : St H0 M pu Fz ((v, .tuple ds) :: Ow) Tp H) : ∃ t vs, v = .ref t ∧ vs.length = ds.length ∧ St H0 M pu Fz (vs.zip ds ++ Ow) ((t, vs) :: Tp) H := by
  obtain ⟨Z, S, h1, h2, h3, h4, h5, h6, h7, h8⟩ := h
  cases h3 with
  | cons r r' =>
    cases r with
    | @tup a vs S1 _ e rs =>
      have el := rs.length
      refine ⟨a, vs, rfl, el, Z, _, h1, h2, ?_, h4, h5, fun x m => ?_, h7, h8⟩
      · rw [List.map_append, List.map_append, List.map_fst_zip (by omega), List.map_snd_zip (by omega)]
        exact rs.append r'
      · rcases List.mem_cons.mp m with rfl | m
        · exact e
        · exact h6 x m
/-- a frozen tuple is opened -/
theorem St.ftup {ds : List D} (h : St H0 M pu Fz Ow Tp H) (m : (v, .tuple ds) ∈ Fz) : ∃ t vs, v = .ref t ∧ vs.length = ds.length ∧ St H0 M pu (vs.zip ds ++ Fz) Ow ((t, vs) :: Tp) H := by
  obtain ⟨Z, S, h1, h2, h3, h4, h5, h6, h7, h8⟩ := h
  obtain ⟨T, r, z⟩ := h2 _ m
  cases r with
  | @tup a vs S1 _ e rs =>
    have el := rs.length
    refine ⟨a, vs, rfl, el, Z, S, h1, fun x m => ?_, h3, h4, h5, fun x m => ?_, h7, h8⟩
    · rcases List.mem_append.mp m with m | m
      · have rs' : Reps H T ((vs.zip ds).map (·.1)) ((vs.zip ds).map (·.2)) := by
          rw [List.map_fst_zip (by omega), List.map_snd_zip (by omega)]
          exact rs
        obtain ⟨T', r, z'⟩ := reps_of_mem rs' m
        exact ⟨T', r, fun a q => z a (z' a q)⟩
      · exact h2 x m
    · rcases List.mem_cons.mp m with rfl | m
      · exact e
      · exact h6 x m
theorem St.ftup2 {d1 d2 : D} (h : St H0 M pu Fz Ow Tp H) (m : (v, .tuple [d1, d2]) ∈ Fz) : ∃ t v1 v2, v = .ref t ∧ St H0 M pu ((v1, d1) :: (v2, d2) :: Fz) Ow ((t, [v1, v2]) :: Tp) H := by
  obtain ⟨t, vs, rfl, e, h'⟩ := h.ftup m
  match vs, e, h' with
  | [v1, v2], _, h' => exact ⟨t, v1, v2, rfl, h'⟩
theorem St.fint {i : Int} (h : St H0 M pu Fz Ow Tp H) (m : (v, .int i) ∈ Fz) : v = .int i := by
  obtain ⟨Z, S, h1, h2, h3, h4, h5, h6, h7, h8⟩ := h
  obtain ⟨T, r, z⟩ := h2 _ m
  cases r
  rfl
/-- the heap at a tuple that is known -/
theorem St.tp {t : Addr} {vs : List V} (h : St H0 M pu Fz Ow Tp H) (m : (t, vs) ∈ Tp) : H t = some (.tup vs) := by
  obtain ⟨Z, S, h1, h2, h3, h4, h5, h6, h7, h8⟩ := h
  exact h6 _ m
/-- the heap at a readable list -/
theorem St.rlst {ds : List D} (h : St H0 M pu Fz Ow Tp H) (r : Rdb Fz Ow Tp v (.list ds)) : ∃ a vs T, v = .ref a ∧ H a = some (.lst vs) ∧ Reps H T vs ds := by
  obtain ⟨T, r, _⟩ := h.rd r
  cases r with
  | lst e rs => exact ⟨_, _, _, rfl, e, rs⟩
theorem St.rints {ns : List Int} (h : St H0 M pu Fz Ow Tp H) (r : Rdb Fz Ow Tp v (dI ns)) : ∃ a, v = .ref a ∧ H a = some (.lst (ns.map V.int)) := by
  obtain ⟨a, vs, T, rfl, e, rs⟩ := h.rlst r
  obtain ⟨_, rfl⟩ := Reps.intsInv rs
  exact ⟨a, rfl, e⟩
/-- a value taken out of what is owned, as a whole tree -/
inductive Take (Tp : List (Addr × List V)) : List (V × D) → V → D → List (V × D) → Prop
  | non {Ow : List (V × D)} : Take Tp Ow .non .none Ow
  | bl {Ow : List (V × D)} (b : Bool) : Take Tp Ow (.bl b) (.bool b) Ow
  | int {Ow : List (V × D)} (i : Int) : Take Tp Ow (.int i) (.int i) Ow
  | str {Ow : List (V × D)} (x : Str) : Take Tp Ow (.str x) (.str x) Ow
  | own {Ow Ow' : List (V × D)} {v : V} {d : D} : Pick (v, d) Ow Ow' → Take Tp Ow v d Ow'
  | tp0 {Ow : List (V × D)} {t : Addr} : (t, []) ∈ Tp → Take Tp Ow (.ref t) (.tuple []) Ow
  | tp1 {Ow Ow1 : List (V × D)} {t : Addr} {v1 : V} {d1 : D} : (t, [v1]) ∈ Tp → Take Tp Ow v1 d1 Ow1 → Take Tp Ow (.ref t) (.tuple [d1]) Ow1
  | tp2 {Ow Ow1 Ow2 : List (V × D)} {t : Addr} {v1 v2 : V} {d1 d2 : D} : (t, [v1, v2]) ∈ Tp → Take Tp Ow v1 d1 Ow1 → Take Tp Ow1 v2 d2 Ow2 → Take Tp Ow (.ref t) (.tuple [d1, d2]) Ow2
  | tp3 {Ow Ow1 Ow2 Ow3 : List (V × D)} {t : Addr} {v1 v2 v3 : V} {d1 d2 d3 : D} : (t, [v1, v2, v3]) ∈ Tp → Take Tp Ow v1 d1 Ow1 → Take Tp Ow1 v2 d2 Ow2 → Take Tp Ow2 v3 d3 Ow3 → Take Tp Ow (.ref t) (.tuple [d1, d2, d3]) Ow3
inductive Takes (Tp : List (Addr × List V)) : List (V × D) → List V → List D → List (V × D) → Prop
  | nil {Ow : List (V × D)} : Takes Tp Ow [] [] Ow
  | cons {Ow Ow1 Ow2 : List (V × D)} {v : V} {vs : List V} {d : D} {ds : List D} : Take Tp Ow v d Ow1 → Takes Tp Ow1 vs ds Ow2 → Takes Tp Ow (v :: vs) (d :: ds) Ow2
theorem Take.reps (hT : ∀ x ∈ Tp, H x.1 = some (.tup x.2)) (k : Take Tp Ow v d Ow') : ∀ {S : List Addr}, Reps H S (Ow.map (·.1)) (Ow.map (·.2)) → ∃ S1 S2, Rep H S1 v d ∧ Reps H S2 (Ow'.map (·.1)) (Ow'.map (·.2)) ∧ S.Perm (S1 ++ S2) := by
  induction k with
  | non => exact fun h => ⟨_, _, .non, h, .refl _⟩
  | bl b => exact fun h => ⟨_, _, .bl b, h, .refl _⟩
  | int i => exact fun h => ⟨_, _, .int i, h, .refl _⟩
  | str x => exact fun h => ⟨_, _, .str x, h, .refl _⟩
  | own p => exact fun h => Reps.pick p h
  | tp0 m => exact fun h => ⟨_, _, .tup (hT _ m) .nil, h, .refl _⟩
  | tp1 m _ i1 =>
    intro S h
    obtain ⟨S1, S2, r1, r2, p1⟩ := i1 h
    refine ⟨_, _, .tup (hT _ m) (.cons r1 .nil), r2, ?_⟩
    rw [List.append_nil]
    exact p1
  | tp2 m _ _ i1 i2 =>
    intro S h
    obtain ⟨S1, S2, r1, r2, p1⟩ := i1 h
    obtain ⟨S3, S4, r3, r4, p2⟩ := i2 r2
    refine ⟨_, _, .tup (hT _ m) (.cons r1 (.cons r3 .nil)), r4, ?_⟩
    rw [List.append_nil, List.append_assoc]
    exact p1.trans (List.Perm.append_left _ p2)
  | tp3 m _ _ _ i1 i2 i3 =>
    intro S h
    obtain ⟨S1, S2, r1, r2, p1⟩ := i1 h
    obtain ⟨S3, S4, r3, r4, p2⟩ := i2 r2
    obtain ⟨S5, S6, r5, r6, p3⟩ := i3 r4
    refine ⟨_, _, .tup (hT _ m) (.cons r1 (.cons r3 (.cons r5 .nil))), r6, ?_⟩
    rw [List.append_nil, List.append_assoc, List.append_assoc]
    exact p1.trans (List.Perm.append_left _ (p2.trans (List.Perm.append_left _ p3)))
theorem Takes.reps {vs : List V} {ds : List D} (hT : ∀ x ∈ Tp, H x.1 = some (.tup x.2)) (k : Takes Tp Ow vs ds Ow') : ∀ {S : List Addr}, Reps H S (Ow.map (·.1)) (Ow.map (·.2)) → ∃ S1 S2, Reps H S1 vs ds ∧ Reps H S2 (Ow'.map (·.1)) (Ow'.map (·.2)) ∧ S.Perm (S1 ++ S2) := by
  induction k with
  | nil => exact fun h => ⟨_, _, .nil, h, .refl _⟩
  | cons k1 _ ih =>
    intro S h
    obtain ⟨S1, S2, r1, r2, p1⟩ := k1.reps hT h
    obtain ⟨S3, S4, r3, r4, p2⟩ := ih r2
    refine ⟨_, _, .cons r1 r3, r4, ?_⟩
    rw [List.append_assoc]
    exact p1.trans (List.Perm.append_left _ p2)
theorem St.take (h : St H0 M pu Fz Ow Tp H) (k : Take Tp Ow v d Ow') : St H0 M pu Fz ((v, d) :: Ow') Tp H := by
  obtain ⟨Z, S, h1, h2, h3, h4, h5, h6, h7, h8⟩ := h
  obtain ⟨S1, S2, r1, r2, pm⟩ := k.reps h6 h3
  exact ⟨Z, S1 ++ S2, h1, h2, .cons r1 r2, pm.nodup_iff.mp h4, fun a m => h5 a (pm.mem_iff.mpr m), h6, fun p b e => ⟨(h7 p b e).1, (h7 p b e).2.1, fun m => (h7 p b e).2.2 (pm.mem_iff.mpr m)⟩, h8⟩
/-- a new tuple -/
theorem St.mkTup {p : Addr} {vs : List V} (h : St H0 M pu Fz Ow Tp H) (hp : H p = Option.none) : St H0 M pu Fz Ow ((p, vs) :: Tp) (upd H p (.tup vs)) := by
  have k := same_upd (o := .tup vs) hp
  obtain ⟨Z, S, h1, h2, h3, h4, h5, h6, h7, h8⟩ := h.same k
  refine ⟨Z, S, h1, h2, h3, h4, h5, fun x m => ?_, h7, h8⟩
  rcases List.mem_cons.mp m with rfl | m
  · exact upd_same
  · exact h6 x m
/-- a new list of things that are taken -/
theorem St.mkLst {p : Addr} {vs : List V} {ds : List D} (h : St H0 M pu Fz Ow Tp H) (hp : H p = Option.none) (t : Takes Tp Ow vs ds Ow') : St H0 M pu Fz ((.ref p, .list ds) :: Ow') Tp (upd H p (.lst vs)) := by
  obtain ⟨Z0, S0, g1, g2, g3, g4, g5, g6, g7, g8⟩ := h
  have pS0 : p ∉ S0 := fun m => by
    obtain ⟨xs, q⟩ := Reps.dom _ _ _ g3 p m
    rw [hp] at q
    cases q
  have h : St H0 M pu Fz Ow Tp H := ⟨Z0, S0, g1, g2, g3, g4, g5, g6, g7, g8⟩
  have k := same_upd (o := .lst vs) hp
  have nz : ∀ a, Z0 a ∨ M = some a → a ≠ p := fun a z e => by
    obtain ⟨o, q⟩ := g8 a z
    rw [e, hp] at q
    cases q
  obtain ⟨S1, S2, r1, r2, pm⟩ := t.reps g6 g3
  have k1 : ∀ a ∈ S1, ∀ o, H a = some o → upd H p (.lst vs) a = some o := fun a m o e => k a o e
  refine ⟨Z0, (p :: S1) ++ S2, fun a o e m => ⟨(g1 a o e m).1, k a o (g1 a o e m).2⟩, fun x m => ?_, .cons (.lst upd_same (Reps.mono (fun t xs e => k t _ e) _ _ _ r1 k1)) (Reps.mono (fun t xs e => k t _ e) _ _ _ r2 fun a m o e => k a o e), ?_, fun a m => ?_, fun x m => k _ _ (g6 x m), fun q b e => ⟨(g7 q b e).1.mono (k q), (g7 q b e).2.1, fun m => ?_⟩, fun a z => ?_⟩
  · obtain ⟨T, r, z⟩ := g2 x m
    exact ⟨T, Rep.mono (fun t xs e => k t _ e) _ _ _ r fun a _ o e => k a o e, z⟩
  · rw [List.cons_append]
    exact List.nodup_cons.mpr ⟨fun m => pS0 (pm.mem_iff.mpr m), pm.nodup_iff.mp g4⟩
  · rcases List.mem_cons.mp (List.cons_append ▸ m) with rfl | m
    · exact ⟨fun z => nz a (.inl z) rfl, fun z => nz a (.inr z.symm) rfl⟩
    · exact g5 a (pm.mem_iff.mpr m)
  · rcases List.mem_cons.mp (List.cons_append ▸ m) with rfl | m
    · obtain ⟨x, y, z, e2, _⟩ := (g7 q b e).1
      rw [hp] at e2
      cases e2
    · exact (g7 q b e).2.2 (pm.mem_iff.mpr m)
  · obtain ⟨o, e⟩ := g8 a z
    exact ⟨o, k a o e⟩
/-- a new list of ints -/
theorem St.mkInts {p : Addr} {ns : List Int} (h : St H0 M pu Fz Ow Tp H) (hp : H p = Option.none) : St H0 M pu Fz ((.ref p, dI ns) :: Ow) Tp (upd H p (.lst (ns.map V.int))) :=
  h.new (same_upd hp) ⟨[p], .lst upd_same (Reps.intsR ns), by simp, fun a m => by simp at m; rw [m]; exact hp⟩
/-- the list at the front: its items are exchanged for others that are taken -/
theorem St.put {l : Addr} {ds es : List D} (h : St H0 M pu Fz ((.ref l, .list ds) :: Ow) Tp H)
    : ∃ vs, H l = some (.lst vs) ∧ vs.length = ds.length ∧ ∀ us, Takes Tp (vs.zip ds ++ Ow) us es Ow' → St H0 M pu Fz ((.ref l, .list es) :: Ow') Tp (upd H l (.lst us)) := by
  obtain ⟨Z, S, h1, h2, h3, h4, h5, h6, h7, h8⟩ := h
  cases h3 with
  | @cons Sl S' _ _ _ _ r r' =>
    cases r with
    | @lst _ vs Sd _ e rs =>
      have el := rs.length
      refine ⟨vs, e, el, fun us t => ?_⟩
      have q : Reps H (Sd ++ S') ((vs.zip ds ++ Ow).map (·.1)) ((vs.zip ds ++ Ow).map (·.2)) := by
        rw [List.map_append, List.map_append, List.map_fst_zip (by omega), List.map_snd_zip (by omega)]
        exact rs.append r'
      obtain ⟨S1, S2, r1, r2, pm⟩ := t.reps h6 q
      rw [List.cons_append] at h4
      have nd := List.nodup_cons.mp h4
      have nl1 : ∀ a ∈ S1 ++ S2, a ≠ l := fun a m z => nd.1 (z ▸ pm.mem_iff.mpr m)
      have nlz : ¬ Z l := (h5 l (by simp)).1
      have nlt : ∀ t xs, H t = some (.tup xs) → t ≠ l := fun t xs et z => by
        rw [z, e] at et
        cases et
      have kt : ∀ t xs, H t = some (.tup xs) → upd H l (.lst us) t = some (.tup xs) := fun t xs et => by
        rw [upd_ne (nlt t xs et)]
        exact et
      refine ⟨Z, (l :: S1) ++ S2, fun a o ea m => ⟨(h1 a o ea m).1, ?_⟩, fun x m => ?_, .cons (.lst upd_same (Reps.mono kt _ _ _ r1 fun a m o ea => ?_)) (Reps.mono kt _ _ _ r2 fun a m o ea => ?_), ?_, fun a m => ?_, fun x m => kt _ _ (h6 x m), fun p b ep => ?_, fun a z => ?_⟩
      · rw [upd_ne (show a ≠ l from fun z => nlz (z ▸ (h1 a o ea m).1))]
        exact (h1 a o ea m).2
      · obtain ⟨T, r, z⟩ := h2 x m
        refine ⟨T, Rep.mono kt _ _ _ r fun a q o ea => ?_, z⟩
        rw [upd_ne (show a ≠ l from fun y => nlz (y ▸ z a q))]
        exact ea
      · rw [upd_ne (nl1 a (List.mem_append_left _ m))]
        exact ea
      · rw [upd_ne (nl1 a (List.mem_append_right _ m))]
        exact ea
      · rw [List.cons_append]
        exact List.nodup_cons.mpr ⟨fun m => nd.1 (pm.mem_iff.mpr m), pm.nodup_iff.mp nd.2⟩
      · rcases List.mem_cons.mp (List.cons_append ▸ m) with rfl | m
        · exact h5 a (by simp)
        · exact h5 a (by rw [List.cons_append]; exact List.mem_cons_of_mem _ (pm.mem_iff.mpr m))
      · have npl : p ≠ l := fun z => (h7 p b ep).2.2 (by rw [z]; simp)
        refine ⟨(h7 p b ep).1.mono fun o eo => by rw [upd_ne npl]; exact eo, (h7 p b ep).2.1, fun m => ?_⟩
        rcases List.mem_cons.mp (List.cons_append ▸ m) with z | m
        · exact npl z
        · exact (h7 p b ep).2.2 (by rw [List.cons_append]; exact List.mem_cons_of_mem _ (pm.mem_iff.mpr m))
      · by_cases hl : a = l
        · exact ⟨_, by rw [hl]; exact upd_same⟩
        · obtain ⟨o, ea⟩ := h8 a z
          exact ⟨o, by rw [upd_ne hl]; exact ea⟩
theorem Takes.intsT {Tp : List (Addr × List V)} {Ow : List (V × D)} : ∀ (ns : List Int), Takes Tp Ow (ns.map V.int) (ns.map PyData.int) Ow
  | [] => .nil
  | n :: ns => .cons (.int n) (Takes.intsT ns)
/-- an owned list of ints -/
theorem St.putInts {l : Addr} {ns : List Int} (h : St H0 M pu Fz ((.ref l, dI ns) :: Ow) Tp H) : H l = some (.lst (ns.map V.int)) ∧ ∀ ms : List Int, St H0 M pu Fz ((.ref l, dI ms) :: Ow) Tp (upd H l (.lst (ms.map V.int))) := by
  obtain ⟨a, e0, e⟩ := h.rints (.ow List.mem_cons_self)
  cases e0
  refine ⟨e, fun ms => ?_⟩
  obtain ⟨vs, e1, el, k⟩ := h.put (es := ms.map PyData.int) (Ow' := (ns.map V.int).zip (ns.map PyData.int) ++ Ow)
  rw [e] at e1
  cases e1
  have q := k (ms.map V.int) (Takes.intsT ms)
  -- the old ints are dropped
  have dropN : ∀ (xs : List Int) {Ow : List (V × D)} {x : V × D} {H : Hp}, St H0 M pu Fz (x :: ((xs.map V.int).zip (xs.map PyData.int) ++ Ow)) Tp H → St H0 M pu Fz (x :: Ow) Tp H := by
    intro xs
    induction xs with
    | nil => exact fun h => h
    | cons y ys ih => exact fun h => ih ((h.front (.tl .hd)).drop)
  exact dropN ns q
/-- append -/
theorem St.app {l : Addr} {ds : List D} (h : St H0 M pu Fz ((.ref l, .list ds) :: Ow) Tp H) : ∃ vs, H l = some (.lst vs) ∧ vs.length = ds.length ∧ ∀ v d Ow', Take Tp Ow v d Ow' → St H0 M pu Fz ((.ref l, .list (ds ++ [d])) :: Ow') Tp (upd H l (.lst (vs ++ [v]))) := by
  obtain ⟨Z, S, h1, h2, h3, h4, h5, h6, h7, h8⟩ := id h
  cases h3 with
  | @cons Sl S' _ _ _ _ r r' =>
    cases r with
    | @lst _ vs Sd _ e rs =>
      have el := rs.length
      refine ⟨vs, e, el, fun v d Ow' t => ?_⟩
      obtain ⟨vs', e', el', k⟩ := h.put (es := ds ++ [d]) (Ow' := Ow')
      rw [e] at e'
      cases e'
      refine k _ ?_
      have all : ∀ (vs : List V) (ds : List D), vs.length = ds.length → Takes Tp (vs.zip ds ++ Ow) (vs ++ [v]) (ds ++ [d]) Ow' := by
        intro vs
        induction vs with
        | nil =>
          intro ds e
          match ds, e with
          | [], _ => exact .cons t .nil
        | cons y ys ih =>
          intro ds e
          match ds, e with
          | x :: xs, e => exact .cons (.own .hd) (ih xs (by simpa using e))
      exact all vs ds el
mutual
/-- data without a list -/
def nolist : D → Bool
  | .list _ => false
  | .tuple ds => nolists ds
  | .dict _ => false
  | _ => true
def nolists : List D → Bool
  | [] => true
  | d :: ds => nolist d && nolists ds
end
mutual
theorem Rep.nolist : ∀ (d : D) (S : List Addr) (v : V), Rep H S v d → G.nolist d = true → S = []
  | .none, _, _, h, _ => by cases h; rfl
  | .bool b, _, _, h, _ => by cases h; rfl
  | .int i, _, _, h, _ => by cases h; rfl
  | .str x, _, _, h, _ => by cases h; rfl
  | .list ds, _, _, _, e => by simp [G.nolist] at e
  | .tuple ds, _, _, h, e => by
    cases h with
    | tup _ h2 => exact Reps.nolist ds _ _ h2 (by simpa [G.nolist] using e)
  | .dict _, _, _, h, _ => by cases h
theorem Reps.nolist : ∀ (ds : List D) (S : List Addr) (vs : List V), Reps H S vs ds → nolists ds = true → S = []
  | [], _, _, h, _ => by cases h; rfl
  | d :: ds, _, _, h, e => by
    cases h with
    | cons h1 h2 =>
      rw [nolists, Bool.and_eq_true] at e
      rw [Rep.nolist d _ _ h1 e.1, Reps.nolist ds _ _ h2 e.2]
      rfl
end
/-- written data: what is made, item by item -/
def Lit (t : TE) (d : D) : Prop := ∀ (σ : L2.St) (H : Hp) (Q : VK) (H0 : Hp) (M : Option Addr) (pu : Option (Addr × Int)) (Fz Ow : List (V × D)) (Tp : List (Addr × List V)), St H0 M pu Fz Ow Tp H → (∀ v H', St H0 M pu Fz ((v, d) :: Ow) Tp H' → Q v H') → t σ H Q
def LitA (t : TA) (ds : List D) : Prop := ∀ (σ : L2.St) (H : Hp) (Q : List V → Hp → Prop) (H0 : Hp) (M : Option Addr) (pu : Option (Addr × Int)) (Fz Ow : List (V × D)) (Tp : List (Addr × List V)), St H0 M pu Fz Ow Tp H → (∀ vs H', vs.length = ds.length → St H0 M pu Fz ((vs.zip ds).reverse ++ Ow) Tp H' → Q vs H') → t σ H Q
theorem lit_int {i : Int} : Lit (tC (.int i)) (.int i) := fun _ H _ _ _ _ _ _ _ h k => k _ _ (h.take (.int i))
theorem lit_str {x : Str} : Lit (tC (.str x)) (.str x) := fun _ H _ _ _ _ _ _ _ h k => k _ _ (h.take (.str x))
theorem lit_bool {b : Bool} : Lit (tC (.bl b)) (.bool b) := fun _ H _ _ _ _ _ _ _ h k => k _ _ (h.take (.bl b))
theorem lit_none : Lit (tC .non) .none := fun _ H _ _ _ _ _ _ _ h k => k _ _ (h.take .non)
theorem litA_nil : LitA tNil [] := fun _ _ _ _ _ _ _ _ _ h k => k [] _ rfl h
theorem litA_cons {t : TE} {ts : TA} {d : D} {ds : List D} (h1 : Lit t d) (h2 : LitA ts ds) : LitA (tCons t ts) (d :: ds) := fun σ H Q H0 M pu Fz Ow Tp h k =>
  h1 σ H _ H0 M pu Fz Ow Tp h fun v H1 k1 => h2 σ H1 _ H0 M pu Fz _ Tp k1 fun vs H2 el k2 => k (v :: vs) H2 (by simp [el]) (by simpa using k2)
theorem takes_rev {Tp : List (Addr × List V)} {Ow : List (V × D)} : ∀ (vs : List V) (ds : List D) (pre : List (V × D)), vs.length = ds.length → Takes Tp (pre.reverse ++ (vs.zip ds) ++ Ow) vs ds (pre.reverse ++ Ow)
  | [], [], pre, _ => by simpa using Takes.nil
  | v :: vs, d :: ds, pre, e => by
    have pk : ∀ (l r : List (V × D)), Pick (v, d) (l ++ (v, d) :: r) (l ++ r) := fun l => by
      induction l with
      | nil => intro r; exact .hd
      | cons x l ih => intro r; exact .tl (ih r)
    have q := takes_rev (Tp := Tp) (Ow := Ow) vs ds pre (by simpa using e)
    refine .cons (Ow1 := pre.reverse ++ vs.zip ds ++ Ow) (.own ?_) q
    have := pk pre.reverse (vs.zip ds ++ Ow)
    simpa using this
theorem St.unrev (vs : List V) (ds : List D) (h : St H0 M pu Fz ((vs.zip ds).reverse ++ Ow) Tp H) : St H0 M pu Fz (vs.zip ds ++ Ow) Tp H := by
  obtain ⟨Z, S, h1, h2, h3, h4, h5, h6, h7, h8⟩ := h
  have perm : ∀ (l l' : List (V × D)), l.Perm l' → ∀ S, Reps H S (l.map (·.1)) (l.map (·.2)) → ∃ S', Reps H S' (l'.map (·.1)) (l'.map (·.2)) ∧ S.Perm S' := by
    intro l l' pm
    induction pm with
    | nil => exact fun S r => ⟨S, r, .refl _⟩
    | cons x _ ih =>
      intro S r
      cases r with
      | cons r1 r2 =>
        obtain ⟨S', r', p'⟩ := ih _ r2
        exact ⟨_, .cons r1 r', List.Perm.append_left _ p'⟩
    | swap x y l =>
      intro S r
      cases r with
      | @cons Sy _ _ _ _ _ r1 r2 =>
        cases r2 with
        | @cons Sx Sl _ _ _ _ r2 r3 =>
          refine ⟨_, .cons r2 (.cons r1 r3), ?_⟩
          rw [← List.append_assoc, ← List.append_assoc]
          exact List.Perm.append_right _ List.perm_append_comm
    | trans _ _ ih1 ih2 =>
      intro S r
      obtain ⟨S1, r1, p1⟩ := ih1 S r
      obtain ⟨S2, r2, p2⟩ := ih2 S1 r1
      exact ⟨S2, r2, p1.trans p2⟩
  obtain ⟨S', r', pm⟩ := perm _ _ (List.Perm.append_right Ow (List.reverse_perm (vs.zip ds))) S h3
  exact ⟨Z, S', h1, h2, r', pm.nodup_iff.mp h4, fun a m => h5 a (pm.mem_iff.mpr m), h6, fun p b e => ⟨(h7 p b e).1, (h7 p b e).2.1, fun m => (h7 p b e).2.2 (pm.mem_iff.mpr m)⟩, h8⟩
theorem lit_lst {t : TA} {ds : List D} (h1 : LitA t ds) (hl : ds.length ≤ 1000000 := by decide) : Lit (tLst t) (.list ds) := fun σ H Q H0 M pu Fz Ow Tp h k =>
  h1 σ H _ H0 M pu Fz Ow Tp h fun vs H1 el k1 => ⟨by rw [el]; exact Nat.le_trans hl (by decide), fun p hp => k _ _ ((k1.unrev vs ds).mkLst hp (takes_rev vs ds [] el))⟩
theorem lit_tup {t : TA} {ds : List D} (h1 : LitA t ds) (hl : ds.length ≤ 1000000 := by decide) : Lit (tTup t) (.tuple ds) := fun σ H Q H0 M pu Fz Ow Tp h k =>
  h1 σ H _ H0 M pu Fz Ow Tp h fun vs H1 el k1 => ⟨by rw [el]; exact Nat.le_trans hl (by decide), fun p hp => by
    have q := (k1.unrev vs ds).mkTup (vs := vs) hp
    obtain ⟨Z, S, h1, h2, h3, h4, h5, h6, h7, h8⟩ := q
    have h6' := h6 _ List.mem_cons_self
    rw [List.map_append, List.map_append, List.map_fst_zip (by omega), List.map_snd_zip (by omega)] at h3
    obtain ⟨S1, S2, u1, u2, eS, eu, r1, r2⟩ := h3.split
    have e1 : u1 = vs ∧ u2 = Ow.map (·.1) := by
      have l1 := r1.length
      have := List.append_inj eu (by omega)
      exact ⟨this.1.symm, this.2.symm⟩
    obtain ⟨rfl, rfl⟩ := e1
    refine k _ _ ⟨Z, S, h1, h2, ?_, h4, h5, fun x m => h6 x (List.mem_cons_of_mem _ m), h7, h8⟩
    rw [eS]
    exact .cons (.tup h6' r1) r2⟩
theorem St.enter {S : List Addr} {vs : List V} {ds : List D} (h : Reps H S vs ds) : St H .none .none (vs.zip ds) [] [] H := by
  have el := h.length
  refine ⟨fun a => ∃ o, H a = some o, [], fun a o e _ => ⟨⟨o, e⟩, e⟩, fun x m => ?_, .nil, List.nodup_nil, fun _ z => (nomatch z), fun _ z => (nomatch z), fun _ _ z => (nomatch z), fun a z => ?_⟩
  · have rs' : Reps H S ((vs.zip ds).map (·.1)) ((vs.zip ds).map (·.2)) := by
      rw [List.map_fst_zip (by omega), List.map_snd_zip (by omega)]
      exact h
    obtain ⟨T, r, z⟩ := reps_of_mem rs' m
    refine ⟨T, r, fun a q => ?_⟩
    obtain ⟨xs, e⟩ := Rep.dom _ _ _ r a q
    exact ⟨_, e⟩
  · rcases z with z | z
    · exact z
    · cases z
theorem St.leave (h : St H0 .none pu Fz ((v, d) :: Ow) Tp H) : Same H0 H ∧ New H0 H v d := by
  obtain ⟨Z, S, h1, h2, h3, h4, h5, h6, h7, h8⟩ := h
  refine ⟨fun a o e => (h1 a o e (by intro z; cases z)).2, ?_⟩
  cases h3 with
  | @cons S1 S2 _ _ _ _ r _ =>
    refine ⟨S1, r, (List.nodup_append.mp h4).1, fun a m => ?_⟩
    cases q : H0 a with
    | none => rfl
    | some o => exact absurd (h1 a o q (by intro z; cases z)).1 (h5 a (List.mem_append_left _ m)).1
end
/-- what a def makes of trees: W says of the arguments what the result may be -/
abbrev Tw := List D → (D → Prop) → Prop
/-- a def that changes nothing, and whose lists are new -/
def spT (W : Tw) : Sp := fun vs H Q _ => ∃ S ds G, Reps H S vs ds ∧ W ds G ∧ ∀ d v H', G d → Same H H' → New H H' v d → Q v H'
/-- a def that draws at most c times from the purse, its first argument -/
def spP (c : Int) (W : Tw) : Sp := fun vs H Q _ => ∃ p b vs' S ds G, vs = .ref p :: vs' ∧ PuAt H p b ∧ b + c ≤ 2 ^ 100 ∧ Reps H S vs' ds ∧ p ∉ S ∧ W ds G ∧ ∀ d v H', G d → (∀ a o, H a = some o → a ≠ p → H' a = some o) → PuAt H' p (b + c) → New H H' v d → Q v H'
section
variable {H0 H H' : Hp} {M : Option Addr} {pu : Option (Addr × Int)} {Fz Ow Ow' : List (V × D)} {Tp : List (Addr × List V)} {v : V} {d : D} {Q : VK} {E : XK} {W : Tw} {vs : List V} {ds : List D}
theorem St.call (h : St H0 M pu Fz Ow Tp H) (r : Rdbs Fz Ow Tp vs ds) (w : W ds fun d => ∀ v H', St H0 M pu Fz ((v, d) :: Ow) Tp H' → Q v H') : spT W (vs ++ []) H Q E0 := by
  obtain ⟨T, r, _⟩ := h.rds r
  rw [List.append_nil]
  exact ⟨T, ds, _, r, w, fun d v H' k s n => k v H' (h.new s n)⟩
end
end G
namespace G
open PySem PySem.Spec PyProof.Rows L2
/-- no repr is under way -/
abbrev Bare (A : Around) : Prop := A.guards = some []
theorem Bare.deeper {A : Around} (h : Bare A) (env : Env) : Bare (A.deeper env) := h
/-- a def's promise, called where no repr is under way -/
structure FnG (P : Program) (w : World) (K : PySem.W.Frag) (mg : Str → Option Value) (base : Heap) (CX : CXT) (k : Nat) (f : Addr) (fd : FuncData) (ps : List Str) (sp : Sp) : Prop where
  len : ∀ vs H Q E, sp vs H Q E → vs.length = ps.length
  run : ∀ (A : Around) (outer : List Env) (s : Shared) (H : Hp) (args : Args) (us : List Value) (vs : List V) (Q : VK) (E : XK), Bare A → Room k A → Env0 P w K mg base A outer s H → BindsTo s fd args (ps.zip us) → Vals vs us → sp vs H Q E →
    codeAny (model P w) A (.call (.ref f) args) (CR CX outer P w H s Q E) s
section
variable {P : Program} {w : World} {K : PySem.W.Frag} {mg : Str → Option Value} {base : Heap} {CX : CXT} {k j : Nat} {f : Addr} {fd : FuncData} {ps : List Str} {sp : Sp}
theorem FnG.mono (F : FnG P w K mg base CX j f fd ps sp) (h : j ≤ k) : FnG P w K mg base CX k f fd ps sp :=
  ⟨F.len, fun A o s H args us vs Q E hg hr => F.run A o s H args us vs Q E hg (hr.mono h)⟩
theorem FnG.of (F : FnOk P w K mg base CX k f fd ps sp) : FnG P w K mg base CX k f fd ps sp := ⟨F.len, fun A o s H args us vs Q E _ hr => F.run A o s H args us vs Q E hr⟩
/-- a def by its body: as the layer's rule, with the guards told to the body -/
theorem fn_ofG {name qual : Str} {params : Arguments} {body : List Stmt} {scope : Scope} {dV kV doc pm cdv ct oc : Value} {an od : Option Addr} {osl : Array (Option Value)} {N : List Str}
    (lk : K.lookup f = some ⟨oc, od, .func (PySem.W.fnOf name qual params body scope dV kV doc pm an cdv ct), osl⟩) (hcd : PySem.W.codeIn K cdv qual = true) (S : FnScope N ps scope) (len : ∀ vs H Q E, sp vs H Q E → vs.length = ps.length)
    (hb : ∀ (A : Around) (outer : List Env) (s : Shared) (H : Hp) (vs : List V) (Q : VK) (E : XK), Bare (A.deeper (envOfC qual scope s.heap.objs.size f cdv)) → Room k (A.deeper (envOfC qual scope s.heap.objs.size f cdv)) → sp vs H Q E →
      ∃ t, PSs (cxOf CX P w K mg base N qual scope f cdv A outer s H E) body t ∧ t ⟨fun _ H' => Q .non H', Q, fun _ _ => False, fun _ _ => False⟩ (start N vs) H) :
    FnG P w K mg base CX (k + 1) f (PySem.W.fnOf name qual params body scope dV kV doc pm an cdv ct) ps sp := by
  refine ⟨len, fun A outer s H args us vs Q E hg hr e0 bt r q => ?_⟩
  have keep : ∀ b o, base.get? b = some o → s.heap.get? b = some o := fun b o e => (e0.bs b o e).1
  have KX : K.In s.heap := e0.mod.kin.keeps keep
  refine codeAny_call_function hr.depth (KX _ _ lk) rfl S.co S.gen rfl (PySem.W.codeRec_of KX hcd) (bt _ _ _ _ (wpAny_newFunctionEnv_cells S.kind (fun y hy => ?_) fun env he s1 x => ?_))
  · rcases S.par y.1 (List.of_mem_zip (a := y.1) (b := y.2) hy).1 with z | z
    · exact Or.inl z
    · exact Or.inr ⟨z, PySem.W.cellsFrom_some _ _ _ (Or.inl z)⟩
  · subst he
    obtain ⟨t, ht, hq⟩ := hb A outer s H vs Q E (hg.deeper _) (hr.deeper _) q
    refine ⟨(e0.mod.nolimit.keeps keep).keeps x.toInCall.keep, codeAny_func (wpAny_mono (ht.run [] s1 (start N vs) H _ (inv_start S hr.hd e0 (len _ _ _ _ q) r x) hq) (fun fl s' hs => ?_) fun e s' z => z)⟩
    cases fl with
    | next =>
      obtain ⟨_, H', J, z⟩ := hs
      exact ⟨V.non, H', J.os, J.bare, J.base, J.hok, rfl, z⟩
    | ret u =>
      obtain ⟨v, _, H', J, rv, z⟩ := hs
      exact ⟨v, H', J.os, J.bare, J.base, J.hok, rv, z⟩
    | brk => exact hs.elim fun _ z => z.elim fun _ z => z.2.elim
    | cont => exact hs.elim fun _ z => z.elim fun _ z => z.2.elim
/-- .. where no exception leaves the def -/
theorem okG {x qual : Str} {st : Stmt} {N : List Str} (F : Fun K x qual st f fd) (S : FnScope N ps (defScope st)) (len : ∀ vs H Q E, sp vs H Q E → vs.length = ps.length)
    (hb : ∀ (cdv : Value) (A : Around) (outer : List Env) (s : Shared) (H : Hp) (vs : List V) (Q : VK) (E : XK), Bare (A.deeper (envOfC qual (defScope st) s.heap.objs.size f cdv)) → Room k (A.deeper (envOfC qual (defScope st) s.heap.objs.size f cdv)) → sp vs H Q E →
      ∃ t, PSs (cxOf CX0 P w K mg base N qual (defScope st) f cdv A outer s H E).nox (defBody st) t ∧ t ⟨fun _ H' => Q .non H', Q, fun _ _ => False, fun _ _ => False⟩ (start N vs) H) : FnG P w K mg base CX0 (k + 1) f fd ps sp := by
  obtain ⟨oc, od, kV, doc, pm, an, cdv, ct, osl, rfl, lk, hcd⟩ := F.ex
  refine fn_ofG lk hcd S len fun A outer s H vs Q E hg hr q => ?_
  obtain ⟨t, h, z⟩ := hb cdv A outer s H vs Q E hg hr q
  exact ⟨t, h.nox, z⟩
end
section
variable {X : Cx} {CX : CXT} {k : Nat} {f : Addr} {fd : FuncData} {ps ks : List Str} {sp : Sp} {E : XK} {x : Str} {p pos kpos : Pos} {e : Expr} {es : List Expr} {kws : List Keyword} {t tk : TA}
theorem end_callG {pins : List (Addr × Obj)} {σ : L2.St} {H : Hp} {s : Shared} {Q : VK} (hx : Passes CX X E) (I : Inv X pins σ H s) {r : Result} {s' : Shared} (hq : CR CX X.stack X.prog X.w H s Q E r s') : callEnd (EP X pins σ Q) X.xe r s' := by
  match r, hq with
  | .error e, hq => exact hx pins σ H s e s' I hq
  | .ok (.ret u), hq => exact I.after hq
/-- f(e, ..) of a def of the module, all parameters given by place -/
theorem pe_callG (F : FnG X.prog X.w X.K X.mg X.base CX k f fd ps sp) (hb : Bare X.A) (hr : Room k X.A) (hg : Gl X x) (hm : X.mg x = some (.ref f)) (hk : PySem.W.keepIn X.K (.ref f) = true) (bd : Binds X.K fd ps []) (hx : Passes CX X E)
    (ha : PA X (e :: es) t) (hdb : (x == ("__debug__" : Str)) = false := by decide) (he : starEach (e :: es) X.env = (false, eval e X.env) :: starEach es X.env := by rfl) (hpl : (backTo pos (starEach es X.env)).any (·.1) = false := by rfl) :
    PE X (.Call (.Name x p) (e :: es) [] pos) (tCall sp [] E t) := by
  refine ⟨fun pins s σ H Q I h => wpAny_Call_Name_kw (ld_glob I hg hm (PySem.W.callWith_K (h₀ := X.base) I.ok.mod.kin hk (thn (ha.run pos pins s σ H _ I h) fun us s1 ⟨vs, H1, I1, r, q⟩ => ⟨I1.kIn, ?_⟩) he hpl) hdb)⟩
  have r2 : Vals (vs ++ []) (us ++ []) := by
    rw [List.append_nil, List.append_nil]
    exact r
  refine wpAny_call (codeAny_mono (F.run X.A X.stack s1 H1 ⟨us, []⟩ (us ++ []) (vs ++ []) Q E hb hr I1.env0 (bd s1 us I1.kIn (r2.length.symm.trans (F.len _ _ _ _ q))) r2 q) fun r s' hq => end_callG hx I1 hq)
variable {g : List Value → List Value → List Value} {gV : List V → List V → List V}
theorem run_fnkG {pins : List (Addr × Obj)} {σ : L2.St} {H : Hp} {s : Shared} {Q : VK} {us ws : List Value} {vs zs : List V} (F : FnG X.prog X.w X.K X.mg X.base CX k f fd ps sp) (hg : Bare X.A) (hr : Room k X.A) (hb : KBinds X.K fd ps ks g gV) (hx : Passes CX X E)
    (I : Inv X pins σ H s) (r : Vals vs us) (rz : Vals zs ws) (h : sp (gV vs zs) H Q E) : wpAny (model X.prog X.w) X.A (call (.ref f) us (ks.zip ws)) (EP X pins σ Q) X.xe s := by
  have r2 := hb.rel r rz
  exact wpAny_call (codeAny_mono (F.run X.A X.stack s H ⟨us, ks.zip ws⟩ (g us ws) (gV vs zs) Q E hg hr I.env0 (hb.to s us ws I.kIn (r2.length.symm.trans (F.len _ _ _ _ h))) r2 h) fun r s' hq => end_callG hx I hq)
/-- f(k = v, ..): all parameters given by name -/
theorem pe_callK0G (F : FnG X.prog X.w X.K X.mg X.base CX k f fd ps sp) (hb : Bare X.A) (hr : Room k X.A) (hg : Gl X x) (hm : X.mg x = some (.ref f)) (hk : PySem.W.keepIn X.K (.ref f) = true) (kb : KBinds X.K fd ps ks g gV) (hx : Passes CX X E)
    (hkw : PK X kws tk) (hall : (backToKw pos (keywordEach kws X.env)).all (·.1.isSome) = true := by rfl) (hks : (backToKw pos (keywordEach kws X.env)).filterMap (·.1) = ks := by rfl) (hdb : (x == ("__debug__" : Str)) = false := by decide)
    (hpl : ((backTo pos (starEach [] X.env)).any (·.1) || (backToKw pos (keywordEach kws X.env)).any (·.1.isNone)) = false := by rfl) : PE X (.Call (.Name x p) [] kws pos) (tCallK sp gV E tNil tk) := by
  refine ⟨fun pins s σ H Q I h => wpAny_Call_Name_kw (ld_glob I hg hm (PySem.W.callWith_KW0 (h₀ := X.base) I.ok.mod.kin hk hall (thn (hkw.run pos pins s σ H _ I h) fun ws s1 ⟨zs, H1, I1, rz, q⟩ => ⟨I1.kIn, ?_⟩) hpl) hdb)⟩
  rw [hks]
  exact run_fnkG F hb hr kb hx I1 .nil rz q
end
/-- all parameters by name: f i tells which of the keywords' values is the i-th parameter's -/
def gKw (ix : List Nat) (us ws : List Value) : List Value := match us with
  | [] => ix.filterMap fun i => ws[i]?
  | _ :: _ => []
def gKwV (ix : List Nat) (vs zs : List V) : List V := match vs with
  | [] => ix.filterMap fun i => zs[i]?
  | _ :: _ => []
theorem vals_pick {zs : List V} {ws : List Value} (r : Vals zs ws) : ∀ ix : List Nat, Vals (ix.filterMap fun i => zs[i]?) (ix.filterMap fun i => ws[i]?)
  | [] => .nil
  | i :: ix => by
    cases e : zs[i]? with
    | none =>
      have e2 := r.none_of e
      rw [List.filterMap_cons_none e, List.filterMap_cons_none e2]
      exact vals_pick r ix
    | some v =>
      obtain ⟨u, e2, ru⟩ := r.get e
      rw [List.filterMap_cons_some e, List.filterMap_cons_some e2]
      exact .cons ru (vals_pick r ix)
theorem kb_of {K : PySem.W.Frag} {fd : FuncData} {ps ks : List Str} {ix : List Nat} (h0 : 0 < ps.length) (h : ∀ ws : List Value, (ix.filterMap fun i => ws[i]?).length = ps.length → bindArgs fd ⟨[], ks.zip ws⟩ = pure (ps.zip (ix.filterMap fun i => ws[i]?))) : KBinds K fd ps ks (gKw ix) (gKwV ix) := by
  refine ⟨fun s us ws _ hl => ?_, fun {vs us zs ws} r rz => ?_⟩
  · cases us with
    | nil => exact .of_eq (h ws hl)
    | cons u us =>
      change ([] : List Value).length = ps.length at hl
      simp at hl
      omega
  · cases r with
    | nil => exact vals_pick rz ix
    | cons _ _ => exact .nil
theorem law_callG {P : Program} {w : World} {K : PySem.W.Frag} {mg mb : Str → Option Value} {CX : CXT} {k : Nat} {fa a : Addr} {fd : FuncData} {x : Str} {sp : Sp} {s : Shared} {vs : List Value} {ns : List Int}
    (KX : K.In s.heap) (hns : s.heap.Ns mainGlobals mg) (hb : s.heap.Ns builtinsNs mb) (hbb : ∀ y : Str, y ≠ "__name__" → mb y = bootBuiltins y) (hlim : s.heap.NoLimit) (hg : s.gens = #[])
    (ha : s.heap.get? a = some { cls := .type "list", data := .seq vs.toArray }) (hi : IntsAre vs ns) (hl : ns.length ≤ sizeLine) (hr : Room k callerA)
    (F : ∀ base : Heap, K.In base → base.Ns mainGlobals mg → FnG P w K mg base CX k fa fd [x] sp) (hbind : ∀ (s : Shared) (u : Value), BindsTo s fd ⟨[u], []⟩ [(x, u)])
    (hsp : ∀ H : Hp, Only H → SqL K H a (ns.map V.int) → sp [.ref a] H (fun v _ => v = .bl true) fun _ _ _ => False) (hCX : ∀ H e s', CX [] H s (fun _ _ _ => False) e s' → False) :
    codeAny (model P w) callerA (.call (.ref fa) ⟨[.ref a], []⟩) (fun r s' => r = .ok (.ret (.bool true)) ∧ OldK s.heap s'.heap ∧ s'.os = s.os ∧ AllBare s'.gens) s := by
  have rv : Vals (ns.map V.int) vs := vals_ints hi
  have lenV : vs.length = ns.length := by rw [← rv.length, List.length_map]
  -- for a heap H that tracks the script alone, or nothing
  have main : ∀ H : Hp, Only H → SqL K H a (ns.map V.int) → HOk P w H s.heap → (∀ b, H b ≠ none → b = a) → (H a ≠ none → K.lookup a = none) →
      codeAny (model P w) callerA (.call (.ref fa) ⟨[.ref a], []⟩) (fun r s' => r = .ok (.ret (.bool true)) ∧ OldK s.heap s'.heap ∧ s'.os = s.os ∧ AllBare s'.gens) s := fun H hO hS hok hA hK => by
    have dictless : ∀ {b : Addr} {o : Obj} {es : Array DictEntry} {ep : Nat}, s.heap.get? b = some o → o.data = .dict es ep → H b = none := fun {b o es ep} e d => by
      cases z : H b with
      | none => rfl
      | some u =>
        rw [hA b (by rw [z]; intro q; cases q), ha] at e
        cases e
        cases (show Data.seq vs.toArray _ = Data.dict es ep from d)
    have nsB : ∀ {b : Addr} {m : Str → Option Value}, s.heap.Ns b m → (hidT s.heap H).Ns b m := fun {b m} ⟨o, es, ep, e, d, r⟩ => ⟨o, es, ep, hidT_get e (dictless e d), d, r⟩
    have kinB : K.In (hidT s.heap H) := fun b o e => hidT_get (KX b o e) (by
      cases z : H b with
      | none => rfl
      | some u =>
        have eb := hA b (by rw [z]; intro q; cases q)
        subst eb
        rw [hK (by rw [z]; intro q; cases q)] at e
        cases e)
    obtain ⟨mc, l1, l2⟩ := hlim
    have e0 : Env0 P w K mg (hidT s.heap H) callerA [] s H := ⟨rfl, ⟨kinB, nsB hns, ⟨mb, nsB hb, hbb⟩, ⟨mc, nsB l1, l2⟩⟩, fun b o e => of_hidT e, Nat.le_of_eq (hidT_size _ _), trivial, fun b z => (nomatch (show b ∈ ([] : List Addr) from z)), hok, .of_eq hg⟩
    refine codeAny_mono ((F _ kinB (nsB hns)).run callerA [] s H ⟨[.ref a], []⟩ [.ref a] [.ref a] _ _ rfl hr e0 (hbind s (.ref a)) (.cons rfl .nil) (hsp H hO hS)) fun r s' h => ?_
    match r, h with
    | .error e, h => exact (hCX H e s' h).elim
    | .ok (.ret u), ⟨v, H', os, bare, un, hok', r', q⟩ =>
      have q' : v = .bl true := q
      subst q'
      obtain rfl : u = Value.bool true := r'
      refine ⟨rfl, OldK.of_keep fun b o e => ?_, os, bare⟩
      cases z : H b with
      | none => exact un.keep b o e z (fun m => nomatch (show b ∈ ([] : List Addr) from m)) (fun m => nomatch m)
      | some u =>
        rcases hO b with y | ⟨ob, xs, y⟩
        · rw [z] at y
          cases y
        · have e1 := (hok b _ y).1
          rw [e] at e1
          cases e1
          exact (hok' b _ (un.frzs b _ _ y)).1
  cases hk : K.lookup a with
  | some o =>
    have e := KX a o hk
    rw [ha] at e
    cases e
    exact main (fun _ => none) (fun _ => .inl rfl) (.inr ⟨_, vs.toArray, _, hk, rfl, rfl, rfl, by rw [List.size_toArray, lenV]; exact hl, by simpa using rv⟩) (fun b u z => nomatch z) (fun b z => absurd rfl z) fun z => absurd rfl z
  | none =>
    have at_a : (fun b : Addr => if b = a then some (HO.frz { cls := .type "list", data := .seq vs.toArray } (.lst (ns.map V.int))) else none) a = some (HO.frz { cls := .type "list", data := .seq vs.toArray } (.lst (ns.map V.int))) := if_pos rfl
    have off : ∀ b, b ≠ a → (fun b : Addr => if b = a then some (HO.frz { cls := .type "list", data := .seq vs.toArray } (.lst (ns.map V.int))) else none) b = none := fun b h => if_neg h
    refine main (fun b => if b = a then some (.frz { cls := .type "list", data := .seq vs.toArray } (.lst (ns.map V.int))) else none) (fun b => ?_) (.inl (.inr ⟨_, at_a⟩)) (fun b u z => ?_) (fun b z => ?_) fun _ => hk
    · by_cases h : b = a
      · exact .inr ⟨_, _, by subst h; exact at_a⟩
      · exact .inl (off b h)
    · by_cases h : b = a
      · subst h
        rw [at_a] at z
        cases z
        exact ⟨ha, by rw [List.length_map]; exact hl, vs, _, rv, ha⟩
      · rw [off b h] at z
        cases z
    · exact Classical.byContradiction fun h => z (off b h)
theorem walk_ofG {l : PySem.W.OpenLaw} {n k : Nat} {q : Program} {loose : List Str} {XP : (Str → Option Value) → Heap → Prop} {YP : World → Heap → Prop} {d : DefRec} {K : Params → PySem.W.Frag} {CX : World → CXT} {sp : World → Sp} {x : Str}
    (hn : l.most = some n) (hn2 : n ≤ sizeLine) (hdf : d.params.defaults = []) (hr : Room k callerA) (hY : ∀ (w : World) (h : Heap), YP w h → (K w.params).In h)
    (F : ∀ (w : World) (mg : Str → Option Value) (fa : Addr) (h : Heap), (K w.params).In h → h.Ns mainGlobals mg → mg d.name = some (.ref fa) →
      ∃ fd : FuncData, (∀ (s : Shared) (u : Value), BindsTo s fd ⟨[u], []⟩ [(x, u)]) ∧ ∀ base : Heap, (K w.params).In base → base.Ns mainGlobals mg → FnG l.prog w (K w.params) mg base (CX w) k fa fd [x] (sp w))
    (hsp : ∀ (w : World) (H : Hp) (a : Addr) (ns : List Int), ns.length ≤ n → (∀ z ∈ ns, Builtin.Int.intBits z ≤ 1048576) → Only H → SqL (K w.params) H a (ns.map V.int) → sp w [.ref a] H (fun v _ => v = .bl true) fun _ _ _ => False)
    (hCX : ∀ (w : World) (H : Hp) (s : Shared) (e : Value) (s' : Shared), CX w [] H s (fun _ _ _ => False) e s' → False) : PySem.W.WalkO q loose XP YP l.row.toRowW d [] (fun f vs => PySem.call f vs) :=
  Att.attach_callB hn hdf fun w _ s1 mg mb fa _ _ _ _ a vs ns G Y _ _ _ hmg hobj hints hlen hbits hg => by
    have KX := hY w _ Y
    obtain ⟨fd, hb, hF⟩ := F w mg fa _ KX G.T.g hmg
    exact law_callG KX G.T.g G.T.b G.T.builtins G.T.nolimit hg hobj hints (Nat.le_trans hlen hn2) hr hF hb (fun H hO hS => hsp w H a ns hlen hbits hO hS) fun H e s' => hCX w H s1 e s'
section
variable {X : Cx}
/-- repr of plain data -/
def rRepr (K : PySem.W.Frag) : List V → Hp → VK → Prop := fun vs H Q => ∃ x d, vs = [x] ∧ Dp K H x d ∧ d.showable = true ∧ d.depth ≤ 60 ∧ d.shown.length ≤ sizeLine ∧ Q (.str d.shown) H
theorem Dp.nodict {K : PySem.W.Frag} {H : Hp} : ∀ (d : D) (x : V), Dp K H x d → d.hasDict = false
  | .none, _, _ => by simp [PyData.hasDict]
  | .bool _, _, _ => by simp [PyData.hasDict]
  | .int _, _, _ => by simp [PyData.hasDict]
  | .str _, _, _ => by simp [PyData.hasDict]
  | .list ds, _, h => by
    cases h with
    | lst _ hs =>
      rw [PyData.hasDict]
      exact all ds _ hs
  | .tuple ds, _, h => by
    cases h with
    | tup _ hs =>
      rw [PyData.hasDict]
      exact all ds _ hs
  | .dict _, _, h => by cases h
where all : ∀ (ds : List D) (vs : List V), DpAll K H vs ds → PyData.hasDictAll ds = false
  | [], _, _ => by simp [PyData.hasDictAll]
  | d :: ds, _, h => by
    cases h with
    | cons h1 h2 =>
      rw [PyData.hasDictAll, Dp.nodict d _ h1, all ds _ h2]
      rfl
theorem cr_repr (hg : Bare X.A) (hu : X.A.units + 64 < cLine) : CallR X (.builtin "repr") (rRepr X.K) := by
  intro pins s σ H xs us Q I r h
  obtain ⟨x, d, rfl, hd, sh, dp, sz, q⟩ := h
  obtain ⟨u, rfl, rx⟩ := vals1 r
  obtain ⟨as, hr⟩ := Dp.reads I d x u hd rx
  have nd := Dp.nodict d x hd
  cases d with
  | none =>
    cases hd
    cases rx
    exact PySem.P.repr_of_none ⟨.str _, H, I.tok _, ⟨_, rfl⟩, q⟩
  | bool b =>
    cases hd
    cases rx
    refine PySem.P.repr_of_bool ⟨.str _, H, I.tok _, ⟨_, rfl⟩, ?_⟩
    cases b <;> exact q
  | int i =>
    cases hd
    obtain ⟨t, rfl⟩ := rx
    refine PySem.P.repr_of_int (by simpa [PyData.showable] using sh) ⟨.str _, H, I.tok _, ⟨_, rfl⟩, q⟩
  | str z =>
    cases hd
    obtain ⟨t, rfl⟩ := rx
    exact PySem.P.repr_of_str ⟨.str _, H, I.tok _, ⟨_, rfl⟩, q⟩ (by simpa [PyData.shown] using sz)
  | list ds =>
    cases hd
    cases rx
    exact repr_of_reads' hr sh (fun z => by rw [nd] at z; cases z) hg (by omega) (fun _ _ e => e) (fun h' u tk k => ⟨.str _, H, I.kept k, ⟨_, rfl⟩, q⟩) sz
  | tuple ds =>
    cases hd
    cases rx
    exact repr_of_reads' hr sh (fun z => by rw [nd] at z; cases z) hg (by omega) (fun _ _ e => e) (fun h' u tk k => ⟨.str _, H, I.kept k, ⟨_, rfl⟩, q⟩) sz
  | dict _ => cases hd
/-- a ** b of great numbers -/
def CPowW (i j : Int) : Prop := 0 ≤ j ∧ (Builtin.Int.intBits i : Int) * j ≤ 2 ^ 27
theorem op_powW : OpR X (binaryOp .Pow) (rI CPowW fun i j => .int (i ^ j.toNat)) := opI fun _ _ _ _ _ _ _ hc q => pow_int hc.1 hc.2 q
/-- a * b: together below a hundred million bits -/
def CMulB (i j : Int) : Prop := Builtin.Int.intBits i + Builtin.Int.intBits j < 100000000
theorem CMulB.ok {i j : Int} (h : CMulB i j) : IntMulOk i j := by
  have e : bitsLine = 134217728 := by decide
  unfold IntMulOk
  intro z
  rw [Bool.and_eq_true] at z
  have z2 := z.2
  unfold Builtin.Int.intTooBig at z2
  have z3 := of_decide_eq_true z2
  rw [e] at z3
  unfold CMulB at h
  omega
theorem op_mulB : OpR X (binaryOp .Mult) (rI CMulB fun i j => .int (i * j)) := opI fun _ _ _ _ _ _ _ hc q => mul_int q hc.ok
end
end G
namespace G
open PySem PySem.Spec PyProof.Rows L2
/-- the built-in names that no def hides -/
structure Blt (mg : Str → Option Value) : Prop where
  len : mg "len" = none
  range : mg "range" = none
  max : mg "max" = none
  min : mg "min" = none
  abs : mg "abs" = none
  int : mg "int" = none
  list : mg "list" = none
  tuple : mg "tuple" = none
  repr : mg "repr" = none
  all : mg "all" = none
  any : mg "any" = none
  sum : mg "sum" = none
  sorted : mg "sorted" = none
  isinstance : mg "isinstance" = none
  set : mg "set" = none
  enumerate : mg "enumerate" = none
  zip : mg "zip" = none
  str : mg "str" = none
  divmod : mg "divmod" = none
  dict : mg "dict" = none
  bool : mg "bool" = none
  reversed : mg "reversed" = none
/-- a def of the top as it stands -/
structure DefAt (K : PySem.W.Frag) (mg : Str → Option Value) (x : Str) (st : Stmt) (f : Addr) (fd : FuncData) (ps : List Str) : Prop where
  F : Fun K x x st f fd
  gl : mg x = some (.ref f)
  bd : Binds K fd ps []
theorem DefAt.kp {K : PySem.W.Frag} {mg : Str → Option Value} {x : Str} {st : Stmt} {f : Addr} {fd : FuncData} {ps : List Str} (d : DefAt K mg x st f fd ps) : PySem.W.keepIn K (.ref f) = true := d.F.kp
theorem szle {n : Nat} (h : n ≤ 10000000) : n ≤ sizeLine := Nat.le_trans h (by decide)
theorem szlt {n : Nat} (h : n ≤ 10000000) : n < sizeLine := Nat.lt_of_le_of_lt h (by decide)
section
variable {H : Hp} {S : List Addr} {vs : List V}
theorem Reps.one {d1 : D} (r : Reps H S vs [d1]) : ∃ v1, vs = [v1] := by
  cases r with
  | cons _ r => cases r; exact ⟨_, rfl⟩
theorem Reps.two {d1 d2 : D} (r : Reps H S vs [d1, d2]) : ∃ v1 v2, vs = [v1, v2] := by
  cases r with
  | cons _ r => obtain ⟨_, rfl⟩ := Reps.one r; exact ⟨_, _, rfl⟩
/-- the entry of a def that only reads -/
theorem enter1 {d1 : D} (r : Reps H S vs [d1]) : ∃ v1, vs = [v1] ∧ St H .none .none [(v1, d1)] [] [] H := by
  obtain ⟨v1, rfl⟩ := r.one
  exact ⟨v1, rfl, St.enter r⟩
theorem enter2 {d1 d2 : D} (r : Reps H S vs [d1, d2]) : ∃ v1 v2, vs = [v1, v2] ∧ St H .none .none [(v1, d1), (v2, d2)] [] [] H := by
  obtain ⟨v1, v2, rfl⟩ := r.two
  exact ⟨v1, v2, rfl, St.enter r⟩
end
section
variable {K : PySem.W.Frag} {g : TG} {tb : TS} {De : Ends} {σ : L2.St} {H : Hp}
/-- for over a list of ints: the word speaks of the part that is done -/
theorem for_ints {a : Addr} {ns : List Int} (Pv : List Int → L2.St → Hp → Prop) (h0 : Pv [] σ H) (hl : ∀ pre σ H, Pv pre σ H → H a = some (.lst (ns.map V.int)))
    (hs : ∀ pre n post σ H, ns = pre ++ n :: post → Pv pre σ H → g (.int n) σ H fun σ2 H2 => tb ⟨Pv (pre ++ [n]), De.rt, De.nx, Pv (pre ++ [n])⟩ σ2 H2) (hd : ∀ σ H, Pv ns σ H → De.nx σ H) :
    ∃ W : Nat → Nat → L2.St → Hp → Prop, (∃ m, W 0 m σ H) ∧ ∀ i m σ H, W i m σ H →
      ((Itl K a).stop i H ∧ De.nx σ H) ∨ ((Itl K a).go i H ∧ ∃ N : L2.St → Hp → Prop, (∀ σ' H', N σ' H' → ∃ m', m' < m ∧ W (i + 1) m' σ' H') ∧ ∀ x H', (Itl K a).yld i H x H' → g x σ H' fun σ2 H2 => tb { De with nx := N, ct := N, bk := De.nx } σ2 H2) := by
  refine for_list (K := K) (a := a) (xs := ns.map V.int) (fun i σ H => i ≤ ns.length ∧ Pv (ns.take i) σ H) ⟨Nat.zero_le _, h0⟩ (fun i σ H _ h => SqL.of (hl _ _ _ h.2)) (fun i x σ H e h => ?_) (fun σ H h => ?_)
  · rw [List.getElem?_map] at e
    cases q : ns[i]? with
    | none => rw [q] at e; cases e
    | some n =>
      rw [q] at e
      cases e
      have hi : i < ns.length := (List.getElem?_eq_some_iff.mp q).1
      have en : ns[i] = n := (List.getElem?_eq_some_iff.mp q).2
      have e2 : ns = ns.take i ++ n :: ns.drop (i + 1) := by
        rw [← en, List.getElem_cons_drop, List.take_append_drop]
      have e3 : ns.take (i + 1) = ns.take i ++ [n] := by rw [List.take_add_one, q]; rfl
      have e4 : (fun (σ : L2.St) (H : Hp) => i + 1 ≤ ns.length ∧ Pv (ns.take (i + 1)) σ H) = Pv (ns.take i ++ [n]) := by
        funext σ H
        rw [e3]
        exact propext ⟨fun z => z.2, fun z => ⟨hi, z⟩⟩
      show g (.int n) σ H fun σ2 H2 => tb ⟨fun σ H => i + 1 ≤ ns.length ∧ Pv (ns.take (i + 1)) σ H, De.rt, De.nx, fun σ H => i + 1 ≤ ns.length ∧ Pv (ns.take (i + 1)) σ H⟩ σ2 H2
      rw [e4]
      exact hs _ _ _ _ _ e2 h.2
  · have e : ns.take (ns.map V.int).length = ns := by rw [List.length_map, List.take_length]
    rw [e] at h
    exact hd _ _ h.2
end
section
variable {g : TG} {tt : TT} {te : TE} {ws : List Nat} {σ : L2.St} {H1 : Hp} {Dl : Addr} {Qd : Hp → Prop} {K : PySem.W.Frag}
/-- a comprehension over a list of ints -/
theorem lc_ints {a : Addr} {ns : List Int} (Pv : List Int → Hp → Prop) (h0 : Pv [] (upd H1 Dl (.lst []))) (hl : ∀ pre H, Pv pre H → H a = some (.lst (ns.map V.int)))
    (hs : ∀ pre n post H, ns = pre ++ n :: post → Pv pre H → g (.int n) (wipe σ ws) H fun σ2 H2 => wipe σ2 ws = wipe σ ws ∧ tt σ2 H2 fun b H3 =>
      if b = true then te σ2 H3 fun y H4 => ∃ acc, H4 Dl = some (.lst acc) ∧ acc.length < sizeLine ∧ Pv (pre ++ [n]) (upd H4 Dl (.lst (acc ++ [y]))) else Pv (pre ++ [n]) H3) (hd : ∀ H, Pv ns H → Qd H) :
    ∃ W : Nat → Nat → Hp → Prop, (∃ m, W 0 m (upd H1 Dl (.lst []))) ∧ ∀ i m H, W i m H →
      ((Itl K a).stop i H ∧ Qd H) ∨ ((Itl K a).go i H ∧ ∃ Nx : Hp → Prop, (∀ H', Nx H' → ∃ m', m' < m ∧ W (i + 1) m' H') ∧ ∀ x H', (Itl K a).yld i H x H' → g x (wipe σ ws) H' fun σ2 H2 => wipe σ2 ws = wipe σ ws ∧ tt σ2 H2 fun b H3 =>
        if b = true then te σ2 H3 fun y H4 => ∃ acc, H4 Dl = some (.lst acc) ∧ acc.length < sizeLine ∧ Nx (upd H4 Dl (.lst (acc ++ [y]))) else Nx H3) := by
  refine lc_list (K := K) (a := a) (xs := ns.map V.int) (fun i H => i ≤ ns.length ∧ Pv (ns.take i) H) ⟨Nat.zero_le _, h0⟩ (fun i H _ h => SqL.of (hl _ _ h.2)) (fun i x H e h => ?_) (fun H h => ?_)
  · rw [List.getElem?_map] at e
    cases q : ns[i]? with
    | none => rw [q] at e; cases e
    | some n =>
      rw [q] at e
      cases e
      have hi : i < ns.length := (List.getElem?_eq_some_iff.mp q).1
      have en : ns[i] = n := (List.getElem?_eq_some_iff.mp q).2
      have e2 : ns = ns.take i ++ n :: ns.drop (i + 1) := by
        rw [← en, List.getElem_cons_drop, List.take_append_drop]
      have e3 : ns.take (i + 1) = ns.take i ++ [n] := by rw [List.take_add_one, q]; rfl
      have e4 : (fun (H : Hp) => i + 1 ≤ ns.length ∧ Pv (ns.take (i + 1)) H) = Pv (ns.take i ++ [n]) := by
        funext H
        rw [e3]
        exact propext ⟨fun z => z.2, fun z => ⟨hi, z⟩⟩
      show g (.int n) (wipe σ ws) H fun σ2 H2 => wipe σ2 ws = wipe σ ws ∧ tt σ2 H2 fun b H3 =>
        if b = true then te σ2 H3 fun y H4 => ∃ acc, H4 Dl = some (.lst acc) ∧ acc.length < sizeLine ∧ (fun (H : Hp) => i + 1 ≤ ns.length ∧ Pv (ns.take (i + 1)) H) (upd H4 Dl (.lst (acc ++ [y]))) else (fun (H : Hp) => i + 1 ≤ ns.length ∧ Pv (ns.take (i + 1)) H) H3
      rw [e4]
      exact hs _ _ _ _ e2 h.2
  · have e : ns.take (ns.map V.int).length = ns := by rw [List.length_map, List.take_length]
    rw [e] at h
    exact hd _ h.2
end
theorem cutV_to (xs : List V) (n : Nat) : cutV xs none (some (n : Int)) = xs.take n := by
  unfold cutV
  rw [HT.sIx_none, HT.sIx_nat]
  simp
theorem cutV_from (xs : List V) (n : Nat) : cutV xs (some (n : Int)) none = xs.drop n := by
  unfold cutV
  rw [HT.sIx_none, HT.sIx_nat]
  by_cases h : n ≤ xs.length
  · rw [Nat.min_eq_left h]
    exact List.take_of_length_le (by rw [List.length_drop]; omega)
  · rw [Nat.min_eq_right (by omega), List.drop_of_length_le (Nat.le_refl _), List.drop_of_length_le (by omega)]
    simp
theorem at_nat {xs : List V} {i : Int} {k : Nat} {v : V} (hi : i = (k : Int)) (h : xs[k]? = some v) : atI xs i = some v := by
  subst hi
  exact atI_nat h
theorem ints_at {ns : List Int} {k : Nat} {n : Int} (h : ns[k]? = some n) : (ns.map V.int)[k]? = some (.int n) := by
  rw [List.getElem?_map, h]
  rfl
theorem ints_len {ns : List Int} : (ns.map V.int).length = ns.length := List.length_map ..
/-- the ints a, a + 1, .. below b -/
def rg (a b : Int) : List Int := (List.range (b - a).toNat).map fun i => a + (i : Nat)
theorem rgV_map (a b : Int) : rgV a b = (rg a b).map V.int := by
  unfold rgV rg
  rw [List.map_map]
  rfl
theorem map_erase {α β : Type} (f : α → β) : ∀ (l : List α) (k : Nat), (l.map f).eraseIdx k = (l.eraseIdx k).map f
  | [], _ => rfl
  | _ :: _, 0 => rfl
  | x :: l, k + 1 => by simp [map_erase f l k]
theorem rg_length (a b : Int) : (rg a b).length = (b - a).toNat := by unfold rg; rw [List.length_map, List.length_range]
theorem mem_rg {a b x : Int} : x ∈ rg a b ↔ a ≤ x ∧ x < b := by
  unfold rg
  rw [List.mem_map]
  constructor
  · rintro ⟨i, hi, rfl⟩
    rw [List.mem_range] at hi
    omega
  · rintro ⟨h1, h2⟩
    exact ⟨(x - a).toNat, by rw [List.mem_range]; omega, by omega⟩
theorem dec_eq_int {i j : Int} : decide (V.int i = V.int j) = decide (i = j) := by
  by_cases h : i = j
  · subst h; simp
  · rw [decide_eq_false h, decide_eq_false fun e => h (V.int.inj e)]
theorem iteB {b : Bool} {A B : Prop} (h1 : b = true → A) (h2 : b = false → B) : if b = true then A else B := by
  cases b with
  | true => exact iteT (h1 rfl)
  | false => exact iteF (h2 rfl)
/-- an effect as data -/
abbrev dE (e : Int × List Int) : D := .tuple [.int e.1, dI e.2]
end G
namespace G
open PySem PySem.Spec PyProof.Rows L2
mutual
/-- no less than the signs of the text -/
def wd : D → Nat
  | .none => 4
  | .bool _ => 5
  | .int i => i.natAbs.log2 + 3
  | .str x => (reprText x).length
  | .list ds => wds ds + 3
  | .tuple ds => wds ds + 3
  | .dict _ => 0
def wds : List D → Nat
  | [] => 0
  | d :: ds => wd d + 2 + wds ds
end
theorem shownAll_len : ∀ ds : List D, (PyData.shownAll ds).length = ds.length
  | [] => by simp [PyData.shownAll]
  | d :: ds => by simp [PyData.shownAll, shownAll_len ds]
mutual
theorem shown_wd : ∀ d : D, d.hasDict = false → d.shown.length ≤ wd d
  | .none, _ => by
    have e : (PyData.shown .none).length = 4 := rfl
    simp only [wd]
    omega
  | .bool b, _ => by
    have e : (PyData.shown (.bool b)).length ≤ 5 := by cases b <;> decide
    simpa only [wd] using e
  | .int i, _ => by
    have h := int_text_length_le (a := i) (k := i.natAbs.log2 + 1) (by omega) (by omega)
    have e : (PyData.shown (.int i)).length = (toString i).length := by
      show (Str.ofString (toString i)).length = _
      rw [PySem.ofString_length]
    rw [e]
    simp only [wd]
    omega
  | .str x, _ => by simp only [PyData.shown, wd]; exact Nat.le_refl _
  | .list ds, h => by
    have h1 := shownAll_wds ds (by simpa [PyData.hasDict] using h)
    have h2 := listText_len_le (PyData.shownAll ds)
    rw [shownAll_len] at h2
    simp only [PyData.shown, wd]
    omega
  | .tuple ds, h => by
    have h1 := shownAll_wds ds (by simpa [PyData.hasDict] using h)
    have h2 := tupleText_len_le (PyData.shownAll ds)
    rw [shownAll_len] at h2
    simp only [PyData.shown, wd]
    omega
  | .dict _, h => by simp [PyData.hasDict] at h
theorem shownAll_wds : ∀ ds : List D, PyData.hasDictAll ds = false → ((PyData.shownAll ds).map (·.length)).sum + 2 * ds.length ≤ wds ds
  | [], _ => by simp [PyData.shownAll, wds]
  | d :: ds, h => by
    have h' : d.hasDict = false ∧ PyData.hasDictAll ds = false := by simpa [PyData.hasDictAll] using h
    have h1 := shown_wd d h'.1
    have h2 := shownAll_wds ds h'.2
    simp only [PyData.shownAll, wds, List.map_cons, List.sum_cons, List.length_cons]
    omega
end
/-- it may be shown: at most k deep, at most B signs -/
structure Sh (k B : Nat) (d : D) : Prop where
  sh : d.showable = true
  dp : d.depth ≤ k
  wd : wd d ≤ B
theorem Sh.mono {k k' B B' : Nat} {d : D} (h : Sh k B d) (h1 : k ≤ k') (h2 : B ≤ B') : Sh k' B' d := ⟨h.sh, Nat.le_trans h.dp h1, Nat.le_trans h.wd h2⟩
theorem sh_none : Sh 1 5 .none := ⟨by simp [PyData.showable], by simp [PyData.depth], by simp [G.wd]⟩
theorem sh_bool (b : Bool) : Sh 1 5 (.bool b) := ⟨by simp [PyData.showable], by simp [PyData.depth], by simp [G.wd]⟩
theorem log2_of {n : Nat} (h : n < 2 ^ 200) : n.log2 < 200 := PySem.Flt.log2_lt_of (by decide) h
theorem sh_int {i : Int} (h : i.natAbs < 2 ^ 200) : Sh 1 205 (.int i) := by
  have := log2_of h
  exact ⟨by simp [PyData.showable]; omega, by simp [PyData.depth], by simp [G.wd]; omega⟩
theorem sh_all {k B : Nat} : ∀ {ds : List D}, (∀ d ∈ ds, Sh k B d) → PyData.showableAll ds = true ∧ PyData.depthAll ds ≤ k ∧ wds ds ≤ (B + 2) * ds.length
  | [], _ => ⟨by simp [PyData.showableAll], by simp [PyData.depthAll], by simp [wds]⟩
  | d :: ds, h => by
    have h1 := h d List.mem_cons_self
    obtain ⟨a, b, c⟩ := sh_all fun x m => h x (List.mem_cons_of_mem _ m)
    refine ⟨by simp [PyData.showableAll, h1.sh, a], ?_, ?_⟩
    · have := h1.dp
      simp only [PyData.depthAll]
      omega
    · have := h1.wd
      simp only [wds, List.length_cons]
      rw [Nat.mul_add]
      omega
theorem sh_list {k B n : Nat} {ds : List D} (h : ∀ d ∈ ds, Sh k B d) (hn : ds.length ≤ n) : Sh (k + 1) ((B + 2) * n + 3) (.list ds) := by
  obtain ⟨a, b, c⟩ := sh_all h
  have := Nat.mul_le_mul_left (B + 2) hn
  exact ⟨by simpa [PyData.showable] using a, by simp only [PyData.depth]; omega, by simp only [G.wd]; omega⟩
theorem sh_tuple {k B n : Nat} {ds : List D} (h : ∀ d ∈ ds, Sh k B d) (hn : ds.length ≤ n) : Sh (k + 1) ((B + 2) * n + 3) (.tuple ds) := by
  obtain ⟨a, b, c⟩ := sh_all h
  have := Nat.mul_le_mul_left (B + 2) hn
  exact ⟨by simpa [PyData.showable] using a, by simp only [PyData.depth]; omega, by simp only [G.wd]; omega⟩
theorem sh_ints {n : Nat} {gs : List Int} (h : ∀ x ∈ gs, x.natAbs < 2 ^ 200) (hn : gs.length ≤ n) : Sh 2 (207 * n + 3) (dI gs) := by
  refine sh_list (k := 1) (B := 205) (fun d m => ?_) (by rw [List.length_map]; exact hn)
  obtain ⟨x, hx, rfl⟩ := List.mem_map.mp m
  exact sh_int (h x hx)
/-- an effect of moderate size -/
theorem sh_eff {e : Int × List Int} (h1 : e.1.natAbs < 2 ^ 200) (h : ∀ x ∈ e.2, x.natAbs < 2 ^ 200) (hn : e.2.length ≤ 4000) : Sh 3 1700000 (dE e) := by
  refine (sh_tuple (k := 2) (B := 828003) (n := 2) (fun d m => ?_) (by simp)).mono (by omega) (by omega)
  rcases List.mem_cons.mp m with rfl | m
  · exact (sh_int h1).mono (by omega) (by omega)
  · rcases List.mem_cons.mp m with rfl | m
    · exact (sh_ints h hn).mono (by omega) (by omega)
    · cases m
theorem tyL {K : PySem.W.Frag} {H : Hp} {p : Addr} {xs : List V} (h : H p = some (.lst xs)) : tyV K "list" (.ref p) H := Or.inl ⟨rfl, _, SqL.of h⟩
theorem eqvAll_ints : ∀ xs ys : List Int, PyData.eqvAll (xs.map PyData.int) (ys.map PyData.int) = decide (xs = ys)
  | [], [] => by simp [PyData.eqvAll]
  | [], _ :: _ => by simp [PyData.eqvAll]
  | _ :: _, [] => by simp [PyData.eqvAll]
  | x :: xs, y :: ys => by
    rw [List.map_cons, List.map_cons, PyData.eqvAll, eqvAll_ints xs ys, PyData.eqv]
    by_cases h : x = y
    · subst h
      simp
    · rw [beq_eq_false_iff_ne.mpr h, decide_eq_false (fun e => h (List.cons.inj e).1)]
      rfl
theorem eqv_ints (xs ys : List Int) : PyData.eqv (dI xs) (dI ys) = decide (xs = ys) := by rw [PyData.eqv, eqvAll_ints]
theorem canLay_ints : ∀ xs : List Int, PyData.canLayAll0 (xs.map PyData.int) = true
  | [] => by simp [PyData.canLayAll0]
  | x :: xs => by simp [PyData.canLayAll0, PyData.canLay0, canLay_ints xs]
theorem depth_ints : ∀ xs : List Int, PyData.depthAll (xs.map PyData.int) = 0
  | [] => by simp [PyData.depthAll]
  | x :: xs => by simp [PyData.depthAll, PyData.depth, depth_ints xs]
theorem shaped_ints (xs : List Int) : SeqAt.shaped (dI xs) = true := by
  unfold SeqAt.shaped
  simp [PyData.canLay0, PyData.depth, canLay_ints, depth_ints]
theorem inV_ints (t : Int) (ns : List Int) : inV (.int t) (ns.map V.int) = decide (t ∈ ns) := by
  unfold inV
  rw [List.any_map]
  induction ns with
  | nil => rfl
  | cons n ns ih =>
    rw [List.any_cons, ih]
    by_cases h : t = n
    · subst h
      simp [eqV]
    · have h2 : ¬ n = t := fun e => h e.symm
      simp [eqV, h, h2]
theorem flat_ints (ns : List Int) : (ns.map V.int).all flatV = true := by
  rw [List.all_map, List.all_eq_true]
  intro x _
  rfl
end G
namespace G
open PySem PySem.Spec PyProof.Rows L2
/-- a comprehension over a list of ints whose items are ints: the list of what they become -/
theorem lc_map {K : PySem.W.Frag} {te : TE} {σ : L2.St} {H H0 : Hp} {M : Option Addr} {pu : Option (Addr × Int)} {Fz Ow : List (V × D)} {Tp : List (Addr × List V)} {Dl a : Addr} {ns : List Int} {j : Nat} {Qd : Hp → Prop} (f : Int → Int)
    (hS : St H0 M pu Fz Ow Tp H) (hD : H Dl = none) (hr : ∀ gs : List Int, Rdb Fz ((.ref Dl, dI gs) :: Ow) Tp (.ref a) (dI ns)) (len : ns.length ≤ 1000000)
    (step : ∀ x ∈ ns, ∀ gs H1, St H0 M pu Fz ((.ref Dl, dI gs) :: Ow) Tp H1 → ∀ R : VK, R (.int (f x)) H1 → te ((wipe σ [j]).set j (some (.int x))) H1 R)
    (k : ∀ H', St H0 M pu Fz ((.ref Dl, dI (ns.map f)) :: Ow) Tp H' → Qd H') :
    ∃ W : Nat → Nat → Hp → Prop, (∃ m, W 0 m (upd H Dl (.lst []))) ∧ ∀ i m H, W i m H →
      ((Itl K a).stop i H ∧ Qd H) ∨ ((Itl K a).go i H ∧ ∃ Nx : Hp → Prop, (∀ H', Nx H' → ∃ m', m' < m ∧ W (i + 1) m' H') ∧ ∀ x H', (Itl K a).yld i H x H' → gName j x (wipe σ [j]) H' fun σ2 H2 => wipe σ2 [j] = wipe σ [j] ∧ tYes σ2 H2 fun b H3 =>
        if b = true then te σ2 H3 fun y H4 => ∃ acc, H4 Dl = some (.lst acc) ∧ acc.length < sizeLine ∧ Nx (upd H4 Dl (.lst (acc ++ [y]))) else Nx H3) := by
  refine lc_ints (fun pre H1 => St H0 M pu Fz ((.ref Dl, dI (pre.map f)) :: Ow) Tp H1) (by simpa using hS.mkInts (ns := []) hD) (fun pre H1 h => ?_) (fun pre x post H1 e h => ?_) (fun H1 h => k _ h)
  · obtain ⟨a', e, ha⟩ := h.rints (v := .ref a) (ns := ns) (hr _)
    cases e
    exact ha
  · refine ⟨?_, ?_⟩
    · show ((σ.set j none).set j _).set j none = σ.set j none
      rw [List.set_set, List.set_set]
    · unfold tYes; dsimp only
      rw [if_pos rfl]
      refine step x (by rw [e]; simp) _ _ h _ ?_
      obtain ⟨hD2, kp⟩ := h.putInts
      refine ⟨_, hD2, szlt (by rw [ints_len, List.length_map]; rw [e] at len; simp at len; omega), ?_⟩
      have h4 := kp (pre.map f ++ [f x])
      simpa using h4
/-- all that is owned is frozen -/
theorem St.frz {H0 H : Hp} {M : Option Addr} {pu : Option (Addr × Int)} {Tp : List (Addr × List V)} : ∀ {Ow Fz : List (V × D)}, St H0 M pu Fz Ow Tp H → St H0 M pu (Ow ++ Fz) [] Tp H
  | [], _, h => h
  | (_, _) :: _, _, h => (St.frz h.freeze).fzs fun x hx => by
    rcases List.mem_append.mp hx with hx | hx
    · rcases List.mem_cons.mp hx with rfl | hx
      · exact List.mem_append_right _ List.mem_cons_self
      · exact List.mem_append_left _ hx
    · exact List.mem_append_right _ (List.mem_cons_of_mem _ hx)
end G
namespace G
open PySem PySem.Spec PyProof.Rows L2
theorem Rep.same {H H1 : Hp} {S : List Addr} {v : V} {d : D} (r : Rep H S v d) (sm : Same H H1) : Rep H1 S v d := Rep.mono (fun t vs e => sm _ _ e) _ _ _ r fun a m o e => sm a o e
mutual
def spD : D → Int → D × Int
  | .list ds, k => (.list ((spDs ds k).1 ++ [.int (-((spDs ds k).2 + 1))]), (spDs ds k).2 + 1)
  | .tuple ds, k => (.tuple (spDs ds k).1, (spDs ds k).2)
  | .none, k => (.none, k)
  | .bool b, k => (.bool b, k)
  | .int i, k => (.int i, k)
  | .str x, k => (.str x, k)
  | .dict x, k => (.dict x, k)
def spDs : List D → Int → List D × Int
  | [], k => ([], k)
  | d :: ds, k => ((spD d k).1 :: (spDs ds (spD d k).2).1, (spDs ds (spD d k).2).2)
end
theorem spDs_snoc : ∀ (ds : List D) (d : D) (k : Int), spDs (ds ++ [d]) k = ((spDs ds k).1 ++ [(spD d (spDs ds k).2).1], (spD d (spDs ds k).2).2)
  | [], d, k => by simp [spDs]
  | x :: ds, d, k => by
    rw [List.cons_append, spDs, spDs_snoc ds d]
    simp [spDs]
mutual
/-- how many lists -/
def nl : D → Nat
  | .list ds => nls ds + 1
  | .tuple ds => nls ds
  | _ => 0
def nls : List D → Nat
  | [] => 0
  | d :: ds => nl d + nls ds
end
/-- the items up to i are spoiled -/
def SpI (H : Hp) (l : Addr) (k : Int) (S : List Addr) (vs : List V) (ds : List D) (i : Nat) (H1 : Hp) : Prop :=
  ∃ S1 S2, S = S1 ++ S2 ∧ Reps H1 S1 (vs.take i) (spDs (ds.take i) k).1 ∧ Reps H1 S2 (vs.drop i) (ds.drop i) ∧ H1 l = some (.lst [.int (spDs (ds.take i) k).2]) ∧ ∀ b o, H b = some o → b ∉ S → b ≠ l → H1 b = some o
theorem SpI.step {H H1 : Hp} {l : Addr} {k : Int} {S : List Addr} {vs : List V} {ds : List D} {i : Nat} {x : V} {di : D} (nd : S.Nodup) (nl : l ∉ S) (h : SpI H l k S vs ds i H1) (hx : vs[i]? = some x) (hd : ds[i]? = some di) :
    ∃ Sx, Rep H1 Sx x di ∧ Sx.Nodup ∧ l ∉ Sx ∧ H1 l = some (.lst [.int (spDs (ds.take i) k).2]) ∧ ∀ H2, (∀ b o, H1 b = some o → b ∉ Sx → b ≠ l → H2 b = some o) → Rep H2 Sx x (spD di (spDs (ds.take i) k).2).1 → H2 l = some (.lst [.int (spD di (spDs (ds.take i) k).2).2]) → SpI H l k S vs ds (i + 1) H2 := by
  obtain ⟨S1, S2, rfl, h1, h2, h3, h4⟩ := h
  have hi := (List.getElem?_eq_some_iff.mp hx).1
  have ex := (List.getElem?_eq_some_iff.mp hx).2
  have hj := (List.getElem?_eq_some_iff.mp hd).1
  have ed := (List.getElem?_eq_some_iff.mp hd).2
  rw [List.drop_eq_getElem_cons hi, List.drop_eq_getElem_cons hj, ex, ed] at h2
  cases h2 with
  | @cons Sx S3 _ _ _ _ r1 r2 =>
    have n1 := List.nodup_append.mp nd
    have n2 := List.nodup_append.mp n1.2.1
    refine ⟨Sx, r1, n2.1, fun m => nl (List.mem_append_right _ (List.mem_append_left _ m)), h3, fun H2 fr rx hl2 => ?_⟩
    have nt : ∀ t xs, H1 t = some (.tup xs) → H2 t = some (.tup xs) := fun t xs e => fr t _ e (fun m => by
      obtain ⟨ys, e2⟩ := Rep.dom _ _ _ r1 t m
      rw [e] at e2
      cases e2) (fun z => by
      rw [z, h3] at e
      cases e)
    refine ⟨S1 ++ Sx, S3, by rw [List.append_assoc], ?_, ?_, ?_, fun b o e m1 m2 => fr b o (h4 b o e m1 m2) (fun m => m1 (List.mem_append_right _ (List.mem_append_left _ m))) m2⟩
    · have q := Reps.append (Reps.mono nt _ _ _ h1 fun a m o e => fr a o e (fun m2 => n1.2.2 a m a (List.mem_append_left _ m2) rfl) (fun z => nl (z ▸ List.mem_append_left _ m))) (Reps.cons rx .nil)
      rw [List.append_nil] at q
      have e1 : vs.take (i + 1) = vs.take i ++ [x] := by rw [List.take_add_one, hx]; rfl
      have e2 : ds.take (i + 1) = ds.take i ++ [di] := by rw [List.take_add_one, hd]; rfl
      rw [e1, e2, spDs_snoc]
      exact q
    · exact Reps.mono nt _ _ _ r2 fun a m o e => fr a o e (fun m2 => n2.2.2 a m2 a m rfl) (fun z => nl (z ▸ List.mem_append_right _ (List.mem_append_right _ m)))
    · have e2 : ds.take (i + 1) = ds.take i ++ [di] := by rw [List.take_add_one, hd]; rfl
      rw [e2, spDs_snoc]
      exact hl2
theorem Rdb.up {Fz Ow : List (V × D)} {Tp : List (Addr × List V)} {v : V} {d : D} (x : V × D) (r : Rdb Fz Ow Tp v d) : Rdb Fz (x :: Ow) Tp v d := by
  induction r with
  | non => exact .non
  | bl b => exact .bl b
  | int i => exact .int i
  | str x => exact .str x
  | fz m => exact .fz m
  | ow m => exact .ow (List.mem_cons_of_mem _ m)
  | tp0 m => exact .tp0 m
  | tp1 m _ h1 => exact .tp1 m h1
  | tp2 m _ _ h1 h2 => exact .tp2 m h1 h2
  | tp3 m _ _ _ h1 h2 h3 => exact .tp3 m h1 h2 h3
theorem Rdb.mono {Fz Fz' Ow Ow' : List (V × D)} {Tp Tp' : List (Addr × List V)} {v : V} {d : D} (hF : ∀ x ∈ Fz, x ∈ Fz') (hO : ∀ x ∈ Ow, x ∈ Ow') (hT : ∀ x ∈ Tp, x ∈ Tp') (r : Rdb Fz Ow Tp v d) : Rdb Fz' Ow' Tp' v d := by
  induction r with
  | non => exact .non
  | bl b => exact .bl b
  | int i => exact .int i
  | str x => exact .str x
  | fz m => exact .fz (hF _ m)
  | ow m => exact .ow (hO _ m)
  | tp0 m => exact .tp0 (hT _ m)
  | tp1 m _ h1 => exact .tp1 (hT _ m) h1
  | tp2 m _ _ h1 h2 => exact .tp2 (hT _ m) h1 h2
  | tp3 m _ _ _ h1 h2 h3 => exact .tp3 (hT _ m) h1 h2 h3
theorem Rdb.upT {Fz Ow : List (V × D)} {Tp : List (Addr × List V)} {v : V} {d : D} {x : Addr × List V} (r : Rdb Fz Ow Tp v d) : Rdb Fz Ow (x :: Tp) v d := r.mono (fun _ h => h) (fun _ h => h) fun _ h => List.mem_cons_of_mem _ h
theorem Rdb.upF {Fz Ow : List (V × D)} {Tp : List (Addr × List V)} {v : V} {d : D} {x : V × D} (r : Rdb Fz Ow Tp v d) : Rdb (x :: Fz) Ow Tp v d := r.mono (fun _ h => List.mem_cons_of_mem _ h) (fun _ h => h) fun _ h => h
theorem Rdb.upO {Fz Ow : List (V × D)} {Tp : List (Addr × List V)} {v : V} {d : D} {x : V × D} (r : Rdb Fz Ow Tp v d) : Rdb Fz (x :: Ow) Tp v d := r.up x
/-- a fresh list of two things that are readable -/
theorem St.two {H0 H : Hp} {M : Option Addr} {pu : Option (Addr × Int)} {Fz Ow : List (V × D)} {Tp : List (Addr × List V)} {v1 v2 : V} {d1 d2 : D} {L : Addr} (h : St H0 M pu Fz Ow Tp H) (hL : H L = Option.none) (r1 : Rdb Fz Ow Tp v1 d1) (r2 : Rdb Fz Ow Tp v2 d2) :
    St H0 M pu Fz Ow Tp (upd H L (.lst [v1, v2])) ∧ ∃ T, Rep (upd H L (.lst [v1, v2])) T (.ref L) (.list [d1, d2]) := by
  have h1 := h.same (same_upd (o := .lst [v1, v2]) hL)
  obtain ⟨T1, p1, _⟩ := h1.rd r1
  obtain ⟨T2, p2, _⟩ := h1.rd r2
  exact ⟨h1, _, .lst upd_same (.cons p1 (.cons p2 .nil))⟩
end G
namespace G
open PySem PySem.Spec PyProof.Rows L2
abbrev Reg := Addr → Prop
abbrev noReg : Reg := fun _ => False
mutual
inductive Tr (H : Hp) (Z : Reg) : List Addr → V → D → Prop
  | non : Tr H Z [] .non .none
  | bl (b : Bool) : Tr H Z [] (.bl b) (.bool b)
  | int (i : Int) : Tr H Z [] (.int i) (.int i)
  | str (x : Str) : Tr H Z [] (.str x) (.str x)
  | lst {a : Addr} {vs : List V} {S : List Addr} {ds : List D} : H a = some (.lst vs) → Trs H Z S vs ds → Tr H Z (a :: S) (.ref a) (.list ds)
  | lstZ {a : Addr} {vs : List V} {ds : List D} : Z a → H a = some (.lst vs) → Trs H Z [] vs ds → Tr H Z [] (.ref a) (.list ds)
  | tup {a : Addr} {vs : List V} {S : List Addr} {ds : List D} : H a = some (.tup vs) → Trs H Z S vs ds → Tr H Z S (.ref a) (.tuple ds)
inductive Trs (H : Hp) (Z : Reg) : List Addr → List V → List D → Prop
  | nil : Trs H Z [] [] []
  | cons {S T : List Addr} {v : V} {vs : List V} {d : D} {ds : List D} : Tr H Z S v d → Trs H Z T vs ds → Trs H Z (S ++ T) (v :: vs) (d :: ds)
end
section
variable {H H' : Hp} {Z Z' : Reg}
mutual
theorem Tr.mono (ht : ∀ t vs, H t = some (.tup vs) → H' t = some (.tup vs)) (hz : ∀ a, Z a → Z' a) (kz : ∀ a, Z a → ∀ o, H a = some o → H' a = some o) : ∀ (d : D) (S : List Addr) (v : V), Tr H Z S v d → (∀ a ∈ S, ∀ o, H a = some o → H' a = some o) → Tr H' Z' S v d
  | .none, _, _, h, _ => by cases h; exact .non
  | .bool b, _, _, h, _ => by cases h; exact .bl b
  | .int i, _, _, h, _ => by cases h; exact .int i
  | .str x, _, _, h, _ => by cases h; exact .str x
  | .list ds, _, _, h, k => by
    cases h with
    | lst h1 h2 => exact .lst (k _ List.mem_cons_self _ h1) (Trs.mono ht hz kz ds _ _ h2 fun a ha => k a (List.mem_cons_of_mem _ ha))
    | lstZ h0 h1 h2 => exact .lstZ (hz _ h0) (kz _ h0 _ h1) (Trs.mono ht hz kz ds _ _ h2 fun a ha => nomatch ha)
  | .tuple ds, _, _, h, k => by
    cases h with
    | tup h1 h2 => exact .tup (ht _ _ h1) (Trs.mono ht hz kz ds _ _ h2 k)
  | .dict _, _, _, h, _ => by cases h
theorem Trs.mono (ht : ∀ t vs, H t = some (.tup vs) → H' t = some (.tup vs)) (hz : ∀ a, Z a → Z' a) (kz : ∀ a, Z a → ∀ o, H a = some o → H' a = some o) : ∀ (ds : List D) (S : List Addr) (vs : List V), Trs H Z S vs ds → (∀ a ∈ S, ∀ o, H a = some o → H' a = some o) → Trs H' Z' S vs ds
  | [], _, _, h, _ => by cases h; exact .nil
  | d :: ds, _, _, h, k => by
    cases h with
    | cons h1 h2 => exact .cons (Tr.mono ht hz kz d _ _ h1 fun a ha => k a (List.mem_append_left _ ha)) (Trs.mono ht hz kz ds _ _ h2 fun a ha => k a (List.mem_append_right _ ha))
end
mutual
/-- all is in a greater region -/
theorem Tr.freeze (hz : ∀ a, Z a → Z' a) : ∀ (d : D) (S : List Addr) (v : V), Tr H Z S v d → (∀ a ∈ S, Z' a) → Tr H Z' [] v d
  | .none, _, _, h, _ => by cases h; exact .non
  | .bool b, _, _, h, _ => by cases h; exact .bl b
  | .int i, _, _, h, _ => by cases h; exact .int i
  | .str x, _, _, h, _ => by cases h; exact .str x
  | .list ds, _, _, h, k => by
    cases h with
    | lst h1 h2 => exact .lstZ (k _ List.mem_cons_self) h1 (Trs.freeze hz ds _ _ h2 fun a ha => k a (List.mem_cons_of_mem _ ha))
    | lstZ h0 h1 h2 => exact .lstZ (hz _ h0) h1 (Trs.freeze hz ds _ _ h2 fun a ha => nomatch ha)
  | .tuple ds, _, _, h, k => by
    cases h with
    | tup h1 h2 => exact .tup h1 (Trs.freeze hz ds _ _ h2 k)
  | .dict _, _, _, h, _ => by cases h
theorem Trs.freeze (hz : ∀ a, Z a → Z' a) : ∀ (ds : List D) (S : List Addr) (vs : List V), Trs H Z S vs ds → (∀ a ∈ S, Z' a) → Trs H Z' [] vs ds
  | [], _, _, h, _ => by cases h; exact .nil
  | d :: ds, _, _, h, k => by
    cases h with
    | cons h1 h2 => exact .cons (S := []) (Tr.freeze hz d _ _ h1 fun a ha => k a (List.mem_append_left _ ha)) (Trs.freeze hz ds _ _ h2 fun a ha => k a (List.mem_append_right _ ha))
end
mutual
/-- read as a tree -/
theorem Tr.rep : ∀ (d : D) (S : List Addr) (v : V), Tr H Z S v d → ∃ T, Rep H T v d ∧ ∀ a ∈ T, a ∈ S ∨ Z a
  | .none, _, _, h => by cases h; exact ⟨_, .non, fun _ z => nomatch z⟩
  | .bool b, _, _, h => by cases h; exact ⟨_, .bl b, fun _ z => nomatch z⟩
  | .int i, _, _, h => by cases h; exact ⟨_, .int i, fun _ z => nomatch z⟩
  | .str x, _, _, h => by cases h; exact ⟨_, .str x, fun _ z => nomatch z⟩
  | .list ds, _, _, h => by
    cases h with
    | lst h1 h2 =>
      obtain ⟨T, r, k⟩ := Trs.rep ds _ _ h2
      refine ⟨_, .lst h1 r, fun a m => ?_⟩
      rcases List.mem_cons.mp m with rfl | m
      · exact .inl List.mem_cons_self
      · exact (k a m).imp (List.mem_cons_of_mem _) id
    | lstZ h0 h1 h2 =>
      obtain ⟨T, r, k⟩ := Trs.rep ds _ _ h2
      refine ⟨_, .lst h1 r, fun a m => ?_⟩
      rcases List.mem_cons.mp m with rfl | m
      · exact .inr h0
      · exact k a m
  | .tuple ds, _, _, h => by
    cases h with
    | tup h1 h2 =>
      obtain ⟨T, r, k⟩ := Trs.rep ds _ _ h2
      exact ⟨_, .tup h1 r, k⟩
  | .dict _, _, _, h => by cases h
theorem Trs.rep : ∀ (ds : List D) (S : List Addr) (vs : List V), Trs H Z S vs ds → ∃ T, Reps H T vs ds ∧ ∀ a ∈ T, a ∈ S ∨ Z a
  | [], _, _, h => by cases h; exact ⟨_, .nil, fun _ z => nomatch z⟩
  | d :: ds, _, _, h => by
    cases h with
    | cons h1 h2 =>
      obtain ⟨T1, r1, k1⟩ := Tr.rep d _ _ h1
      obtain ⟨T2, r2, k2⟩ := Trs.rep ds _ _ h2
      refine ⟨_, .cons r1 r2, fun a m => ?_⟩
      rcases List.mem_append.mp m with m | m
      · exact (k1 a m).imp (List.mem_append_left _) id
      · exact (k2 a m).imp (List.mem_append_right _) id
end
mutual
/-- a tree that is owned as a whole -/
theorem Tr.repO : ∀ (d : D) (S : List Addr) (v : V), Tr H noReg S v d → Rep H S v d
  | .none, _, _, h => by cases h; exact .non
  | .bool b, _, _, h => by cases h; exact .bl b
  | .int i, _, _, h => by cases h; exact .int i
  | .str x, _, _, h => by cases h; exact .str x
  | .list ds, _, _, h => by
    cases h with
    | lst h1 h2 => exact .lst h1 (Trs.repO ds _ _ h2)
    | lstZ h0 h1 h2 => exact h0.elim
  | .tuple ds, _, _, h => by
    cases h with
    | tup h1 h2 => exact .tup h1 (Trs.repO ds _ _ h2)
  | .dict _, _, _, h => by cases h
theorem Trs.repO : ∀ (ds : List D) (S : List Addr) (vs : List V), Trs H noReg S vs ds → Reps H S vs ds
  | [], _, _, h => by cases h; exact .nil
  | d :: ds, _, _, h => by
    cases h with
    | cons h1 h2 => exact .cons (Tr.repO d _ _ h1) (Trs.repO ds _ _ h2)
end
mutual
theorem Rep.tr : ∀ (d : D) (S : List Addr) (v : V), Rep H S v d → Tr H Z S v d
  | .none, _, _, h => by cases h; exact .non
  | .bool b, _, _, h => by cases h; exact .bl b
  | .int i, _, _, h => by cases h; exact .int i
  | .str x, _, _, h => by cases h; exact .str x
  | .list ds, _, _, h => by
    cases h with
    | lst h1 h2 => exact .lst h1 (Reps.tr ds _ _ h2)
  | .tuple ds, _, _, h => by
    cases h with
    | tup h1 h2 => exact .tup h1 (Reps.tr ds _ _ h2)
  | .dict _, _, _, h => by cases h
theorem Reps.tr : ∀ (ds : List D) (S : List Addr) (vs : List V), Reps H S vs ds → Trs H Z S vs ds
  | [], _, _, h => by cases h; exact .nil
  | d :: ds, _, _, h => by
    cases h with
    | cons h1 h2 => exact .cons (Rep.tr d _ _ h1) (Reps.tr ds _ _ h2)
end
mutual
theorem Tr.dom : ∀ (d : D) (S : List Addr) (v : V), Tr H Z S v d → ∀ a ∈ S, ∃ vs, H a = some (.lst vs)
  | .none, _, _, h => by cases h; intro a z; cases z
  | .bool b, _, _, h => by cases h; intro a z; cases z
  | .int i, _, _, h => by cases h; intro a z; cases z
  | .str x, _, _, h => by cases h; intro a z; cases z
  | .list ds, _, _, h => by
    cases h with
    | lst h1 h2 =>
      intro a z
      rcases List.mem_cons.mp z with rfl | z
      · exact ⟨_, h1⟩
      · exact Trs.dom ds _ _ h2 a z
    | lstZ _ _ _ => intro a z; cases z
  | .tuple ds, _, _, h => by
    cases h with
    | tup h1 h2 => exact Trs.dom ds _ _ h2
  | .dict _, _, _, h => by cases h
theorem Trs.dom : ∀ (ds : List D) (S : List Addr) (vs : List V), Trs H Z S vs ds → ∀ a ∈ S, ∃ xs, H a = some (.lst xs)
  | [], _, _, h => by cases h; intro a z; cases z
  | d :: ds, _, _, h => by
    cases h with
    | cons h1 h2 =>
      intro a z
      rcases List.mem_append.mp z with z | z
      · exact Tr.dom d _ _ h1 a z
      · exact Trs.dom ds _ _ h2 a z
end
mutual
theorem Tr.nolist : ∀ (d : D) (S : List Addr) (v : V), Tr H Z S v d → G.nolist d = true → S = [] ∧ Tr H Z' [] v d
  | .none, _, _, h, _ => by cases h; exact ⟨rfl, .non⟩
  | .bool b, _, _, h, _ => by cases h; exact ⟨rfl, .bl b⟩
  | .int i, _, _, h, _ => by cases h; exact ⟨rfl, .int i⟩
  | .str x, _, _, h, _ => by cases h; exact ⟨rfl, .str x⟩
  | .list ds, _, _, _, e => by simp [G.nolist] at e
  | .tuple ds, _, _, h, e => by
    cases h with
    | tup h1 h2 =>
      have := Trs.nolist ds _ _ h2 (by simpa [G.nolist] using e)
      exact ⟨this.1, .tup h1 this.2⟩
  | .dict _, _, _, h, _ => by cases h
theorem Trs.nolist : ∀ (ds : List D) (S : List Addr) (vs : List V), Trs H Z S vs ds → nolists ds = true → S = [] ∧ Trs H Z' [] vs ds
  | [], _, _, h, _ => by cases h; exact ⟨rfl, .nil⟩
  | d :: ds, _, _, h, e => by
    cases h with
    | cons h1 h2 =>
      rw [nolists, Bool.and_eq_true] at e
      have a := Tr.nolist d _ _ h1 e.1
      have b := Trs.nolist ds _ _ h2 e.2
      obtain ⟨rfl, a⟩ := a
      obtain ⟨rfl, b⟩ := b
      exact ⟨rfl, .cons (S := []) a b⟩
end
theorem Trs.length : ∀ {ds : List D} {S : List Addr} {vs : List V}, Trs H Z S vs ds → vs.length = ds.length
  | [], _, _, h => by cases h; rfl
  | d :: ds, _, _, h => by
    cases h with
    | cons h1 h2 => simp [Trs.length h2]
theorem Trs.append : ∀ {ds es : List D} {S T : List Addr} {vs us : List V}, Trs H Z S vs ds → Trs H Z T us es → Trs H Z (S ++ T) (vs ++ us) (ds ++ es)
  | [], _, _, _, _, _, h, k => by cases h; exact k
  | d :: ds, _, _, _, _, _, h, k => by
    cases h with
    | cons h1 h2 =>
      have q := Trs.cons h1 (Trs.append h2 k)
      rw [← List.append_assoc] at q
      exact q
/-- one item, and the others -/
theorem Trs.at : ∀ {ds : List D} {S : List Addr} {vs : List V} {i : Nat} {d : D}, Trs H Z S vs ds → ds[i]? = some d → ∃ v T R, vs[i]? = some v ∧ Tr H Z T v d ∧ S.Perm (T ++ R) ∧ (∃ R', Trs H Z R' (vs.eraseIdx i) (ds.eraseIdx i) ∧ R'.Perm R) ∧
    ∀ (H' : Hp) T' v' d', (∀ t vs, H t = some (.tup vs) → H' t = some (.tup vs)) → (∀ a, Z a → ∀ o, H a = some o → H' a = some o) → (∀ a ∈ R, ∀ o, H a = some o → H' a = some o) → Tr H' Z T' v' d' → ∃ S', Trs H' Z S' (vs.set i v') (ds.set i d') ∧ S'.Perm (T' ++ R)
  | [], _, _, _, _, _, e => by simp at e
  | d :: ds, _, _, 0, _, h, e => by
    cases h with
    | @cons S T _ _ _ _ h1 h2 =>
      simp at e
      subst e
      refine ⟨_, _, _, rfl, h1, .refl _, ⟨_, h2, .refl _⟩, fun H' T' v' d' ht kz kr t => ⟨_, .cons t (Trs.mono ht (fun _ z => z) kz _ _ _ h2 kr), .refl _⟩⟩
  | d :: ds, _, _, i + 1, _, h, e => by
    cases h with
    | @cons S T _ _ _ _ h1 h2 =>
      obtain ⟨v, T1, R, e1, t, pm, ⟨R', q1, q2⟩, k⟩ := Trs.at (i := i) h2 (by simpa using e)
      have pm2 : (S ++ T).Perm (T1 ++ (S ++ R)) := by
        refine (List.Perm.append_left S pm).trans ?_
        rw [← List.append_assoc, ← List.append_assoc]
        exact List.Perm.append_right R List.perm_append_comm
      refine ⟨v, T1, S ++ R, by simpa using e1, t, pm2, ⟨_, .cons h1 q1, List.Perm.append_left _ q2⟩, fun H' T' v' d' ht kz kr t' => ?_⟩
      obtain ⟨S', q, p'⟩ := k H' T' v' d' ht kz (fun a m => kr a (List.mem_append_right _ m)) t'
      refine ⟨_, .cons (Tr.mono ht (fun _ z => z) kz _ _ _ h1 fun a m => kr a (List.mem_append_left _ m)) q, ?_⟩
      refine (List.Perm.append_left S p').trans ?_
      rw [← List.append_assoc, ← List.append_assoc]
      exact List.Perm.append_right R List.perm_append_comm
theorem Trs.get {ds : List D} {S : List Addr} {vs : List V} {i : Nat} {d : D} {v : V} (h : Trs H Z S vs ds) (e : ds[i]? = some d) (ev : vs[i]? = some v) : ∃ T R, Tr H Z T v d ∧ S.Perm (T ++ R) := by
  obtain ⟨v', T, R, e1, t, pm, _⟩ := h.at e
  rw [ev] at e1
  cases e1
  exact ⟨T, R, t, pm⟩
theorem Trs.intsR : ∀ (ns : List Int), Trs H Z [] (ns.map V.int) (ns.map PyData.int)
  | [] => .nil
  | n :: ns => .cons (S := []) (.int n) (Trs.intsR ns)
end
inductive Sl where
  | jk
  | fz (d : D)
  | ow (b : Bool) (d : D)
  | al (i : Nat) (π : List Nat)
  | pu
  | io (d : D)
  | dc (m : List (Key × D))
  | dt (m : List (List Key × D))
  | sh (d : D)
  | xv (a dd : Addr) (d : D)
  | ho (ds : List D) (i : Nat)
  | xw (a dd : Addr)
structure VSt where
  sl : List Sl
  tm : List Sl
  n : Int
structure Cn where
  H0 : Hp
  M : Reg
  pu : Option (Addr × Int)
  ok : ∀ p b, pu = some (p, b) → b ≤ 2 ^ 100
  iov : Option V := none
  Fr : Reg := noReg
abbrev Cn.tz (C : Cn) (Z : Reg) : Reg := fun a => Z a ∨ C.Fr a
/-- what stands in a dict: frozen trees -/
inductive DVs {κ : Type} (H : Hp) (Z : Reg) : List (κ × V) → List (κ × D) → Prop
  | nil : DVs H Z [] []
  | cons {k : κ} {v : V} {d : D} {kvs : List (κ × V)} {m : List (κ × D)} : Tr H Z [] v d → DVs H Z kvs m → DVs H Z ((k, v) :: kvs) ((k, d) :: m)
theorem DVs.mono {κ : Type} {H H' : Hp} {Z Z' : Reg} (ht : ∀ t vs, H t = some (.tup vs) → H' t = some (.tup vs)) (hz : ∀ a, Z a → Z' a) (kz : ∀ a, Z a → ∀ o, H a = some o → H' a = some o) {kvs : List (κ × V)} {m : List (κ × D)} (h : DVs H Z kvs m) : DVs H' Z' kvs m := by
  induction h with
  | nil => exact .nil
  | cons t _ ih => exact .cons (Tr.mono ht hz kz _ _ _ t fun a m => nomatch m) ih
inductive Ent (C : Cn) (Z : Reg) (H : Hp) : List Addr → Option V → Sl → Prop
  | jk (v : Option V) : Ent C Z H [] v .jk
  | fz {v : V} {d : D} : Tr H Z [] v d → Ent C Z H [] (some v) (.fz d)
  | ow {v : V} {d : D} {S : List Addr} : Tr H noReg S v d → Ent C Z H S (some v) (.ow true d)
  | sp {a : Addr} {vs : List V} {ds : List D} {S : List Addr} : H a = some (.lst vs) → Trs H Z S vs ds → Ent C Z H (a :: S) (some (.ref a)) (.ow false (.list ds))
  | al (v : V) (i : Nat) (π : List Nat) : Ent C Z H [] (some v) (.al i π)
  | pu {p : Addr} {b : Int} : C.pu = some (p, b) → Ent C Z H [] (some (.ref p)) .pu
  | io {v : V} {d : D} {S : List Addr} : Tr H noReg S v d → C.iov = some v → Ent C Z H S (some v) (.io d)
  | dc {a : Addr} {kvs : List (Key × V)} {m : List (Key × D)} : H a = some (.dK kvs) → DVs H Z kvs m → Ent C Z H [a] (some (.ref a)) (.dc m)
  | dt {a : Addr} {kvs : List (List Key × V)} {m : List (List Key × D)} : H a = some (.dT kvs) → DVs H Z kvs m → Ent C Z H [a] (some (.ref a)) (.dt m)
  | sh {a : Addr} {v : V} {S : List Addr} {d : D} : H a = some (.tup [v, v, v]) → Tr H noReg S v d → Ent C Z H S (some (.ref a)) (.sh d)
  | xv {a dd : Addr} {w : V} {S : List Addr} {d : D} : H dd = some (.xd [("value", w)]) → Tr H noReg S w d → Ent C Z H (dd :: S) (some (.ref a)) (.xv a dd d)
  | ho {a : Addr} {vs : List V} {S : List Addr} {ds : List D} {i : Nat} : H a = some (.lst vs) → vs.length = ds.length → Trs H noReg S (vs.eraseIdx i) (ds.eraseIdx i) → Ent C Z H (a :: S) (some (.ref a)) (.ho ds i)
  | xw {a dd : Addr} {fs : List (Str × V)} : H dd = some (.xd fs) → Ent C Z H [dd] (some (.ref a)) (.xw a dd)
inductive Ents (C : Cn) (Z : Reg) (H : Hp) : List Addr → List (Option V) → List Sl → Prop
  | nil : Ents C Z H [] [] []
  | cons {S T : List Addr} {v : Option V} {vs : List (Option V)} {s : Sl} {ss : List Sl} : Ent C Z H S v s → Ents C Z H T vs ss → Ents C Z H (S ++ T) (v :: vs) (s :: ss)
section
variable {C : Cn} {Z Z' : Reg} {H H' : Hp}
theorem Ent.mono {S : List Addr} {v : Option V} {s : Sl} (h : Ent C Z H S v s) (ht : ∀ t vs, H t = some (.tup vs) → H' t = some (.tup vs)) (hz : ∀ a, Z a → Z' a) (kz : ∀ a, Z a → ∀ o, H a = some o → H' a = some o) (ks : ∀ a ∈ S, ∀ o, H a = some o → H' a = some o) : Ent C Z' H' S v s := by
  cases h with
  | jk v => exact .jk v
  | fz t => exact .fz (Tr.mono ht hz kz _ _ _ t ks)
  | ow t => exact .ow (Tr.mono ht (fun _ z => z) (fun _ z => z.elim) _ _ _ t ks)
  | sp e t => exact .sp (ks _ List.mem_cons_self _ e) (Trs.mono ht hz kz _ _ _ t fun a m => ks a (List.mem_cons_of_mem _ m))
  | al v i π => exact .al v i π
  | pu e => exact .pu e
  | io t e => exact .io (Tr.mono ht (fun _ z => z) (fun _ z => z.elim) _ _ _ t ks) e
  | dc e t => exact .dc (ks _ List.mem_cons_self _ e) (t.mono ht hz kz)
  | dt e t => exact .dt (ks _ List.mem_cons_self _ e) (t.mono ht hz kz)
  | sh e t => exact .sh (ht _ _ e) (Tr.mono ht (fun _ z => z) (fun _ z => z.elim) _ _ _ t ks)
  | xv e t => exact .xv (ks _ List.mem_cons_self _ e) (Tr.mono ht (fun _ z => z) (fun _ z => z.elim) _ _ _ t fun a m => ks a (List.mem_cons_of_mem _ m))
  | xw e => exact .xw (ks _ List.mem_cons_self _ e)
  | ho e l t => exact .ho (ks _ List.mem_cons_self _ e) l (Trs.mono ht (fun _ z => z) (fun _ z => z.elim) _ _ _ t fun a m => ks a (List.mem_cons_of_mem _ m))
theorem Ent.dom {S : List Addr} {v : Option V} {s : Sl} (h : Ent C Z H S v s) : ∀ a ∈ S, ∃ o, H a = some o := by
  have go : ∀ {T : List Addr}, (∀ a ∈ T, ∃ xs, H a = some (.lst xs)) → ∀ a ∈ T, ∃ o, H a = some o := fun k a m => (k a m).elim fun xs e => ⟨_, e⟩
  cases h with
  | jk v => intro a m; cases m
  | fz t => exact go (Tr.dom _ _ _ t)
  | ow t => exact go (Tr.dom _ _ _ t)
  | sp e t =>
    intro a m
    rcases List.mem_cons.mp m with rfl | m
    · exact ⟨_, e⟩
    · exact go (Trs.dom _ _ _ t) a m
  | al v i π => intro a m; cases m
  | pu e => intro a m; cases m
  | io t _ => exact go (Tr.dom _ _ _ t)
  | dc e _ => intro a m; cases List.mem_singleton.mp m; exact ⟨_, e⟩
  | dt e _ => intro a m; cases List.mem_singleton.mp m; exact ⟨_, e⟩
  | sh e t => exact go (Tr.dom _ _ _ t)
  | xv e t =>
    intro a m
    rcases List.mem_cons.mp m with rfl | m
    · exact ⟨_, e⟩
    · exact go (Tr.dom _ _ _ t) a m
  | xw e => intro a m; cases List.mem_singleton.mp m; exact ⟨_, e⟩
  | ho e _ t =>
    intro a m
    rcases List.mem_cons.mp m with rfl | m
    · exact ⟨_, e⟩
    · exact go (Trs.dom _ _ _ t) a m
/-- its data -/
def datS : Sl → Option D
  | .fz d => some d
  | .ow _ d => some d
  | .io d => some d
  | .sh d => some (.tuple [d, d, d])
  | _ => none
theorem Ent.tr {S : List Addr} {v : Option V} {s : Sl} {d : D} (h : Ent C Z H S v s) (e : datS s = some d) : ∃ w T, v = some w ∧ Tr H Z T w d ∧ ∀ a ∈ T, a ∈ S := by
  cases h with
  | jk v => cases e
  | fz t => cases e; exact ⟨_, _, rfl, t, fun _ m => m⟩
  | ow t => cases e; exact ⟨_, _, rfl, Tr.mono (fun _ _ h => h) (fun _ z => z.elim) (fun _ z => z.elim) _ _ _ t fun _ _ _ h => h, fun _ m => m⟩
  | sp h1 t => cases e; exact ⟨_, _, rfl, .lst h1 t, fun _ m => m⟩
  | al v i π => cases e
  | pu e' => cases e
  | io t _ => cases e; exact ⟨_, _, rfl, Tr.mono (fun _ _ h => h) (fun _ z => z.elim) (fun _ z => z.elim) _ _ _ t fun _ _ _ h => h, fun _ m => m⟩
  | dc _ _ => cases e
  | dt _ _ => cases e
  | xv _ _ => cases e
  | ho _ _ _ => cases e
  | xw _ => cases e
  | @sh a v S d h1 t =>
    cases e
    have t' : Tr H Z S v d := Tr.mono (fun _ _ h => h) (fun _ z => z.elim) (fun _ z => z.elim) _ _ _ t fun _ _ _ h => h
    refine ⟨_, _, rfl, .tup h1 (.cons t' (.cons t' (.cons t' .nil))), fun x m => ?_⟩
    simpa using m
theorem Ent.trO {S : List Addr} {v : Option V} {b : Bool} {d : D} (h : Ent C Z H S v (.ow b d)) : ∃ w, v = some w ∧ Tr H Z S w d := by
  cases h with
  | ow t => exact ⟨_, rfl, Tr.mono (fun _ _ h => h) (fun _ z => z.elim) (fun _ z => z.elim) _ _ _ t fun _ _ _ h => h⟩
  | sp h1 t => exact ⟨_, rfl, .lst h1 t⟩
theorem Ents.mono : ∀ {S : List Addr} {vs : List (Option V)} {ss : List Sl}, Ents C Z H S vs ss → (∀ t vs, H t = some (.tup vs) → H' t = some (.tup vs)) → (∀ a, Z a → Z' a) → (∀ a, Z a → ∀ o, H a = some o → H' a = some o) → (∀ a ∈ S, ∀ o, H a = some o → H' a = some o) → Ents C Z' H' S vs ss
  | _, _, _, .nil, _, _, _, _ => .nil
  | _, _, _, .cons h1 h2, ht, hz, kz, ks => .cons (h1.mono ht hz kz fun a m => ks a (List.mem_append_left _ m)) (h2.mono ht hz kz fun a m => ks a (List.mem_append_right _ m))
theorem Ents.dom : ∀ {S : List Addr} {vs : List (Option V)} {ss : List Sl}, Ents C Z H S vs ss → ∀ a ∈ S, ∃ o, H a = some o
  | _, _, _, .nil => fun a m => nomatch m
  | _, _, _, .cons h1 h2 => fun a m => (List.mem_append.mp m).elim (h1.dom a) (h2.dom a)
theorem Ents.length : ∀ {S : List Addr} {vs : List (Option V)} {ss : List Sl}, Ents C Z H S vs ss → vs.length = ss.length
  | _, _, _, .nil => rfl
  | _, _, _, .cons h1 h2 => by simp [h2.length]
/-- one of them, and the others -/
theorem Ents.at : ∀ {ss : List Sl} {S : List Addr} {vs : List (Option V)} {i : Nat} {s : Sl}, Ents C Z H S vs ss → ss[i]? = some s → ∃ v T R, vs[i]? = some v ∧ Ent C Z H T v s ∧ S.Perm (T ++ R) ∧
    ∀ (H' : Hp) (Z' : Reg) T' v' s', (∀ t vs, H t = some (.tup vs) → H' t = some (.tup vs)) → (∀ a, Z a → Z' a) → (∀ a, Z a → ∀ o, H a = some o → H' a = some o) → (∀ a ∈ R, ∀ o, H a = some o → H' a = some o) → Ent C Z' H' T' v' s' → ∃ S', Ents C Z' H' S' (vs.set i v') (ss.set i s') ∧ S'.Perm (T' ++ R)
  | [], _, _, _, _, _, e => by simp at e
  | s :: ss, _, _, 0, _, h, e => by
    cases h with
    | @cons S T _ _ _ _ h1 h2 =>
      simp at e
      subst e
      exact ⟨_, _, _, rfl, h1, .refl _, fun H' Z' T' v' s' ht hz kz kr t => ⟨_, .cons t (h2.mono ht hz kz kr), .refl _⟩⟩
  | s :: ss, _, _, i + 1, _, h, e => by
    cases h with
    | @cons S T _ _ _ _ h1 h2 =>
      obtain ⟨v, T1, R, e1, t, pm, k⟩ := Ents.at (i := i) h2 (by simpa using e)
      have pm2 : (S ++ T).Perm (T1 ++ (S ++ R)) := by
        refine (List.Perm.append_left S pm).trans ?_
        rw [← List.append_assoc, ← List.append_assoc]
        exact List.Perm.append_right R List.perm_append_comm
      refine ⟨v, T1, S ++ R, by simpa using e1, t, pm2, fun H' Z' T' v' s' ht hz kz kr t' => ?_⟩
      obtain ⟨S', q, p'⟩ := k H' Z' T' v' s' ht hz kz (fun a m => kr a (List.mem_append_right _ m)) t'
      refine ⟨_, .cons (h1.mono ht hz kz fun a m => kr a (List.mem_append_left _ m)) q, ?_⟩
      refine (List.Perm.append_left S p').trans ?_
      rw [← List.append_assoc, ← List.append_assoc]
      exact List.Perm.append_right R List.perm_append_comm
end
def atP : D → List Nat → Option D
  | d, [] => some d
  | .list ds, k :: π => (ds[k]?).bind fun d => atP d π
  | .tuple ds, k :: π => (ds[k]?).bind fun d => atP d π
  | _, _ :: _ => none
inductive Wk (H : Hp) : V → List Nat → V → Prop
  | nil (v : V) : Wk H v [] v
  | lst {a : Addr} {vs : List V} {k : Nat} {π : List Nat} {u w : V} : H a = some (.lst vs) → vs[k]? = some u → Wk H u π w → Wk H (.ref a) (k :: π) w
  | tup {a : Addr} {vs : List V} {k : Nat} {π : List Nat} {u w : V} : H a = some (.tup vs) → vs[k]? = some u → Wk H u π w → Wk H (.ref a) (k :: π) w
section
variable {H H' : Hp} {Z : Reg}
theorem Wk.snoc {v w : V} {π : List Nat} (h : Wk H v π w) {a : Addr} {vs : List V} {k : Nat} {u : V} (e : w = .ref a) (ha : H a = some (.lst vs) ∨ H a = some (.tup vs)) (hk : vs[k]? = some u) : Wk H v (π ++ [k]) u := by
  induction h with
  | nil v =>
    subst e
    rcases ha with ha | ha
    · exact .lst ha hk (.nil _)
    · exact .tup ha hk (.nil _)
  | lst h1 h2 _ ih => exact .lst h1 h2 (ih e)
  | tup h1 h2 _ ih => exact .tup h1 h2 (ih e)
theorem atP_snoc : ∀ (π : List Nat) (d e : D) (ds : List D) (k : Nat) (x : D), atP d π = some e → (e = .list ds ∨ e = .tuple ds) → ds[k]? = some x → atP d (π ++ [k]) = some x
  | [], d, e, ds, k, x, h, he, hk => by
    simp only [atP, Option.some.injEq] at h
    subst h
    rcases he with rfl | rfl <;> simp [atP, hk]
  | j :: π, .list es, e, ds, k, x, h, he, hk => by
    simp only [atP, List.cons_append] at h ⊢
    cases q : es[j]? with
    | none => rw [q] at h; cases h
    | some y =>
      rw [q] at h
      exact atP_snoc π y e ds k x h he hk
  | j :: π, .tuple es, e, ds, k, x, h, he, hk => by
    simp only [atP, List.cons_append] at h ⊢
    cases q : es[j]? with
    | none => rw [q] at h; cases h
    | some y =>
      rw [q] at h
      exact atP_snoc π y e ds k x h he hk
  | j :: π, .none, e, ds, k, x, h, he, hk => by simp [atP] at h
  | j :: π, .bool _, e, ds, k, x, h, he, hk => by simp [atP] at h
  | j :: π, .int _, e, ds, k, x, h, he, hk => by simp [atP] at h
  | j :: π, .str _, e, ds, k, x, h, he, hk => by simp [atP] at h
  | j :: π, .dict _, e, ds, k, x, h, he, hk => by simp [atP] at h
/-- a part of a tree: it is walked to, and stays where the tree stays -/
theorem Tr.part : ∀ {π : List Nat} {d e : D} {S : List Addr} {v w : V}, Tr H Z S v d → atP d π = some e → Wk H v π w → (∃ T, Tr H Z T w e ∧ ∀ a ∈ T, a ∈ S) ∧
    ∀ H' : Hp, (∀ t vs, H t = some (.tup vs) → H' t = some (.tup vs)) → (∀ a, Z a ∨ a ∈ S → ∀ o, H a = some o → H' a = some o) → Wk H' v π w
  | [], d, e, S, v, w, h, he, hw => by
    simp only [atP, Option.some.injEq] at he
    subst he
    cases hw
    exact ⟨⟨S, h, fun _ m => m⟩, fun _ _ _ => .nil _⟩
  | k :: π, d, e, S, v, w, h, he, hw => by
    cases hw with
    | @lst a vs _ _ u _ h1 h2 h3 =>
      cases h with
      | @lst _ vs' S' ds g1 g2 =>
        rw [h1] at g1
        cases g1
        simp only [atP] at he
        cases q : ds[k]? with
        | none => rw [q] at he; cases he
        | some y =>
          rw [q] at he
          obtain ⟨T, R, t, pm⟩ := g2.get q h2
          obtain ⟨⟨T', t', s'⟩, kp⟩ := Tr.part (π := π) t he h3
          have sub : ∀ a ∈ T, a ∈ a :: S' → True := fun _ _ _ => trivial
          refine ⟨⟨T', t', fun b m => List.mem_cons_of_mem _ (pm.mem_iff.mpr (List.mem_append_left _ (s' b m)))⟩, fun H' ht kk => .lst (kk _ (.inr List.mem_cons_self) _ h1) h2 (kp H' ht fun b hb => kk b ?_)⟩
          rcases hb with hb | hb
          · exact .inl hb
          · exact .inr (List.mem_cons_of_mem _ (pm.mem_iff.mpr (List.mem_append_left _ hb)))
      | @lstZ _ vs' ds g0 g1 g2 =>
        rw [h1] at g1
        cases g1
        simp only [atP] at he
        cases q : ds[k]? with
        | none => rw [q] at he; cases he
        | some y =>
          rw [q] at he
          obtain ⟨T, R, t, pm⟩ := g2.get q h2
          obtain ⟨⟨T', t', s'⟩, kp⟩ := Tr.part (π := π) t he h3
          refine ⟨⟨T', t', fun b m => pm.mem_iff.mpr (List.mem_append_left _ (s' b m))⟩, fun H' ht kk => .lst (kk _ (.inl g0) _ h1) h2 (kp H' ht fun b hb => kk b ?_)⟩
          rcases hb with hb | hb
          · exact .inl hb
          · exact .inr (pm.mem_iff.mpr (List.mem_append_left _ hb))
      | tup g1 g2 => rw [h1] at g1; cases g1
    | @tup a vs _ _ u _ h1 h2 h3 =>
      cases h with
      | lst g1 g2 => rw [h1] at g1; cases g1
      | lstZ g0 g1 g2 => rw [h1] at g1; cases g1
      | @tup _ vs' S' ds g1 g2 =>
        rw [h1] at g1
        cases g1
        simp only [atP] at he
        cases q : ds[k]? with
        | none => rw [q] at he; cases he
        | some y =>
          rw [q] at he
          obtain ⟨T, R, t, pm⟩ := g2.get q h2
          obtain ⟨⟨T', t', s'⟩, kp⟩ := Tr.part (π := π) t he h3
          refine ⟨⟨T', t', fun b m => pm.mem_iff.mpr (List.mem_append_left _ (s' b m))⟩, fun H' ht kk => .tup (ht _ _ h1) h2 (kp H' ht fun b hb => kk b ?_)⟩
          rcases hb with hb | hb
          · exact .inl hb
          · exact .inr (pm.mem_iff.mpr (List.mem_append_left _ hb))
/-- a part exchanged -/
def setP : D → List Nat → D → D
  | _, [], x => x
  | .list ds, k :: π, x => .list (ds.set k ((ds[k]?).elim .none fun d => setP d π x))
  | .tuple ds, k :: π, x => .tuple (ds.set k ((ds[k]?).elim .none fun d => setP d π x))
  | d, _ :: _, _ => d
/-- an owned tree: the list at a part is written -/
theorem Tr.put : ∀ {π : List Nat} {d : D} {es : List D} {S : List Addr} {v w : V}, Tr H noReg S v d → atP d π = some (.list es) → Wk H v π w → ∃ a vs T R, w = .ref a ∧ H a = some (.lst vs) ∧ Trs H noReg T vs es ∧ S.Perm (a :: T ++ R) ∧
    ∀ us ds' T', (S.Nodup) → Trs (upd H a (.lst us)) noReg T' us ds' → ∃ S', Tr (upd H a (.lst us)) noReg S' v (setP d π (.list ds')) ∧ S'.Perm (a :: T' ++ R)
  | [], d, es, S, v, w, h, he, hw => by
    simp only [atP, Option.some.injEq] at he
    subst he
    cases hw
    cases h with
    | @lst a vs S' _ g1 g2 => exact ⟨a, vs, S', [], rfl, g1, g2, by simp, fun us ds' T' _ t => ⟨a :: T', .lst upd_same t, by simp⟩⟩
    | lstZ g0 _ _ => exact g0.elim
  | k :: π, d, es, S, v, w, h, he, hw => by
    cases hw with
    | @lst a vs _ _ u _ h1 h2 h3 =>
      cases h with
      | @lst _ vs' S' ds g1 g2 =>
        rw [h1] at g1
        cases g1
        simp only [atP] at he
        cases q : ds[k]? with
        | none => rw [q] at he; cases he
        | some y =>
          rw [q] at he
          obtain ⟨u', T, R, eu, t, pm, _, kk⟩ := g2.at q
          rw [h2] at eu
          cases eu
          obtain ⟨b, ws, T1, R1, ew, hb, tb, pm1, kp⟩ := Tr.put (π := π) t he h3
          have bS : b ∈ S' := pm.mem_iff.mpr (List.mem_append_left _ (pm1.mem_iff.mpr (by simp)))
          refine ⟨b, ws, T1, a :: (R1 ++ R), ew, hb, tb, ?_, fun us ds' T' nd t' => ?_⟩
          · refine (List.Perm.cons a (pm.trans (List.Perm.append_right R pm1))).trans ?_
            have : (b :: T1 ++ R1 ++ R) = (b :: T1) ++ (R1 ++ R) := by simp
            rw [this]
            exact List.perm_middle.symm
          · have nd' := List.nodup_cons.mp nd
            have ndS := pm.nodup_iff.mp nd'.2
            have ndA := List.nodup_append.mp ndS
            obtain ⟨S2, t2, p2⟩ := kp us ds' T' ndA.1 t'
            have nba : a ≠ b := fun z => nd'.1 (z ▸ bS)
            have bT : b ∈ T := pm1.mem_iff.mpr (by simp)
            have kt : ∀ t xs, H t = some (.tup xs) → upd H b (.lst us) t = some (.tup xs) := fun t xs et => by
              rw [upd_ne (show t ≠ b from fun z => by rw [z, hb] at et; cases et)]
              exact et
            obtain ⟨S3, t3, p3⟩ := kk (upd H b (.lst us)) S2 u (setP y π (.list ds')) kt (fun _ z => z.elim) (fun c m o eo => by
              rw [upd_ne (show c ≠ b from fun z => ndA.2.2 b bT c m z.symm)]
              exact eo) t2
            have eset : vs.set k u = vs := by
              refine List.ext_getElem? fun j => ?_
              by_cases hj : k = j
              · subst hj
                rw [List.getElem?_set_self (List.getElem?_eq_some_iff.mp h2).1, h2]
              · rw [List.getElem?_set_ne hj]
            rw [eset] at t3
            refine ⟨a :: S3, ?_, ?_⟩
            · rw [setP, q]
              exact .lst (by rw [upd_ne nba]; exact h1) t3
            · refine (List.Perm.cons a (p3.trans (List.Perm.append_right R p2))).trans ?_
              have : (b :: T' ++ R1 ++ R) = (b :: T') ++ (R1 ++ R) := by simp
              rw [this]
              exact List.perm_middle.symm
      | lstZ g0 _ _ => exact g0.elim
      | tup g1 g2 => rw [h1] at g1; cases g1
    | @tup a vs _ _ u _ h1 h2 h3 =>
      cases h with
      | lst g1 g2 => rw [h1] at g1; cases g1
      | lstZ g0 g1 g2 => rw [h1] at g1; cases g1
      | @tup _ vs' S' ds g1 g2 =>
        rw [h1] at g1
        cases g1
        simp only [atP] at he
        cases q : ds[k]? with
        | none => rw [q] at he; cases he
        | some y =>
          rw [q] at he
          obtain ⟨u', T, R, eu, t, pm, _, kk⟩ := g2.at q
          rw [h2] at eu
          cases eu
          obtain ⟨b, ws, T1, R1, ew, hb, tb, pm1, kp⟩ := Tr.put (π := π) t he h3
          refine ⟨b, ws, T1, R1 ++ R, ew, hb, tb, ?_, fun us ds' T' nd t' => ?_⟩
          · refine (pm.trans (List.Perm.append_right R pm1)).trans ?_
            simp
          · have ndS := pm.nodup_iff.mp nd
            have ndA := List.nodup_append.mp ndS
            obtain ⟨S2, t2, p2⟩ := kp us ds' T' ndA.1 t'
            have bT : b ∈ T := pm1.mem_iff.mpr (by simp)
            have kt : ∀ t xs, H t = some (.tup xs) → upd H b (.lst us) t = some (.tup xs) := fun t xs et => by
              rw [upd_ne (show t ≠ b from fun z => by rw [z, hb] at et; cases et)]
              exact et
            obtain ⟨S3, t3, p3⟩ := kk (upd H b (.lst us)) S2 u (setP y π (.list ds')) kt (fun _ z => z.elim) (fun c m o eo => by
              rw [upd_ne (show c ≠ b from fun z => ndA.2.2 b bT c m z.symm)]
              exact eo) t2
            have eset : vs.set k u = vs := by
              refine List.ext_getElem? fun j => ?_
              by_cases hj : k = j
              · subst hj
                rw [List.getElem?_set_self (List.getElem?_eq_some_iff.mp h2).1, h2]
              · rw [List.getElem?_set_ne hj]
            rw [eset] at t3
            refine ⟨S3, ?_, ?_⟩
            · rw [setP, q]
              exact .tup (kt _ _ h1) t3
            · refine (p3.trans (List.Perm.append_right R p2)).trans ?_
              simp
end
def look (sl : List Sl) : Sl → Option D
  | .fz d => some d
  | .ow _ d => some d
  | .al i π => (sl[i]?).bind fun s => (datS s).bind fun d => atP d π
  | _ => none
structure RelX (C : Cn) (Z : Reg) (S1 S2 : List Addr) (γ : VSt) (Θ : List V) (σ : L2.St) (H : Hp) : Prop where
  fr : ∀ a o, C.H0 a = some o → ¬ C.M a → C.tz Z a ∧ H a = some o
  es : Ents C Z H S1 σ γ.sl
  et : Ents C Z H S2 (Θ.map some) γ.tm
  nd : (S1 ++ S2).Nodup
  nz : ∀ a ∈ S1 ++ S2, ¬ C.tz Z a
  pu : ∀ p b, C.pu = some (p, b) → PuAt H p (b - γ.n) ∧ ¬ C.tz Z p ∧ p ∉ S1 ++ S2
  ex : ∀ a, C.tz Z a → ∃ o, H a = some o
  dj : ∀ a, Z a → ¬ C.Fr a
  al : ∀ (k i : Nat) (π : List Nat) (v : V), γ.tm[k]? = some (.al i π) → Θ[k]? = some v → ∃ s d e w, γ.sl[i]? = some s ∧ datS s = some d ∧ atP d π = some e ∧ σ[i]? = some (some w) ∧ Wk H w π v
def Rel (C : Cn) (γ : VSt) (Θ : List V) (σ : L2.St) (H : Hp) : Prop := ∃ Z S1 S2, RelX C Z S1 S2 γ Θ σ H
def noAl (i : Nat) (tm : List Sl) : Bool := tm.all fun s => match s with | .al j _ => j != i | _ => true
def own (d : D) : Sl := if nolist d then .fz d else .ow true d
section
variable {C : Cn} {Z : Reg} {S1 S2 : List Addr} {γ : VSt} {Θ : List V} {σ : L2.St} {H H' : Hp} {sl tm : List Sl} {n n' : Int} {v : V} {s : Sl} {d : D} {i : Nat}
theorem RelX.slot (h : RelX C Z S1 S2 γ Θ σ H) (e : γ.sl[i]? = some s) (ed : datS s = some d) : ∃ w T, σ[i]? = some (some w) ∧ Tr H Z T w d ∧ ∀ a ∈ T, a ∈ S1 := by
  obtain ⟨v, T, R, ev, en, pm, _⟩ := h.es.at e
  obtain ⟨w, T', rfl, t, sb⟩ := en.tr ed
  exact ⟨w, T', ev, t, fun a m => pm.mem_iff.mpr (List.mem_append_left _ (sb a m))⟩
theorem RelX.trAt {k : Nat} (h : RelX C Z S1 S2 γ Θ σ H) (e : γ.tm[k]? = some s) (ev : Θ[k]? = some v) (l : look γ.sl s = some d) : ∃ T, Tr H Z T v d ∧ ∀ a ∈ T, a ∈ S1 ++ S2 := by
  obtain ⟨v', T, R, ev', en, pm, _⟩ := h.et.at e
  rw [List.getElem?_map, ev] at ev'
  cases ev'
  have go : datS s = some d → ∃ T, Tr H Z T v d ∧ ∀ a ∈ T, a ∈ S1 ++ S2 := fun q => by
    obtain ⟨w, T', ew, t, sb⟩ := en.tr q
    cases ew
    exact ⟨T', t, fun a m => List.mem_append_right _ (pm.mem_iff.mpr (List.mem_append_left _ (sb a m)))⟩
  cases s with
  | jk => cases l
  | io d' => cases l
  | fz d' => exact go l
  | ow b d' => exact go l
  | pu => cases l
  | dc m => cases l
  | dt m => cases l
  | sh m => cases l
  | xv _ _ m => cases l
  | ho _ _ => cases l
  | xw _ _ => cases l
  | al i π =>
    obtain ⟨s, d', e', w, e1, e2, e3, e4, wk⟩ := h.al k i π v e ev
    simp only [look, e1, e2, e3, Option.bind_some, Option.some.injEq] at l
    subst l
    obtain ⟨w', T', ew, t, sub⟩ := h.slot e1 e2
    rw [e4] at ew
    cases ew
    obtain ⟨⟨T2, t2, s2⟩, _⟩ := Tr.part t e3 wk
    exact ⟨T2, t2, fun a m => List.mem_append_left _ (sub a (s2 a m))⟩
/-- what stands on the stack is read -/
theorem Rel.readAt {k : Nat} (h : Rel C γ Θ σ H) (e : γ.tm[k]? = some s) (ev : Θ[k]? = some v) (l : look γ.sl s = some d) : ∃ T, Rep H T v d ∧ ∀ p b, C.pu = some (p, b) → p ∉ T := by
  obtain ⟨Z, S1, S2, h⟩ := h
  obtain ⟨T, t, sub⟩ := h.trAt e ev l
  obtain ⟨T', r, k⟩ := Tr.rep _ _ _ t
  refine ⟨T', r, fun p b q m => ?_⟩
  obtain ⟨_, n1, n2⟩ := h.pu p b q
  rcases k p m with m | m
  · exact n2 (sub p m)
  · exact n1 (.inl m)
theorem Rel.read (h : Rel C ⟨sl, s :: tm, n⟩ (v :: Θ) σ H) (l : look sl s = some d) : ∃ T, Rep H T v d ∧ ∀ p b, C.pu = some (p, b) → p ∉ T := h.readAt (k := 0) rfl rfl l
/-- the heap grows, the purse is drawn from -/
theorem Rel.heap (h : Rel C ⟨sl, tm, n⟩ Θ σ H) (k : ∀ a o, H a = some o → (∀ p b, C.pu = some (p, b) → a ≠ p) → H' a = some o) (kp : ∀ p b, C.pu = some (p, b) → PuAt H' p (b - n')) : Rel C ⟨sl, tm, n'⟩ Θ σ H' := by
  obtain ⟨Z, S1, S2, h⟩ := h
  have kt : ∀ t vs, H t = some (.tup vs) → H' t = some (.tup vs) := fun t vs e => k t _ e fun p b q z => by
    subst z
    obtain ⟨x, y, z, e2, _⟩ := (h.pu t b q).1
    rw [e] at e2
    cases e2
  have kz0 : ∀ a, C.tz Z a → ∀ o, H a = some o → H' a = some o := fun a z o e => k a o e fun p b q y => (h.pu p b q).2.1 (y ▸ z)
  have kz : ∀ a, Z a → ∀ o, H a = some o → H' a = some o := fun a z => kz0 a (.inl z)
  have ks : ∀ a ∈ S1 ++ S2, ∀ o, H a = some o → H' a = some o := fun a m o e => k a o e fun p b q y => (h.pu p b q).2.2 (y ▸ m)
  refine ⟨Z, S1, S2, fun a o e m => ⟨(h.fr a o e m).1, kz0 a (h.fr a o e m).1 o (h.fr a o e m).2⟩, h.es.mono kt (fun _ z => z) kz fun a m => ks a (List.mem_append_left _ m), h.et.mono kt (fun _ z => z) kz fun a m => ks a (List.mem_append_right _ m), h.nd, h.nz, fun p b q => ⟨kp p b q, (h.pu p b q).2⟩, fun a z => ?_, h.dj, fun j i π v e ev => ?_⟩
  · obtain ⟨o, e⟩ := h.ex a z
    exact ⟨o, kz0 a z o e⟩
  · obtain ⟨s, d', e', w, e1, e2, e3, e4, wk⟩ := h.al j i π v e ev
    obtain ⟨w', T', ew, t, sub⟩ := h.slot e1 e2
    rw [e4] at ew
    cases ew
    exact ⟨s, d', e', w, e1, e2, e3, e4, (Tr.part t e3 wk).2 H' kt fun a z => z.elim (kz a) fun m => ks a (List.mem_append_left _ (sub a m))⟩
theorem Rel.same (h : Rel C γ Θ σ H) (k : Same H H') : Rel C γ Θ σ H' := by
  obtain ⟨sl, tm, n⟩ := γ
  refine h.heap (fun a o e _ => k a o e) fun p b q => ?_
  obtain ⟨Z, S1, S2, h⟩ := h
  exact (h.pu p b q).1.mono (k p)
/-- something on the stack -/
theorem RelX.pushE {Z' : Reg} {T : List Addr} (h : RelX C Z S1 S2 ⟨sl, tm, n⟩ Θ σ H) (en : Ent C Z H T (some v) s) (nd : T.Nodup) (nT : ∀ a ∈ T, a ∉ S1 ++ S2 ∧ ¬ C.tz Z a ∧ ∀ p b, C.pu = some (p, b) → a ≠ p) (na : ∀ i π, s ≠ .al i π) : RelX C Z S1 (T ++ S2) ⟨sl, s :: tm, n⟩ (v :: Θ) σ H := by
  have pm : (S1 ++ (T ++ S2)).Perm (T ++ (S1 ++ S2)) := by
    rw [← List.append_assoc, ← List.append_assoc]
    exact List.Perm.append_right S2 List.perm_append_comm
  refine ⟨h.fr, h.es, .cons en h.et, pm.nodup_iff.mpr (List.nodup_append.mpr ⟨nd, h.nd, fun a m b m' e => (nT a m).1 (e ▸ m')⟩), fun a m => ?_, fun p b q => ⟨(h.pu p b q).1, (h.pu p b q).2.1, fun m => ?_⟩, h.ex, h.dj, fun k j π u e ev => ?_⟩
  · rcases List.mem_append.mp (pm.mem_iff.mp m) with m | m
    · exact (nT a m).2.1
    · exact h.nz a m
  · rcases List.mem_append.mp (pm.mem_iff.mp m) with m | m
    · exact (nT p m).2.2 p b q rfl
    · exact (h.pu p b q).2.2 m
  · cases k with
    | zero =>
      simp at e
      exact absurd e (na _ _)
    | succ k => exact h.al k j π u (by simpa using e) (by simpa using ev)
theorem Rel.push (h : Rel C ⟨sl, tm, n⟩ Θ σ H) (t : ∀ Z, Tr H Z [] v d) : Rel C ⟨sl, .fz d :: tm, n⟩ (v :: Θ) σ H := by
  obtain ⟨Z, S1, S2, h⟩ := h
  exact ⟨Z, S1, _, h.pushE (Z' := Z) (.fz (t Z)) List.nodup_nil (fun a m => nomatch m) (fun i π z => nomatch z)⟩
/-- a new tree on the stack -/
theorem Rel.new (h : Rel C ⟨sl, tm, n⟩ Θ σ H) (k : ∀ a o, H a = some o → (∀ p b, C.pu = some (p, b) → a ≠ p) → H' a = some o) (kp : ∀ p b, C.pu = some (p, b) → PuAt H' p (b - n'))
    (nw : ∃ S, Tr H' noReg S v d ∧ S.Nodup ∧ ∀ a ∈ S, H a = none) : Rel C ⟨sl, own d :: tm, n'⟩ (v :: Θ) σ H' := by
  have h' := h.heap k kp
  obtain ⟨S, t, nd, nw⟩ := nw
  unfold own
  by_cases hn : nolist d = true
  · rw [if_pos hn]
    exact h'.push fun Z => (Tr.nolist d S v t hn).2
  · rw [if_neg hn]
    obtain ⟨Z0, A1, A2, h0⟩ := h
    have old : ∀ a ∈ S, a ∉ A1 ++ A2 ∧ ¬ C.tz Z0 a ∧ ∀ p b, C.pu = some (p, b) → a ≠ p := fun a m => by
      refine ⟨fun z => ?_, fun z => ?_, fun p b q z => ?_⟩
      · rcases List.mem_append.mp z with z | z
        · obtain ⟨xs, e⟩ := h0.es.dom a z
          rw [nw a m] at e
          cases e
        · obtain ⟨xs, e⟩ := h0.et.dom a z
          rw [nw a m] at e
          cases e
      · obtain ⟨o, e⟩ := h0.ex a z
        rw [nw a m] at e
        cases e
      · obtain ⟨x, y, w, e, _⟩ := (h0.pu p b q).1
        rw [← z, nw a m] at e
        cases e
    -- the same regions
    have kt : ∀ t vs, H t = some (.tup vs) → H' t = some (.tup vs) := fun t vs e => k t _ e fun p b q z => by
      subst z
      obtain ⟨x, y, z, e2, _⟩ := (h0.pu t b q).1
      rw [e] at e2
      cases e2
    have kz0 : ∀ a, C.tz Z0 a → ∀ o, H a = some o → H' a = some o := fun a z o e => k a o e fun p b q y => (h0.pu p b q).2.1 (y ▸ z)
    have kz : ∀ a, Z0 a → ∀ o, H a = some o → H' a = some o := fun a z => kz0 a (.inl z)
    have ks : ∀ a ∈ A1 ++ A2, ∀ o, H a = some o → H' a = some o := fun a m o e => k a o e fun p b q y => (h0.pu p b q).2.2 (y ▸ m)
    have h1 : RelX C Z0 A1 A2 ⟨sl, tm, n'⟩ Θ σ H' := ⟨fun a o e m => ⟨(h0.fr a o e m).1, kz0 a (h0.fr a o e m).1 o (h0.fr a o e m).2⟩, h0.es.mono kt (fun _ z => z) kz fun a m => ks a (List.mem_append_left _ m), h0.et.mono kt (fun _ z => z) kz fun a m => ks a (List.mem_append_right _ m), h0.nd, h0.nz, fun p b q => ⟨kp p b q, (h0.pu p b q).2⟩, fun a z => by
      obtain ⟨o, e⟩ := h0.ex a z
      exact ⟨o, kz0 a z o e⟩, h0.dj, fun j i π v e ev => by
      obtain ⟨s, d', e', w, e1, e2, e3, e4, wk⟩ := h0.al j i π v e ev
      obtain ⟨w', T', ew, t, sub⟩ := h0.slot e1 e2
      rw [e4] at ew
      cases ew
      exact ⟨s, d', e', w, e1, e2, e3, e4, (Tr.part t e3 wk).2 H' kt fun a z => z.elim (kz a) fun m => ks a (List.mem_append_left _ (sub a m))⟩⟩
    exact ⟨Z0, A1, _, h1.pushE (Z' := Z0) (.ow t) nd old (fun i π z => nomatch z)⟩
theorem Rel.pop (h : Rel C ⟨sl, s :: tm, n⟩ (v :: Θ) σ H) : Rel C ⟨sl, tm, n⟩ Θ σ H := by
  obtain ⟨Z, S1, S2, h⟩ := h
  obtain ⟨fr, es, et, nd, nz, pu, ex, dj, al⟩ := h
  dsimp only at es et al pu
  cases et with
  | @cons S T _ _ _ _ e1 e2 =>
    have pm : (S1 ++ (S ++ T)).Perm (S ++ (S1 ++ T)) := by
      rw [← List.append_assoc, ← List.append_assoc]
      exact List.Perm.append_right T List.perm_append_comm
    exact ⟨Z, S1, T, fr, es, e2, (List.nodup_append.mp (pm.nodup_iff.mp nd)).2.1, fun a m => nz a (pm.mem_iff.mpr (List.mem_append_right _ m)), fun p b q => ⟨(pu p b q).1, (pu p b q).2.1, fun m => (pu p b q).2.2 (pm.mem_iff.mpr (List.mem_append_right _ m))⟩, ex, dj, fun k j π u e ev => al (k + 1) j π u (by simpa using e) (by simpa using ev)⟩
/-- a name is read -/
theorem Rel.varF (h : Rel C ⟨sl, tm, n⟩ Θ σ H) (e : sl[i]? = some (.fz d)) : ∃ v, σ[i]? = some (some v) ∧ Rel C ⟨sl, .fz d :: tm, n⟩ (v :: Θ) σ H := by
  obtain ⟨Z, S1, S2, h⟩ := h
  obtain ⟨v, T, R, ev, en, pm, _⟩ := h.es.at e
  cases en with
  | fz t => exact ⟨_, ev, Z, S1, _, h.pushE (Z' := Z) (.fz t) List.nodup_nil (fun a m => nomatch m) (fun i π z => nomatch z)⟩
theorem Rel.varP (h : Rel C ⟨sl, tm, n⟩ Θ σ H) (e : sl[i]? = some .pu) : ∃ p b, C.pu = some (p, b) ∧ σ[i]? = some (some (.ref p)) ∧ Rel C ⟨sl, .pu :: tm, n⟩ (.ref p :: Θ) σ H := by
  obtain ⟨Z, S1, S2, h⟩ := h
  obtain ⟨v, T, R, ev, en, pm, _⟩ := h.es.at e
  cases en with
  | pu q => exact ⟨_, _, q, ev, Z, S1, _, h.pushE (Z' := Z) (.pu q) List.nodup_nil (fun a m => nomatch m) (fun i π z => nomatch z)⟩
theorem Rel.varA (h : Rel C ⟨sl, tm, n⟩ Θ σ H) (e : sl[i]? = some s) (ed : datS s = some d) : ∃ v, σ[i]? = some (some v) ∧ Rel C ⟨sl, .al i [] :: tm, n⟩ (v :: Θ) σ H := by
  obtain ⟨Z, S1, S2, h⟩ := h
  obtain ⟨w, T, ew, t, sub⟩ := h.slot (γ := ⟨sl, tm, n⟩) e ed
  refine ⟨w, ew, Z, S1, S2, h.fr, h.es, .cons (S := []) (.al w i []) h.et, h.nd, h.nz, h.pu, h.ex, h.dj, fun k j π u e' ev => ?_⟩
  cases k with
  | zero =>
    simp at e' ev
    obtain ⟨rfl, rfl⟩ := e'
    subst ev
    exact ⟨_, d, d, w, e, ed, rfl, ew, .nil _⟩
  | succ k => exact h.al k j π u (by simpa using e') (by simpa using ev)
/-- an owned tree in a name is frozen -/
theorem Rel.frzS {b : Bool} (h : Rel C ⟨sl, tm, n⟩ Θ σ H) (e : sl[i]? = some (.ow b d)) : Rel C ⟨sl.set i (.fz d), tm, n⟩ Θ σ H := by
  obtain ⟨Z, S1, S2, h⟩ := h
  obtain ⟨v, T, R, ev, en, pm, k⟩ := h.es.at e
  have ndS := pm.nodup_iff.mp (List.nodup_append.mp h.nd).1
  obtain ⟨w, rfl, t⟩ := en.trO
  let Z' : Reg := fun a => Z a ∨ a ∈ T
  obtain ⟨S', es', pm'⟩ := k H Z' [] (some w) (.fz d) (fun _ _ h => h) (fun _ z => .inl z) (fun _ _ _ h => h) (fun _ _ _ h => h) (.fz (Tr.freeze (fun _ z => .inl z) _ _ _ t fun _ m => .inr m))
  have eσ : σ.set i (some w) = σ := by
    refine List.ext_getElem? fun j => ?_
    by_cases hj : i = j
    · subst hj
      rw [List.getElem?_set_self (List.getElem?_eq_some_iff.mp ev).1, ev]
    · rw [List.getElem?_set_ne hj]
  rw [eσ] at es'
  have sub : ∀ a ∈ S' ++ S2, a ∈ S1 ++ S2 ∧ a ∉ T := fun a m => by
    rcases List.mem_append.mp m with m | m
    · have mR : a ∈ R := by simpa using pm'.mem_iff.mp m
      exact ⟨List.mem_append_left _ (pm.mem_iff.mpr (List.mem_append_right _ mR)), fun mT => (List.nodup_append.mp ndS).2.2 a mT a mR rfl⟩
    · exact ⟨List.mem_append_right _ m, fun mT => (List.nodup_append.mp h.nd).2.2 a (pm.mem_iff.mpr (List.mem_append_left _ mT)) a m rfl⟩
  refine ⟨Z', S', S2, fun a o e m => ⟨(h.fr a o e m).1.imp .inl id, (h.fr a o e m).2⟩, es', h.et.mono (fun _ _ h => h) (fun _ z => .inl z) (fun _ _ _ h => h) (fun _ _ _ h => h), ?_, fun a m => ?_, fun p b q => ⟨(h.pu p b q).1, ?_, fun m => (h.pu p b q).2.2 (sub p m).1⟩, fun a z => ?_, fun a z => z.elim (h.dj a) fun m q => h.nz a (List.mem_append_left _ (pm.mem_iff.mpr (List.mem_append_left _ m))) (.inr q), fun j i' π v e' ev' => ?_⟩
  · refine List.nodup_append.mpr ⟨pm'.nodup_iff.mpr (by simpa using (List.nodup_append.mp ndS).2.1), (List.nodup_append.mp h.nd).2.1, fun a m b m' eab => ?_⟩
    have mR : a ∈ R := by simpa using pm'.mem_iff.mp m
    exact (List.nodup_append.mp h.nd).2.2 a (pm.mem_iff.mpr (List.mem_append_right _ mR)) b m' eab
  · rintro ((z | z) | z)
    · exact h.nz a (sub a m).1 (.inl z)
    · exact (sub a m).2 z
    · exact h.nz a (sub a m).1 (.inr z)
  · rintro ((z | z) | z)
    · exact (h.pu p b q).2.1 (.inl z)
    · exact (h.pu p b q).2.2 (List.mem_append_left _ (pm.mem_iff.mpr (List.mem_append_left _ z)))
    · exact (h.pu p b q).2.1 (.inr z)
  · rcases z with (z | z) | z
    · exact h.ex a (.inl z)
    rotate_left
    · exact h.ex a (.inr z)
    · obtain ⟨xs, q⟩ := Tr.dom _ _ _ t a z
      exact ⟨_, q⟩
  · obtain ⟨s, d', e1, w', g1, g2, g3, g4, wk⟩ := h.al j i' π v e' ev'
    by_cases hj : i = i'
    · subst hj
      change sl[i]? = some s at g1
      rw [e] at g1
      cases g1
      cases g2
      exact ⟨.fz d, d, e1, w', List.getElem?_set_self (List.getElem?_eq_some_iff.mp e).1, rfl, g3, g4, wk⟩
    · exact ⟨s, d', e1, w', (List.getElem?_set_ne hj).trans g1, g2, g3, g4, wk⟩
/-- an alias stays while its name does -/
theorem al_set {k j : Nat} {π : List Nat} (na : noAl i tm = true) (e : tm[k]? = some (.al j π)) : i ≠ j := fun z => by
  subst z
  have := List.all_eq_true.mp na _ (List.mem_of_getElem? e)
  simp at this
/-- an owned tree is taken out of a name -/
theorem Rel.mov {b : Bool} (h : Rel C ⟨sl, tm, n⟩ Θ σ H) (e : sl[i]? = some (.ow b d)) (na : noAl i tm = true) : ∃ v, σ[i]? = some (some v) ∧ Rel C ⟨sl.set i .jk, .ow b d :: tm, n⟩ (v :: Θ) σ H := by
  obtain ⟨Z, S1, S2, h⟩ := h
  obtain ⟨v, T, R, ev, en, pm, k⟩ := h.es.at e
  obtain ⟨w, rfl, t⟩ := en.trO
  obtain ⟨S', es', pm'⟩ := k H Z [] (some w) .jk (fun _ _ h => h) (fun _ z => z) (fun _ _ _ h => h) (fun _ _ _ h => h) (.jk _)
  have eσ : σ.set i (some w) = σ := by
    refine List.ext_getElem? fun j => ?_
    by_cases hj : i = j
    · subst hj
      rw [List.getElem?_set_self (List.getElem?_eq_some_iff.mp ev).1, ev]
    · rw [List.getElem?_set_ne hj]
  rw [eσ] at es'
  have pm2 : (S' ++ (T ++ S2)).Perm (S1 ++ S2) := by
    have : (S' ++ T).Perm S1 := (List.Perm.append_right T (by simpa using pm')).trans (List.perm_append_comm.trans pm.symm)
    rw [← List.append_assoc]
    exact List.Perm.append_right S2 this
  refine ⟨w, ev, Z, S', T ++ S2, h.fr, es', .cons en h.et, pm2.nodup_iff.mpr h.nd, fun a m => h.nz a (pm2.mem_iff.mp m), fun p b q => ⟨(h.pu p b q).1, (h.pu p b q).2.1, fun m => (h.pu p b q).2.2 (pm2.mem_iff.mp m)⟩, h.ex, h.dj, fun j i' π v e' ev' => ?_⟩
  cases j with
  | zero => simp at e'
  | succ j =>
    simp at e' ev'
    obtain ⟨s, d', e1, w', g1, g2, g3, g4, wk⟩ := h.al j i' π v e' ev'
    exact ⟨s, d', e1, w', (List.getElem?_set_ne (al_set na e')).trans g1, g2, g3, g4, wk⟩
/-- the top is stored in a name -/
theorem Rel.set (h : Rel C ⟨sl, s :: tm, n⟩ (v :: Θ) σ H) (hs : ∀ i π, s ≠ .al i π) (na : noAl i tm = true) : Rel C ⟨sl.set i s, tm, n⟩ Θ (σ.set i (some v)) H := by
  obtain ⟨Z, S1, S2, h⟩ := h
  obtain ⟨fr, es, et, nd, nz, pu, ex, dj, al⟩ := h
  dsimp only at es et al pu
  cases et with
  | @cons T S2 _ _ _ _ e1 e2 =>
    have len := es.length
    by_cases hi : i < sl.length
    · obtain ⟨s0, e0⟩ : ∃ s0, sl[i]? = some s0 := ⟨_, List.getElem?_eq_getElem hi⟩
      obtain ⟨v0, T0, R, ev, en, pm, k⟩ := es.at e0
      obtain ⟨S', es', pm'⟩ := k H Z T (some v) s (fun _ _ h => h) (fun _ z => z) (fun _ _ _ h => h) (fun _ _ _ h => h) e1
      have pm2 : (S1 ++ (T ++ S2)).Perm (T0 ++ (S' ++ S2)) := by
        have q : (S1 ++ (T ++ S2)).Perm ((T0 ++ R) ++ (T ++ S2)) := List.Perm.append_right _ pm
        refine q.trans ?_
        have q2 : (R ++ (T ++ S2)).Perm (S' ++ S2) := by
          rw [← List.append_assoc]
          exact List.Perm.append_right S2 (List.perm_append_comm.trans pm'.symm)
        rw [List.append_assoc]
        exact List.Perm.append_left T0 q2
      refine ⟨Z, S', S2, fr, es', e2, (List.nodup_append.mp (pm2.nodup_iff.mp nd)).2.1, fun a m => nz a (pm2.mem_iff.mpr (List.mem_append_right _ m)), fun p b q => ⟨(pu p b q).1, (pu p b q).2.1, fun m => (pu p b q).2.2 (pm2.mem_iff.mpr (List.mem_append_right _ m))⟩, ex, dj, fun j i' π u e' ev' => ?_⟩
      obtain ⟨s1, d', e3, w', g1, g2, g3, g4, wk⟩ := al (j + 1) i' π u (by simpa using e') (by simpa using ev')
      have hj := al_set na e'
      exact ⟨s1, d', e3, w', (List.getElem?_set_ne hj).trans g1, g2, g3, (List.getElem?_set_ne hj).trans g4, wk⟩
    · have e3 : sl.set i s = sl := List.set_eq_of_length_le (by omega)
      have e4 : σ.set i (some v) = σ := List.set_eq_of_length_le (by omega)
      rw [e3, e4]
      exact Rel.pop ⟨Z, S1, _, fr, es, .cons e1 e2, nd, nz, pu, ex, dj, al⟩
/-- a name is forgotten -/
theorem Rel.jk (h : Rel C ⟨sl, tm, n⟩ Θ σ H) (na : noAl i tm = true) (o : Option V) : Rel C ⟨sl.set i .jk, tm, n⟩ Θ (σ.set i o) H := by
  obtain ⟨Z, S1, S2, h⟩ := h
  have len := h.es.length
  by_cases hi : i < sl.length
  · obtain ⟨s0, e0⟩ : ∃ s0, sl[i]? = some s0 := ⟨_, List.getElem?_eq_getElem hi⟩
    obtain ⟨v0, T0, R, ev, en, pm, k⟩ := h.es.at (ss := sl) e0
    obtain ⟨S', es', pm'⟩ := k H Z [] o .jk (fun _ _ h => h) (fun _ z => z) (fun _ _ _ h => h) (fun _ _ _ h => h) (.jk _)
    have pm2 : (S1 ++ S2).Perm (T0 ++ (S' ++ S2)) := by
      rw [← List.append_assoc]
      exact List.Perm.append_right S2 (pm.trans (List.Perm.append_left T0 (by simpa using pm'.symm)))
    refine ⟨Z, S', S2, h.fr, es', h.et, (List.nodup_append.mp (pm2.nodup_iff.mp h.nd)).2.1, fun a m => h.nz a (pm2.mem_iff.mpr (List.mem_append_right _ m)), fun p b q => ⟨(h.pu p b q).1, (h.pu p b q).2.1, fun m => (h.pu p b q).2.2 (pm2.mem_iff.mpr (List.mem_append_right _ m))⟩, h.ex, h.dj, fun j i' π u e' ev' => ?_⟩
    obtain ⟨s1, d', e3, w', g1, g2, g3, g4, wk⟩ := h.al j i' π u e' ev'
    have hj := al_set na e'
    exact ⟨s1, d', e3, w', (List.getElem?_set_ne hj).trans g1, g2, g3, (List.getElem?_set_ne hj).trans g4, wk⟩
  · have e3 : sl.set i .jk = sl := List.set_eq_of_length_le (by omega)
    have e4 : σ.set i o = σ := List.set_eq_of_length_le (by change σ.length = sl.length at len; omega)
    rw [e3, e4]
    exact ⟨Z, S1, S2, h⟩
end
mutual
theorem repU {H : Hp} : ∀ (d : D) (v : V) (A B : List Addr), Rep H A v d → Rep H B v d → A = B
  | .none, _, _, _, h, k => by cases h; cases k; rfl
  | .bool b, _, _, _, h, k => by cases h; cases k; rfl
  | .int i, _, _, _, h, k => by cases h; cases k; rfl
  | .str x, _, _, _, h, k => by cases h; cases k; rfl
  | .list ds, _, _, _, h, k => by
    cases h with
    | lst h1 h2 =>
      cases k with
      | lst k1 k2 =>
        rw [h1] at k1
        cases k1
        rw [repsU ds _ _ _ h2 k2]
  | .tuple ds, _, _, _, h, k => by
    cases h with
    | tup h1 h2 =>
      cases k with
      | tup k1 k2 =>
        rw [h1] at k1
        cases k1
        exact repsU ds _ _ _ h2 k2
  | .dict _, _, _, _, h, _ => by cases h
theorem repsU {H : Hp} : ∀ (ds : List D) (vs : List V) (A B : List Addr), Reps H A vs ds → Reps H B vs ds → A = B
  | [], _, _, _, h, k => by cases h; cases k; rfl
  | d :: ds, _, _, _, h, k => by
    cases h with
    | cons h1 h2 =>
      cases k with
      | cons k1 k2 => rw [repU d _ _ _ h1 k1, repsU ds _ _ _ h2 k2]
end
section
variable {C : Cn} {Z : Reg} {S1 S2 : List Addr} {γ : VSt} {Θ : List V} {σ : L2.St} {H H' : Hp} {sl tm : List Sl} {n n' : Int} {v : V} {s : Sl} {d : D} {i : Nat}
/-- the top is frozen -/
theorem Rel.frzT {b : Bool} (h : Rel C ⟨sl, .ow b d :: tm, n⟩ (v :: Θ) σ H) : Rel C ⟨sl, .fz d :: tm, n⟩ (v :: Θ) σ H := by
  obtain ⟨Z, S1, S2, h⟩ := h
  obtain ⟨fr, es, et, nd, nz, pu, ex, dj, al⟩ := h
  dsimp only at es et al pu
  cases et with
  | @cons T S2 _ _ _ _ e1 e2 =>
    obtain ⟨w, ew, t⟩ := e1.trO
    cases ew
    let Z' : Reg := fun a => Z a ∨ a ∈ T
    have pm : (S1 ++ (T ++ S2)).Perm (T ++ (S1 ++ S2)) := by
      rw [← List.append_assoc, ← List.append_assoc]
      exact List.Perm.append_right S2 List.perm_append_comm
    have nd2 := List.nodup_append.mp (pm.nodup_iff.mp nd)
    refine ⟨Z', S1, [] ++ S2, fun a o e m => ⟨(fr a o e m).1.imp .inl id, (fr a o e m).2⟩, es.mono (fun _ _ h => h) (fun _ z => .inl z) (fun _ _ _ h => h) (fun _ _ _ h => h), .cons (.fz (Tr.freeze (fun _ z => .inl z) _ _ _ t fun _ m => .inr m)) (e2.mono (fun _ _ h => h) (fun _ z => .inl z) (fun _ _ _ h => h) (fun _ _ _ h => h)), nd2.2.1, fun a m => ?_, fun p b q => ⟨(pu p b q).1, ?_, fun m => (pu p b q).2.2 (pm.mem_iff.mpr (List.mem_append_right _ m))⟩, fun a z => ?_, fun a z => z.elim (dj a) fun m q => nz a (pm.mem_iff.mpr (List.mem_append_left _ m)) (.inr q), fun j i' π u e' ev' => ?_⟩
    · rintro ((z | z) | z)
      · exact nz a (pm.mem_iff.mpr (List.mem_append_right _ m)) (.inl z)
      · exact nd2.2.2 a z a m rfl
      · exact nz a (pm.mem_iff.mpr (List.mem_append_right _ m)) (.inr z)
    · rintro ((z | z) | z)
      · exact (pu p b q).2.1 (.inl z)
      · exact (pu p b q).2.2 (pm.mem_iff.mpr (List.mem_append_left _ z))
      · exact (pu p b q).2.1 (.inr z)
    · rcases z with (z | z) | z
      · exact ex a (.inl z)
      rotate_left
      · exact ex a (.inr z)
      · obtain ⟨xs, q⟩ := Tr.dom _ _ _ t a z
        exact ⟨_, q⟩
    · cases j with
      | zero => simp at e'
      | succ j => exact al (j + 1) i' π u (by simpa using e') (by simpa using ev')
def hoq (l : Bool) (vs : List V) : HO := if l then .lst vs else .tup vs
def dq (l : Bool) (ds : List D) : D := if l then .list ds else .tuple ds
theorem Tr.seq {S : List Addr} {l : Bool} {ds : List D} (t : Tr H Z S v (dq l ds)) : ∃ a vs T, v = .ref a ∧ H a = some (hoq l vs) ∧ Trs H Z T vs ds ∧ ∀ x ∈ T, x ∈ S := by
  cases l with
  | true =>
    cases t with
    | lst e t => exact ⟨_, _, _, rfl, e, t, fun x m => List.mem_cons_of_mem _ m⟩
    | lstZ z e t => exact ⟨_, _, _, rfl, e, t, fun x m => m⟩
  | false =>
    cases t with
    | tup e t => exact ⟨_, _, _, rfl, e, t, fun x m => m⟩
/-- what an item of it is -/
def subS (s : Sl) (k : Nat) (d : D) : Sl := match s with
  | .ow true _ => own d
  | .al i π => if nolist d then .fz d else .al i (π ++ [k])
  | _ => .fz d
theorem RelX.frame (h : RelX C Z S1 S2 γ Θ σ H) : ∀ a ∈ S1 ++ S2, ¬ C.tz Z a ∧ ∀ p b, C.pu = some (p, b) → a ≠ p := fun a m => ⟨h.nz a m, fun p b q z => (h.pu p b q).2.2 (z ▸ m)⟩
/-- an item of the top -/
theorem Rel.item {l : Bool} {ds : List D} (h : Rel C ⟨sl, s :: tm, n⟩ (v :: Θ) σ H) (lk : look sl s = some (dq l ds)) : ∃ a vs, v = .ref a ∧ H a = some (hoq l vs) ∧ vs.length = ds.length ∧
    ∀ k d w, ds[k]? = some d → vs[k]? = some w → Rel C ⟨sl, subS s k d :: tm, n⟩ (w :: Θ) σ H := by
  -- as a whole
  have whole : ∃ a vs, v = .ref a ∧ H a = some (hoq l vs) ∧ vs.length = ds.length := by
    obtain ⟨Z, S1, S2, h⟩ := h
    obtain ⟨T, t, _⟩ := h.trAt (k := 0) rfl rfl lk
    obtain ⟨a, vs, T', rfl, e, ts, _⟩ := t.seq
    exact ⟨a, vs, rfl, e, ts.length⟩
  obtain ⟨a, vs, rfl, e, el⟩ := whole
  have eqv : ∀ us, H a = some (hoq l us) → us = vs := fun us q => by
    rw [e] at q
    cases l with
    | true => cases q; rfl
    | false => cases q; rfl
  refine ⟨a, vs, rfl, e, el, fun k x w hx hw => ?_⟩
  have hz : ∀ {b : Bool} {d' : D}, Rel C ⟨sl, .fz d' :: tm, n⟩ (.ref a :: Θ) σ H → d' = dq l ds → Rel C ⟨sl, .fz x :: tm, n⟩ (w :: Θ) σ H := fun {b d'} h ed => by
    subst ed
    obtain ⟨Z, S1, S2, h⟩ := h
    obtain ⟨fr, es, et, nd, nz, pu, ex, dj, al⟩ := h
    dsimp only at es et al pu
    cases et with
    | cons e1 e2 =>
      cases e1 with
      | fz t =>
        obtain ⟨a', us, T', ea, e', ts, sub⟩ := t.seq
        cases ea
        obtain rfl := eqv us e'
        obtain ⟨T1, R1, t1, pm⟩ := ts.get hx hw
        have e0 : T1 = [] := by
          cases T1 with
          | nil => rfl
          | cons y ys => exact nomatch sub y (pm.mem_iff.mpr (by simp))
        subst e0
        exact ⟨Z, S1, _, fr, es, .cons (S := []) (.fz t1) e2, nd, nz, pu, ex, dj, fun j i' π u e' ev' => by
          cases j with
          | zero => simp at e'
          | succ j => exact al (j + 1) i' π u (by simpa using e') (by simpa using ev')⟩
  cases s with
  | jk => cases lk
  | dc m => cases lk
  | dt m => cases lk
  | sh m => cases lk
  | xv _ _ m => cases lk
  | ho _ _ => cases lk
  | xw _ _ => cases lk
  | io d' => cases lk
  | pu => cases lk
  | fz d' =>
    cases lk
    exact hz (b := true) h rfl
  | ow b d' =>
    cases lk
    cases b with
    | false => exact hz (b := true) h.frzT rfl
    | true =>
      obtain ⟨Z, S1, S2, h⟩ := h
      obtain ⟨fr, es, et, nd, nz, pu, ex, dj, al⟩ := h
      dsimp only at es et al pu
      cases et with
      | @cons T S2 _ _ _ _ e1 e2 =>
        cases e1 with
        | ow t =>
          obtain ⟨a', us, T', ea, e', ts, sub⟩ := t.seq
          cases ea
          obtain rfl := eqv us e'
          obtain ⟨T1, R1, t1, pm⟩ := ts.get hx hw
          show Rel C ⟨sl, own x :: tm, n⟩ (w :: Θ) σ H
          have h0 : RelX C Z S1 S2 ⟨sl, tm, n⟩ Θ σ H := by
            have p2 : (S1 ++ (T ++ S2)).Perm (T ++ (S1 ++ S2)) := by
              rw [← List.append_assoc, ← List.append_assoc]
              exact List.Perm.append_right S2 List.perm_append_comm
            exact ⟨fr, es, e2, (List.nodup_append.mp (p2.nodup_iff.mp nd)).2.1, fun a m => nz a (p2.mem_iff.mpr (List.mem_append_right _ m)), fun p b q => ⟨(pu p b q).1, (pu p b q).2.1, fun m => (pu p b q).2.2 (p2.mem_iff.mpr (List.mem_append_right _ m))⟩, ex, dj, fun k j π u e ev => al (k + 1) j π u (by simpa using e) (by simpa using ev)⟩
          unfold own
          by_cases hn : nolist x = true
          · rw [if_pos hn]
            exact Rel.push ⟨Z, S1, S2, h0⟩ fun Z => (Tr.nolist x T1 w t1 hn).2
          · rw [if_neg hn]
            have ndT : T.Nodup := (List.nodup_append.mp (List.nodup_append.mp nd).2.1).1
            have sub1 : ∀ y ∈ T1, y ∈ T := fun y m => sub y (pm.mem_iff.mpr (List.mem_append_left _ m))
            have disj : ∀ y ∈ T, y ∉ S1 ++ S2 := fun y m z => by
              rcases List.mem_append.mp z with z | z
              · exact (List.nodup_append.mp nd).2.2 y z y (List.mem_append_left _ m) rfl
              · exact (List.nodup_append.mp (List.nodup_append.mp nd).2.1).2.2 y m y z rfl
            have nd1 : T1.Nodup := by
              cases l with
              | true =>
                cases t with
                | lst g1 g2 =>
                  rw [e'] at g1
                  cases g1
                  obtain ⟨T2, R2, t2, pm2⟩ := g2.get hx hw
                  have := (List.nodup_append.mp (pm2.nodup_iff.mp (List.nodup_cons.mp ndT).2)).1
                  have uq : T1 = T2 := repU _ _ _ _ (Tr.repO _ _ _ t1) (Tr.repO _ _ _ t2)
                  rw [uq]
                  exact this
                | lstZ z _ _ => exact z.elim
              | false =>
                cases t with
                | tup g1 g2 =>
                  rw [e'] at g1
                  cases g1
                  obtain ⟨T2, R2, t2, pm2⟩ := g2.get hx hw
                  have := (List.nodup_append.mp (pm2.nodup_iff.mp ndT)).1
                  have uq : T1 = T2 := repU _ _ _ _ (Tr.repO _ _ _ t1) (Tr.repO _ _ _ t2)
                  rw [uq]
                  exact this
            exact ⟨Z, S1, _, h0.pushE (Z' := Z) (.ow t1) nd1 (fun y m => ⟨disj y (sub1 y m), nz y (List.mem_append_right _ (List.mem_append_left _ (sub1 y m))), fun p b q z => (pu p b q).2.2 (z ▸ List.mem_append_right _ (List.mem_append_left _ (sub1 y m)))⟩) (fun i π z => nomatch z)⟩
  | al j π =>
    show Rel C ⟨sl, (if nolist x then .fz x else .al j (π ++ [k])) :: tm, n⟩ (w :: Θ) σ H
    by_cases hn : nolist x = true
    · rw [if_pos hn]
      have : ∃ T Z', Tr H Z' T w x := by
        obtain ⟨Z, S1, S2, h⟩ := h
        obtain ⟨T, t, _⟩ := h.trAt (k := 0) rfl rfl lk
        obtain ⟨a', us, T', ea, e', ts, _⟩ := t.seq
        cases ea
        obtain rfl := eqv us e'
        obtain ⟨T1, R1, t1, pm⟩ := ts.get hx hw
        exact ⟨_, _, t1⟩
      obtain ⟨T, Z', t⟩ := this
      exact h.pop.push fun Z => (Tr.nolist x T w t hn).2
    · rw [if_neg hn]
      obtain ⟨Z, S1, S2, h⟩ := h
      obtain ⟨fr, es, et, nd, nz, pu, ex, dj, al⟩ := h
      dsimp only at es et al pu
      cases et with
      | cons e1 e2 =>
        cases e1
        refine ⟨Z, S1, _, fr, es, .cons (S := []) (.al w j _) e2, nd, nz, pu, ex, dj, fun m j' π' u e' ev' => ?_⟩
        cases m with
        | succ m => exact al (m + 1) j' π' u (by simpa using e') (by simpa using ev')
        | zero =>
          simp at e' ev'
          obtain ⟨rfl, rfl⟩ := e'
          subst ev'
          obtain ⟨s, d', e1, w', g1, g2, g3, g4, wk⟩ := al 0 j π (.ref a) rfl rfl
          change sl[j]? = some s at g1
          have ee : e1 = dq l ds := by
            simp only [look, g1, g2, g3, Option.bind_some, Option.some.injEq] at lk
            exact lk
          subst ee
          refine ⟨s, d', x, w', g1, g2, atP_snoc π d' _ ds k x g3 ?_ hx, g4, wk.snoc rfl ?_ hw⟩
          · cases l with
            | true => exact .inl rfl
            | false => exact .inr rfl
          · cases l with
            | true => exact .inl e
            | false => exact .inr e
end
structure Fl (C : Cn) (Z : Reg) (S1 S2 : List Addr) (H : Hp) (A : List Addr) : Prop where
  nd : (A ++ (S1 ++ S2)).Nodup
  ok : ∀ a ∈ A, ¬ C.tz Z a ∧ (∀ p b, C.pu = some (p, b) → a ≠ p) ∧ ∃ o, H a = some o
abbrev rgn (b : Bool) (Z : Reg) : Reg := if b then noReg else Z
theorem nodup_cnt {l : List Addr} : l.Nodup ↔ ∀ a, l.count a ≤ 1 := List.nodup_iff_count
section
variable {C : Cn} {Z : Reg} {S1 S2 A : List Addr} {γ : VSt} {Θ : List V} {σ : L2.St} {H H' : Hp} {sl tm : List Sl} {n n' : Int} {v : V} {s : Sl} {d : D} {i : Nat}
theorem Ents.split {ss ts : List Sl} : ∀ {vs us : List (Option V)} {S : List Addr}, vs.length = ss.length → Ents C Z H S (vs ++ us) (ss ++ ts) → ∃ A B, S = A ++ B ∧ Ents C Z H A vs ss ∧ Ents C Z H B us ts := by
  induction ss with
  | nil =>
    intro vs us S e h
    match vs, e with
    | [], _ => exact ⟨[], S, rfl, .nil, h⟩
  | cons s ss ih =>
    intro vs us S e h
    match vs, e with
    | v :: vs, e =>
      cases h with
      | cons h1 h2 =>
        obtain ⟨A, B, rfl, a, b⟩ := ih (by simpa using e) h2
        exact ⟨_, B, (List.append_assoc ..).symm, .cons h1 a, b⟩
theorem Ents.append {ss ts : List Sl} : ∀ {vs us : List (Option V)} {S T : List Addr}, Ents C Z H S vs ss → Ents C Z H T us ts → Ents C Z H (S ++ T) (vs ++ us) (ss ++ ts) := by
  induction ss with
  | nil =>
    intro vs us S T h k
    cases h
    exact k
  | cons s ss ih =>
    intro vs us S T h k
    cases h with
    | cons h1 h2 =>
      have := Ents.cons h1 (ih h2 k)
      rw [← List.append_assoc] at this
      exact this
theorem Ents.rev {ss : List Sl} : ∀ {vs : List (Option V)} {S : List Addr}, Ents C Z H S vs ss → ∃ S', S'.Perm S ∧ Ents C Z H S' vs.reverse ss.reverse := by
  induction ss with
  | nil =>
    intro vs S h
    cases h
    exact ⟨_, .refl _, .nil⟩
  | cons s ss ih =>
    intro vs S h
    cases h with
    | @cons A B _ _ _ _ h1 h2 =>
      obtain ⟨S', p, q⟩ := ih h2
      have := Ents.append q (.cons h1 .nil)
      rw [List.append_nil] at this
      rw [List.reverse_cons, List.reverse_cons]
      exact ⟨_, List.perm_append_comm.trans (List.Perm.append_left A p), this⟩
theorem RelX.popF {ss : List Sl} {us : List V} (h : RelX C Z S1 S2 ⟨sl, ss ++ tm, n⟩ (us ++ Θ) σ H) (el : us.length = ss.length) : ∃ A B, Ents C Z H A (us.map some) ss ∧ RelX C Z S1 B ⟨sl, tm, n⟩ Θ σ H ∧ Fl C Z S1 B H A := by
  obtain ⟨fr, es, et, nd, nz, pu, ex, dj, al⟩ := h
  dsimp only at es et al pu
  rw [List.map_append] at et
  obtain ⟨A, B, rfl, e1, e2⟩ := et.split (by rw [List.length_map, el])
  have pm : (S1 ++ (A ++ B)).Perm (A ++ (S1 ++ B)) := by
    rw [← List.append_assoc, ← List.append_assoc]
    exact List.Perm.append_right B List.perm_append_comm
  have nd2 := pm.nodup_iff.mp nd
  refine ⟨A, B, e1, ⟨fr, es, e2, (List.nodup_append.mp nd2).2.1, fun a m => nz a (pm.mem_iff.mpr (List.mem_append_right _ m)), fun p b q => ⟨(pu p b q).1, (pu p b q).2.1, fun m => (pu p b q).2.2 (pm.mem_iff.mpr (List.mem_append_right _ m))⟩, ex, dj, fun k j π u e ev => al (ss.length + k) j π u ?_ ?_⟩, nd2, fun a m => ⟨nz a (pm.mem_iff.mpr (List.mem_append_left _ m)), fun p b q z => (pu p b q).2.2 (z ▸ pm.mem_iff.mpr (List.mem_append_left _ m)), e1.dom a m⟩⟩
  · rw [List.getElem?_append_right (by omega)]
    simpa using e
  · rw [List.getElem?_append_right (by omega)]
    simpa [el] using ev
theorem RelX.pushF {A' Dr : List Addr} (h : RelX C Z S1 S2 ⟨sl, tm, n⟩ Θ σ H) (f : Fl C Z S1 S2 H A) (pm : A.Perm (A' ++ Dr)) (en : Ent C Z H A' (some v) s) (na : ∀ i π, s ≠ .al i π) : RelX C Z S1 (A' ++ S2) ⟨sl, s :: tm, n⟩ (v :: Θ) σ H := by
  have sub : ∀ a ∈ A', a ∈ A := fun a m => pm.mem_iff.mpr (List.mem_append_left _ m)
  refine h.pushE (Z' := Z) en (List.nodup_append.mp (pm.nodup_iff.mp (List.nodup_append.mp f.nd).1)).1 (fun a m => ⟨fun z => (List.nodup_append.mp f.nd).2.2 a (sub a m) a z rfl, (f.ok a (sub a m)).1, (f.ok a (sub a m)).2.1⟩) na
theorem RelX.growF (h : RelX C Z S1 S2 γ Θ σ H) (f : Fl C Z S1 S2 H A) : RelX C (fun a => Z a ∨ a ∈ A) S1 S2 γ Θ σ H := by
  refine ⟨fun a o e m => ⟨(h.fr a o e m).1.imp .inl id, (h.fr a o e m).2⟩, h.es.mono (fun _ _ h => h) (fun _ z => .inl z) (fun _ _ _ h => h) (fun _ _ _ h => h), h.et.mono (fun _ _ h => h) (fun _ z => .inl z) (fun _ _ _ h => h) (fun _ _ _ h => h), h.nd, fun a m => ?_, fun p b q => ⟨(h.pu p b q).1, ?_, (h.pu p b q).2.2⟩, fun a z => ?_, fun a z => z.elim (h.dj a) fun m q => (f.ok a m).1 (.inr q), h.al⟩
  · rintro ((z | z) | z)
    · exact h.nz a m (.inl z)
    · exact (List.nodup_append.mp f.nd).2.2 a z a m rfl
    · exact h.nz a m (.inr z)
  · rintro ((z | z) | z)
    · exact (h.pu p b q).2.1 (.inl z)
    · exact (f.ok p z).2.1 p b q rfl
    · exact (h.pu p b q).2.1 (.inr z)
  · rcases z with (z | z) | z
    · exact h.ex a (.inl z)
    rotate_left
    · exact h.ex a (.inr z)
    · obtain ⟨xs, e⟩ := (f.ok a z).2.2
      exact ⟨_, e⟩
/-- what items give -/
def con : Sl → Option (Bool × D)
  | .fz d => some (nolist d, d)
  | .ow b d => some (b, d)
  | _ => none
def cont : List Sl → Option (Bool × List D)
  | [] => some (true, [])
  | s :: ss => (con s).bind fun x => (cont ss).bind fun y => some (x.1 && y.1, x.2 :: y.2)
theorem Ent.con {S : List Addr} {b : Bool} (h : Ent C Z H S (some v) s) (e : con s = some (b, d)) : Tr H (rgn b Z) S v d := by
  have up : ∀ {S d}, Tr H noReg S v d → Tr H (rgn b Z) S v d := fun {S d} t => Tr.mono (fun _ _ h => h) (fun _ z => z.elim) (fun _ z => z.elim) _ _ _ t fun _ _ _ h => h
  cases h with
  | jk v => cases e
  | fz t =>
    simp only [G.con, Option.some.injEq, Prod.mk.injEq] at e
    obtain ⟨e1, rfl⟩ := e
    cases b with
    | true => exact (Tr.nolist _ _ _ t e1).2
    | false => exact t
  | ow t =>
    simp only [G.con, Option.some.injEq, Prod.mk.injEq] at e
    obtain ⟨e1, rfl⟩ := e
    exact up t
  | sp h1 t =>
    simp only [G.con, Option.some.injEq, Prod.mk.injEq] at e
    obtain ⟨rfl, rfl⟩ := e
    exact .lst h1 t
  | al v i π => cases e
  | pu e' => cases e
  | io t e' => cases e
  | dc _ _ => cases e
  | dt _ _ => cases e
  | sh _ _ => cases e
  | xv _ _ => cases e
  | ho _ _ _ => cases e
  | xw _ => cases e
theorem rgn_mono {b b' : Bool} (h : b' = true → b = true) : ∀ a, rgn b Z a → rgn b' Z a := fun a z => by
  cases b with
  | true => exact z.elim
  | false =>
    cases b' with
    | true => exact absurd (h rfl) (by simp)
    | false => exact z
theorem Tr.weak {Z' : Reg} {S : List Addr} (t : Tr H Z S v d) (h : ∀ a, Z a → Z' a) : Tr H Z' S v d := Tr.mono (fun _ _ h => h) h (fun _ _ _ h => h) _ _ _ t fun _ _ _ h => h
theorem Trs.weak {Z' : Reg} {S : List Addr} {vs : List V} {ds : List D} (t : Trs H Z S vs ds) (h : ∀ a, Z a → Z' a) : Trs H Z' S vs ds := Trs.mono (fun _ _ h => h) h (fun _ _ _ h => h) _ _ _ t fun _ _ _ h => h
theorem Ents.cont : ∀ {ss : List Sl} {vs : List V} {S : List Addr} {b : Bool} {ds : List D}, Ents C Z H S (vs.map some) ss → cont ss = some (b, ds) → Trs H (rgn b Z) S vs ds
  | [], [], _, b, ds, h, e => by
    cases h
    simp only [G.cont, Option.some.injEq, Prod.mk.injEq] at e
    obtain ⟨rfl, rfl⟩ := e
    exact .nil
  | [], v :: vs, _, b, ds, h, e => by cases h
  | s :: ss, [], _, b, ds, h, e => by cases h
  | s :: ss, v :: vs, _, b, ds, h, e => by
    cases h with
    | cons h1 h2 =>
      simp only [G.cont] at e
      cases q1 : con s with
      | none => rw [q1] at e; cases e
      | some x =>
        cases q2 : G.cont ss with
        | none => rw [q1, q2] at e; cases e
        | some y =>
          rw [q1, q2] at e
          simp only [Option.bind_some, Option.some.injEq, Prod.mk.injEq] at e
          obtain ⟨rfl, rfl⟩ := e
          have t1 := h1.con (b := x.1) (d := x.2) q1
          have t2 := Ents.cont (b := y.1) (ds := y.2) h2 q2
          refine .cons (t1.weak (rgn_mono fun z => ?_)) (t2.weak (rgn_mono fun z => ?_))
          · rw [Bool.and_eq_true] at z
            exact z.1
          · rw [Bool.and_eq_true] at z
            exact z.2
/-- a new container -/
def mkS (l b : Bool) (ds : List D) : Sl := if b then own (dq l ds) else if l then .ow false (.list ds) else .fz (.tuple ds)
theorem Tr.mk {l : Bool} {S : List Addr} {vs : List V} {ds : List D} {p : Addr} (e : H p = some (hoq l vs)) (t : Trs H Z S vs ds) : Tr H Z (if l then p :: S else S) (.ref p) (dq l ds) := by
  cases l with
  | true => exact .lst e t
  | false => exact .tup e t
theorem Rel.cont {ss : List Sl} {vs : List V} {b l : Bool} {ds : List D} {p : Addr} (h : Rel C ⟨sl, ss.reverse ++ tm, n⟩ (vs.reverse ++ Θ) σ H) (el : vs.length = ss.length) (e : cont ss = some (b, ds)) (hp : H p = none) :
    Rel C ⟨sl, mkS l b ds :: tm, n⟩ (.ref p :: Θ) σ (upd H p (hoq l vs)) := by
  have h1 := h.same (same_upd (o := hoq l vs) hp)
  obtain ⟨Z0, A1, A2, h0⟩ := h
  -- p is new
  have newp : ∀ a, (∃ xs, H a = some xs) → a ≠ p := fun a ⟨o, z⟩ e => by rw [e, hp] at z; cases z
  obtain ⟨A0, B0, e0, r0, f0⟩ := h0.popF (by simp [el])
  have kz : ∀ a o, H a = some o → upd H p (hoq l vs) a = some o := same_upd hp
  have r1 : RelX C Z0 A1 B0 ⟨sl, tm, n⟩ Θ σ (upd H p (hoq l vs)) := by
    refine ⟨fun a o e m => ⟨(r0.fr a o e m).1, kz a o (r0.fr a o e m).2⟩, r0.es.mono (fun t vs e => kz t _ e) (fun _ z => z) (fun a _ o e => kz a o e) (fun a _ o e => kz a o e), r0.et.mono (fun t vs e => kz t _ e) (fun _ z => z) (fun a _ o e => kz a o e) (fun a _ o e => kz a o e), r0.nd, r0.nz, fun q b e => ⟨(r0.pu q b e).1.mono (kz q), (r0.pu q b e).2⟩, fun a z => ?_, r0.dj, fun k j π u e ev => ?_⟩
    · obtain ⟨o, e⟩ := r0.ex a z
      exact ⟨o, kz a o e⟩
    · obtain ⟨s, d', e', w, g1, g2, g3, g4, wk⟩ := r0.al k j π u e ev
      obtain ⟨w', T', ew, t, sub⟩ := r0.slot g1 g2
      rw [g4] at ew
      cases ew
      exact ⟨s, d', e', w, g1, g2, g3, g4, (Tr.part t g3 wk).2 _ (fun t vs e => kz t _ e) fun a _ o e => kz a o e⟩
  obtain ⟨A, pmA, e3⟩ := e0.rev
  rw [← List.map_reverse, List.reverse_reverse, List.reverse_reverse] at e3
  have f1 : Fl C Z0 A1 B0 (upd H p (hoq l vs)) A := ⟨(List.Perm.append_right _ pmA).nodup_iff.mpr f0.nd, fun a m => by
    obtain ⟨q1, q2, xs, q3⟩ := f0.ok a (pmA.mem_iff.mp m)
    exact ⟨q1, q2, xs, kz a _ q3⟩⟩
  have e4 : Ents C Z0 (upd H p (hoq l vs)) A (vs.map some) ss := e3.mono (fun t vs e => kz t _ e) (fun _ z => z) (fun a _ o e => kz a o e) (fun a _ o e => kz a o e)
  have t := e4.cont e
  have upS : upd H p (hoq l vs) p = some (hoq l vs) := upd_same
  -- the new list itself
  have f2 : ∀ xs, hoq l vs = .lst xs → Fl C Z0 A1 B0 (upd H p (hoq l vs)) (p :: A) := fun xs ex => by
    refine ⟨?_, fun a m => ?_⟩
    · rw [List.cons_append]
      refine List.nodup_cons.mpr ⟨fun m => ?_, f1.nd⟩
      rcases List.mem_append.mp m with m | m
      · obtain ⟨ys, q⟩ := (f0.ok p (pmA.mem_iff.mp m)).2.2
        rw [hp] at q
        cases q
      · rcases List.mem_append.mp m with m | m
        · obtain ⟨ys, q⟩ := r0.es.dom p m
          rw [hp] at q
          cases q
        · obtain ⟨ys, q⟩ := r0.et.dom p m
          rw [hp] at q
          cases q
    · rcases List.mem_cons.mp m with rfl | m
      · refine ⟨fun z => ?_, fun q b e z => ?_, _, upS⟩
        · obtain ⟨o, q⟩ := r0.ex a z
          rw [hp] at q
          cases q
        · subst z
          obtain ⟨x, y, z, e2, _⟩ := (r0.pu a b e).1
          rw [hp] at e2
          cases e2
      · exact f1.ok a m
  cases b with
  | true =>
    show Rel C ⟨sl, own (dq l ds) :: tm, n⟩ _ σ _
    unfold own
    by_cases hn : nolist (dq l ds) = true
    · rw [if_pos hn]
      refine Rel.push ⟨_, _, _, r1⟩ fun Z => ?_
      exact (Tr.nolist _ _ _ (Tr.mk upS t) hn).2
    · rw [if_neg hn]
      cases l with
      | true => exact ⟨_, _, _, r1.pushF (f2 _ rfl) (A' := p :: A) (Dr := []) (by simp) (.ow (Tr.mk (l := true) upS t)) (fun i π z => nomatch z)⟩
      | false => exact ⟨_, _, _, r1.pushF f1 (A' := A) (Dr := []) (by simp) (.ow (Tr.mk (l := false) upS t)) (fun i π z => nomatch z)⟩
  | false =>
    cases l with
    | true => exact ⟨_, _, _, r1.pushF (f2 _ rfl) (A' := p :: A) (Dr := []) (by simp) (.sp upS t) (fun i π z => nomatch z)⟩
    | false =>
      have g := r1.growF f1
      have t2 : Tr (upd H p (hoq false vs)) (fun a => Z0 a ∨ a ∈ A) [] (.ref p) (.tuple ds) := .tup upS (Trs.freeze (fun _ z => .inl z) _ _ _ t fun _ m => .inr m)
      exact ⟨_, _, _, g.pushE (Z' := fun _ => False) (.fz t2) List.nodup_nil (fun a m => nomatch m) (fun i π z => nomatch z)⟩
/-- a tuple's items, all at once -/
def itS : Sl → Option (List Sl)
  | .fz (.tuple ds) => some (ds.map .fz)
  | .ow true (.tuple ds) => some (ds.map own)
  | _ => none
theorem Trs.own : ∀ {ds : List D} {vs : List V} {S : List Addr}, Trs H noReg S vs ds → Ents C Z H S (vs.map some) (ds.map G.own)
  | [], _, _, h => by cases h; exact .nil
  | d :: ds, _, _, h => by
    cases h with
    | @cons S T v _ _ _ h1 h2 =>
      refine .cons ?_ (Trs.own h2)
      unfold G.own
      by_cases hn : G.nolist d = true
      · rw [if_pos hn]
        obtain ⟨rfl, t⟩ := Tr.nolist (Z' := Z) _ _ _ h1 hn
        exact .fz t
      · rw [if_neg hn]
        exact .ow h1
theorem Trs.fzs : ∀ {ds : List D} {vs : List V} {S : List Addr}, Trs H Z S vs ds → S = [] → Ents C Z H [] (vs.map some) (ds.map Sl.fz)
  | [], _, _, h, _ => by cases h; exact .nil
  | d :: ds, _, _, h, e => by
    cases h with
    | cons h1 h2 =>
      obtain ⟨rfl, rfl⟩ := List.append_eq_nil_iff.mp e
      exact .cons (S := []) (.fz h1) (Trs.fzs h2 rfl)
theorem RelX.pushEs {ss : List Sl} {us : List V} (h : RelX C Z S1 S2 ⟨sl, tm, n⟩ Θ σ H) (f : Fl C Z S1 S2 H A) (en : Ents C Z H A (us.map some) ss) (na : ∀ s ∈ ss, ∀ i π, s ≠ .al i π) : RelX C Z S1 (A ++ S2) ⟨sl, ss ++ tm, n⟩ (us ++ Θ) σ H := by
  have pm : (S1 ++ (A ++ S2)).Perm (A ++ (S1 ++ S2)) := by
    rw [← List.append_assoc, ← List.append_assoc]
    exact List.Perm.append_right S2 List.perm_append_comm
  have el : us.length = ss.length := by simpa using en.length
  refine ⟨h.fr, h.es, by rw [List.map_append]; exact en.append h.et, pm.nodup_iff.mpr f.nd, fun a m => ?_, fun p b q => ⟨(h.pu p b q).1, (h.pu p b q).2.1, fun m => ?_⟩, h.ex, h.dj, fun k j π u e ev => ?_⟩
  · rcases List.mem_append.mp (pm.mem_iff.mp m) with m | m
    · exact (f.ok a m).1
    · exact h.nz a m
  · rcases List.mem_append.mp (pm.mem_iff.mp m) with m | m
    · exact (f.ok p m).2.1 p b q rfl
    · exact (h.pu p b q).2.2 m
  · by_cases hk : k < ss.length
    · change (ss ++ tm)[k]? = _ at e
      rw [List.getElem?_append_left hk] at e
      exact absurd rfl (na _ (List.mem_of_getElem? e) j π)
    · refine h.al (k - ss.length) j π u ?_ ?_
      · rw [List.getElem?_append_right (by omega)] at e
        exact e
      · rw [List.getElem?_append_right (by omega), el] at ev
        exact ev
theorem Rel.unpack {ss : List Sl} (h : Rel C ⟨sl, s :: tm, n⟩ (v :: Θ) σ H) (e : itS s = some ss) : ∃ a vs, v = .ref a ∧ H a = some (.tup vs) ∧ vs.length = ss.length ∧ Rel C ⟨sl, ss ++ tm, n⟩ (vs ++ Θ) σ H := by
  obtain ⟨Z, S1, S2, h⟩ := h
  obtain ⟨A, B, es, r, f⟩ := RelX.popF (ss := [s]) (us := [v]) h rfl
  have es' : ∃ A', Ent C Z H A' (some v) s ∧ A = A' := by
    cases es with
    | cons e1 e2 =>
      cases e2
      exact ⟨_, e1, by simp⟩
  obtain ⟨A', en, rfl⟩ := es'
  cases en with
  | jk v => cases e
  | al v i π => cases e
  | pu q => cases e
  | io t q => cases e
  | dc _ _ => cases e
  | dt _ _ => cases e
  | sh _ _ => cases e
  | xv _ _ => cases e
  | ho _ _ _ => cases e
  | xw _ => cases e
  | sp q t => cases e
  | @fz _ d t =>
    cases d with
    | tuple ds =>
      cases e
      cases t with
      | @tup a vs _ _ q ts =>
        exact ⟨a, vs, rfl, q, by simp [ts.length], Z, S1, _, r.pushEs f (Trs.fzs ts rfl) fun s m i π z => by
          obtain ⟨x, _, rfl⟩ := List.mem_map.mp m
          cases z⟩
    | _ => cases e
  | @ow _ d _ t =>
    cases d with
    | tuple ds =>
      cases e
      cases t with
      | @tup a vs _ _ q ts =>
        exact ⟨a, vs, rfl, q, by simp [ts.length], Z, S1, _, r.pushEs f (Trs.own ts) fun s m i π z => by
          obtain ⟨x, _, rfl⟩ := List.mem_map.mp m
          unfold G.own at z
          split at z <;> cases z⟩
    | _ => cases e
end
section
variable {C : Cn} {Z : Reg} {S1 S2 A : List Addr} {γ : VSt} {Θ : List V} {σ : L2.St} {H H' : Hp} {sl tm : List Sl} {n n' : Int} {v : V} {s : Sl} {d : D} {i : Nat}
/-- cells of two slots are apart -/
theorem Ents.apart : ∀ {ss : List Sl} {S : List Addr} {vs : List (Option V)} {i j : Nat} {si sj : Sl}, Ents C Z H S vs ss → ss[i]? = some si → ss[j]? = some sj → i ≠ j → S.Nodup → ∃ vi Ti vj Tj, vs[i]? = some vi ∧ vs[j]? = some vj ∧ Ent C Z H Ti vi si ∧ Ent C Z H Tj vj sj ∧ (∀ x ∈ Ti, x ∈ S ∧ x ∉ Tj) ∧ ∀ x ∈ Tj, x ∈ S
  | [], _, _, _, _, _, _, _, e, _, _, _ => by simp at e
  | s :: ss, _, _, 0, 0, _, _, _, _, _, ne, _ => absurd rfl ne
  | s :: ss, _, _, 0, j + 1, _, _, h, ei, ej, _, nd => by
    cases h with
    | @cons S T _ _ _ _ h1 h2 =>
      simp at ei ej
      subst ei
      obtain ⟨v, T1, R, e1, en, pm, _⟩ := h2.at ej
      exact ⟨_, _, v, T1, rfl, by simpa using e1, h1, en, fun x m => ⟨List.mem_append_left _ m, fun m' => (List.nodup_append.mp nd).2.2 x m x (pm.mem_iff.mpr (List.mem_append_left _ m')) rfl⟩, fun x m => List.mem_append_right _ (pm.mem_iff.mpr (List.mem_append_left _ m))⟩
  | s :: ss, _, _, i + 1, 0, _, _, h, ei, ej, _, nd => by
    cases h with
    | @cons S T _ _ _ _ h1 h2 =>
      simp at ei ej
      subst ej
      obtain ⟨v, T1, R, e1, en, pm, _⟩ := h2.at ei
      exact ⟨v, T1, _, _, by simpa using e1, rfl, en, h1, fun x m => ⟨List.mem_append_right _ (pm.mem_iff.mpr (List.mem_append_left _ m)), fun m' => (List.nodup_append.mp nd).2.2 x m' x (pm.mem_iff.mpr (List.mem_append_left _ m)) rfl⟩, fun x m => List.mem_append_left _ m⟩
  | s :: ss, _, _, i + 1, j + 1, _, _, h, ei, ej, ne, nd => by
    cases h with
    | @cons S T _ _ _ _ h1 h2 =>
      obtain ⟨vi, Ti, vj, Tj, a, b, c, d, e, f⟩ := Ents.apart (i := i) (j := j) h2 (by simpa using ei) (by simpa using ej) (by omega) (List.nodup_append.mp nd).2.1
      exact ⟨vi, Ti, vj, Tj, by simpa using a, by simpa using b, c, d, fun x m => ⟨List.mem_append_right _ (e x m).1, (e x m).2⟩, fun x m => List.mem_append_right _ (f x m)⟩
theorem setP_nil {d x : D} : setP d [] x = x := by cases d <;> rfl
/-- what stands in a name behind a write -/
def reS (s : Sl) (b : Bool) (d : D) : Sl := match s with
  | .io _ => .io d
  | _ => .ow b d
/-- a list that a name owns is written -/
theorem RelX.putF {b : Bool} {s0 : Sl} {π : List Nat} {es : List D} {w0 : V} (h : RelX C Z S1 S2 ⟨sl, tm, n⟩ Θ σ H) (f : Fl C Z S1 S2 H A) (e : sl[i]? = some s0) (hs : s0 = .ow b d ∨ (s0 = .io d ∧ b = true)) (na : noAl i tm = true) (ew : σ[i]? = some (some w0)) (wk : Wk H w0 π v) (p : atP d π = some (.list es)) (hb : b = true ∨ π = []) :
    ∃ a vs T, v = .ref a ∧ H a = some (.lst vs) ∧ Trs H (rgn b Z) T vs es ∧ a ∉ A ∧ ¬ Z a ∧ (∀ x ∈ T, x ≠ a) ∧
      ∀ us es' b' T' Dr, (b' = b ∨ (b' = false ∧ π = [])) → (∀ x, s0 = .io x → b' = true) → Trs (upd H a (.lst us)) (rgn b' Z) T' us es' → (T ++ A).Perm (T' ++ Dr) → ∃ S1', RelX C Z S1' S2 ⟨sl.set i (reS s0 b' (setP d π (.list es'))), tm, n⟩ Θ σ (upd H a (.lst us)) ∧ Fl C Z S1' S2 (upd H a (.lst us)) Dr := by
  obtain ⟨v0, T0, R0, ev, en, pm, k⟩ := h.es.at e
  rw [ew] at ev
  cases ev
  have eσ : σ.set i (some w0) = σ := by
    refine List.ext_getElem? fun j => ?_
    by_cases hj : i = j
    · subst hj
      rw [List.getElem?_set_self (List.getElem?_eq_some_iff.mp ew).1, ew]
    · rw [List.getElem?_set_ne hj]
  -- the cells of the slot's tree
  have key : ∃ a vs T R, v = .ref a ∧ H a = some (.lst vs) ∧ Trs H (rgn b Z) T vs es ∧ T0.Perm (a :: T ++ R) ∧
      ∀ us es' b' T', T0.Nodup → (b' = b ∨ (b' = false ∧ π = [])) → (∀ x, s0 = .io x → b' = true) → Trs (upd H a (.lst us)) (rgn b' Z) T' us es' → ∃ E X, Ent C Z (upd H a (.lst us)) E (some w0) (reS s0 b' (setP d π (.list es'))) ∧ (E ++ X).Perm (a :: T' ++ R) := by
    rcases hs with rfl | ⟨rfl, rfl⟩
    case inr =>
      cases en with
      | io t eio =>
        obtain ⟨a, vs, T, R, rfl, ha, ts, p0, kk⟩ := Tr.put t p wk
        refine ⟨a, vs, T, R, rfl, ha, ts, p0, fun us es' b' T' nd hb' hio t' => ?_⟩
        obtain rfl := hio _ rfl
        obtain ⟨S', t2, p2⟩ := kk us es' T' nd t'
        exact ⟨S', [], .io t2 eio, by simpa using p2⟩
    cases en with
    | ow t =>
      obtain ⟨a, vs, T, R, rfl, ha, ts, p0, kk⟩ := Tr.put t p wk
      refine ⟨a, vs, T, R, rfl, ha, ts, p0, fun us es' b' T' nd hb' _ t' => ?_⟩
      rcases hb' with rfl | ⟨rfl, rfl⟩
      · obtain ⟨S', t2, p2⟩ := kk us es' T' nd t'
        exact ⟨S', [], .ow t2, by simpa using p2⟩
      · cases wk
        refine ⟨a :: T', R, ?_, .refl _⟩
        rw [setP_nil]
        exact .sp upd_same t'
    | @sp a0 vs0 ds0 T1 ha t =>
      have e0 : π = [] := hb.elim (fun z => by cases z) id
      subst e0
      cases wk
      simp only [atP, Option.some.injEq, PyData.list.injEq] at p
      subst p
      refine ⟨a0, vs0, T1, [], rfl, ha, t, by simp, fun us es' b' T' nd hb' _ t' => ?_⟩
      have e1 : b' = false := hb'.elim id fun z => z.1
      subst e1
      refine ⟨a0 :: T', [], ?_, by simp⟩
      rw [setP_nil]
      exact .sp upd_same t'
  obtain ⟨a, vs, T, R, rfl, ha, ts, p0, kk⟩ := key
  have cnt : ∀ x, List.count x S1 = List.count x (a :: T ++ R) + List.count x R0 := fun x => by
    have q1 := pm.count_eq x
    have q2 := p0.count_eq x
    rw [List.count_append] at q1
    omega
  have ndf : ∀ x, List.count x A + (List.count x S1 + List.count x S2) ≤ 1 := fun x => by
    have := nodup_cnt.mp f.nd x
    rw [List.count_append, List.count_append] at this
    exact this
  have aS : a ∈ S1 := pm.mem_iff.mpr (List.mem_append_left _ (p0.mem_iff.mpr (by simp)))
  have cpos : ∀ {x : Addr} {l : List Addr}, x ∈ l → 0 < List.count x l := fun h => List.count_pos_iff.mpr h
  have ca : List.count a (a :: T ++ R) = 1 + (List.count a T + List.count a R) := by
    rw [List.count_append, List.count_cons]
    simp
    omega
  have aA : a ∉ A := fun m => by
    have := cpos m
    have := ndf a
    have := cnt a
    omega
  have aR0 : a ∉ R0 := fun m => by
    have := cpos m
    have := ndf a
    have := cnt a
    omega
  have aS2 : a ∉ S2 := fun m => by
    have := cpos m
    have := ndf a
    have := cnt a
    omega
  have aT : ∀ x ∈ T, x ≠ a := fun x m z => by
    subst z
    have := cpos m
    have := ndf x
    have := cnt x
    omega
  refine ⟨a, vs, T, rfl, ha, ts, aA, fun z => h.nz a (List.mem_append_left _ aS) (.inl z), aT, fun us es' b' T' Dr hb' hio t' pD => ?_⟩
  have T0nd : T0.Nodup := nodup_cnt.mpr fun x => by
    have := ndf x
    have := pm.count_eq x
    rw [List.count_append] at this
    omega
  obtain ⟨E, X, en', pE⟩ := kk us es' b' T' T0nd hb' hio t'
  have aZ : ¬ C.tz Z a := h.nz a (List.mem_append_left _ aS)
  have ap : ∀ q b0, C.pu = some (q, b0) → q ≠ a := fun q b0 eq z => (h.pu q b0 eq).2.2 (z ▸ List.mem_append_left _ aS)
  have kt : ∀ t xs, H t = some (.tup xs) → upd H a (.lst us) t = some (.tup xs) := fun t xs et => by
    rw [upd_ne (show t ≠ a from fun z => by rw [z, ha] at et; cases et)]
    exact et
  have kz0 : ∀ x, C.tz Z x → ∀ o, H x = some o → upd H a (.lst us) x = some o := fun x z o eo => by
    rw [upd_ne (show x ≠ a from fun q => aZ (q ▸ z))]
    exact eo
  have kz : ∀ x, Z x → ∀ o, H x = some o → upd H a (.lst us) x = some o := fun x z => kz0 x (.inl z)
  have kne : ∀ x, x ≠ a → ∀ o, H x = some o → upd H a (.lst us) x = some o := fun x q o eo => by
    rw [upd_ne q]
    exact eo
  obtain ⟨S1', es1, p1⟩ := k (upd H a (.lst us)) Z E (some w0) _ kt (fun _ z => z) kz (fun x m => kne x fun q => aR0 (q ▸ m)) en'
  rw [eσ] at es1
  have cnt2 : ∀ x, List.count x S1' + List.count x X = List.count x (a :: T' ++ R) + List.count x R0 := fun x => by
    have q1 := p1.count_eq x
    have q2 := pE.count_eq x
    rw [List.count_append] at q1 q2
    omega
  have cD : ∀ x, List.count x T + List.count x A = List.count x T' + List.count x Dr := fun x => by
    have := pD.count_eq x
    rw [List.count_append, List.count_append] at this
    exact this
  have call : ∀ x, List.count x Dr + (List.count x S1' + List.count x S2) ≤ 1 := fun x => by
    have h1 := ndf x
    have h2 := cnt x
    have h3 := cnt2 x
    have h4 := cD x
    have e1 : List.count x (a :: T ++ R) = List.count x [a] + (List.count x T + List.count x R) := by
      rw [List.cons_append, ← List.singleton_append, List.count_append, List.count_append]
    have e2 : List.count x (a :: T' ++ R) = List.count x [a] + (List.count x T' + List.count x R) := by
      rw [List.cons_append, ← List.singleton_append, List.count_append, List.count_append]
    omega
  have memS : ∀ x, x ∈ S1' ∨ x ∈ Dr → x ∈ S1 ∨ x ∈ A := fun x m => by
    have h2 := cnt x
    have h3 := cnt2 x
    have h4 := cD x
    have e1 : List.count x (a :: T ++ R) = List.count x [a] + (List.count x T + List.count x R) := by
      rw [List.cons_append, ← List.singleton_append, List.count_append, List.count_append]
    have e2 : List.count x (a :: T' ++ R) = List.count x [a] + (List.count x T' + List.count x R) := by
      rw [List.cons_append, ← List.singleton_append, List.count_append, List.count_append]
    rcases Nat.lt_or_ge 0 (List.count x S1) with z | z
    · exact .inl (List.count_pos_iff.mp z)
    · rcases Nat.lt_or_ge 0 (List.count x A) with z' | z'
      · exact .inr (List.count_pos_iff.mp z')
      · exfalso
        rcases m with m | m
        · have := cpos m
          omega
        · have := cpos m
          omega
  have fr : ∀ x ∈ S1 ++ S2, ¬ C.tz Z x ∧ ∀ q b0, C.pu = some (q, b0) → x ≠ q := h.frame
  refine ⟨S1', ⟨fun x o eo m => ⟨(h.fr x o eo m).1, kz0 x (h.fr x o eo m).1 o (h.fr x o eo m).2⟩, es1, h.et.mono kt (fun _ z => z) kz fun x m => kne x fun q => aS2 (q ▸ m), ?_, fun x m => ?_, fun q b0 eq => ⟨(h.pu q b0 eq).1.mono fun o eo => kne q (ap q b0 eq) o eo, (h.pu q b0 eq).2.1, fun m => ?_⟩, fun x z => ?_, h.dj, fun j i' π' u e' ev' => ?_⟩, ⟨?_, fun x m => ?_⟩⟩
  · refine nodup_cnt.mpr fun x => ?_
    rw [List.count_append]
    have := call x
    omega
  · rcases List.mem_append.mp m with m | m
    · rcases memS x (.inl m) with q | q
      · exact h.nz x (List.mem_append_left _ q)
      · exact (f.ok x q).1
    · exact h.nz x (List.mem_append_right _ m)
  · rcases List.mem_append.mp m with m | m
    · rcases memS q (.inl m) with z | z
      · exact (h.pu q b0 eq).2.2 (List.mem_append_left _ z)
      · exact (f.ok q z).2.1 q b0 eq rfl
    · exact (h.pu q b0 eq).2.2 (List.mem_append_right _ m)
  · obtain ⟨o, eo⟩ := h.ex x z
    exact ⟨o, kz0 x z o eo⟩
  · obtain ⟨s1, d', e3, w', g1, g2, g3, g4, wk'⟩ := h.al j i' π' u e' ev'
    have hj := al_set na e'
    refine ⟨s1, d', e3, w', (List.getElem?_set_ne hj).trans g1, g2, g3, g4, ?_⟩
    -- the other slot's tree is kept
    obtain ⟨vi, Ti, vj, Tj, f1, f2, f3, f4, f5, _⟩ := Ents.apart h.es e g1 hj (List.nodup_append.mp h.nd).1
    rw [ew] at f1
    cases f1
    rw [g4] at f2
    cases f2
    obtain ⟨w1, Tw, ew1, t1, sbw⟩ := f4.tr g2
    cases ew1
    have aT1 : a ∉ Tw := fun mz => by
      revert mz
      refine fun mz => (f5 a ?_).2 (sbw a mz)
      rcases hs with rfl | ⟨rfl, rfl⟩
      case inr =>
        cases en with
        | io t _ =>
          cases f3 with
          | io t' _ =>
            have uq := repU _ _ _ _ (Tr.repO _ _ _ t) (Tr.repO _ _ _ t')
            rw [← uq]
            exact p0.mem_iff.mpr (by simp)
      cases en with
      | ow t =>
        cases f3 with
        | ow t' =>
          have uq := repU _ _ _ _ (Tr.repO _ _ _ t) (Tr.repO _ _ _ t')
          rw [← uq]
          exact p0.mem_iff.mpr (by simp)
      | sp q t =>
        cases f3 with
        | sp q' t' =>
          have e0 : π = [] := hb.elim (fun z => by cases z) id
          subst e0
          cases wk
          simp
    exact (Tr.part t1 g3 wk').2 _ kt fun x z => z.elim (kz x) fun m => kne x fun q => aT1 (q ▸ m)
  · refine nodup_cnt.mpr fun x => ?_
    rw [List.count_append, List.count_append]
    exact call x
  · rcases memS x (.inr m) with q | q
    · refine ⟨h.nz x (List.mem_append_left _ q), (fr x (List.mem_append_left _ q)).2, ?_⟩
      obtain ⟨xs, eo⟩ := h.es.dom x q
      by_cases hx : x = a
      · exact ⟨_, by rw [hx]; exact upd_same⟩
      · exact ⟨xs, kne x hx _ eo⟩
    · obtain ⟨q1, q2, xs, eo⟩ := f.ok x q
      exact ⟨q1, q2, xs, kne x (fun z => aA (z ▸ q)) _ eo⟩
/-- what is apart from a written cell stays -/
theorem Trs.upd {b : Bool} {a : Addr} {us : List V} {vs0 : List V} {vs : List V} {ds : List D} {T : List Addr} (t : Trs H (rgn b Z) T vs ds) (ha : H a = some (.lst vs0)) (nz : ¬ Z a) (nt : ∀ x ∈ T, x ≠ a) : Trs (upd H a (.lst us)) (rgn b Z) T vs ds := by
  refine Trs.mono (fun t xs et => ?_) (fun _ z => z) (fun x z o e => ?_) _ _ _ t fun x m o e => ?_
  · rw [upd_ne (show t ≠ a from fun z => by rw [z, ha] at et; cases et)]
    exact et
  · rw [upd_ne (show x ≠ a from fun q => ?_)]
    · exact e
    · subst q
      cases b with
      | true => exact z.elim
      | false => exact nz z
  · rw [upd_ne (nt x m)]
    exact e
theorem Tr.upd {b : Bool} {a : Addr} {us : List V} {vs0 : List V} {T : List Addr} (t : Tr H (rgn b Z) T v d) (ha : H a = some (.lst vs0)) (nz : ¬ Z a) (nt : ∀ x ∈ T, x ≠ a) : Tr (upd H a (.lst us)) (rgn b Z) T v d := by
  refine Tr.mono (fun t xs et => ?_) (fun _ z => z) (fun x z o e => ?_) _ _ _ t fun x m o e => ?_
  · rw [upd_ne (show t ≠ a from fun z => by rw [z, ha] at et; cases et)]
    exact et
  · rw [upd_ne (show x ≠ a from fun q => ?_)]
    · exact e
    · subst q
      cases b with
      | true => exact z.elim
      | false => exact nz z
  · rw [upd_ne (nt x m)]
    exact e
end
end G
namespace G
open PySem PySem.Spec PyProof.Rows L2
abbrev KE := VSt → (VSt → Prop) → Prop
abbrev KT := VSt → (Bool → VSt → Prop) → Prop
structure KEd where
  nx : VSt → Prop
  rt : Sl → VSt → Prop
  bk : VSt → Prop
  ct : VSt → Prop
abbrev KS := VSt → KEd → Prop
abbrev KO := VSt → (Option Int → VSt → Prop) → Prop
abbrev KG := VSt → (VSt → Prop) → Prop
/-- where errors go, and which may go there -/
structure XC (C : Cn) where
  E : L2.St → XK
  X : Addr → D → VSt → Prop
  ok : ∀ {c dd : Addr} {d : D} {γ : VSt} {Θ : List V} {σ : L2.St} {H : Hp}, X c d γ → Rel C ⟨γ.sl, .xv dd dd d :: γ.tm, γ.n⟩ (.ref dd :: Θ) σ H → E σ (.ref c) (some dd) H
/-- nothing is raised -/
def noXC (C : Cn) : XC C := ⟨fun _ => E0, fun _ _ _ => False, fun h _ => h.elim⟩
def SoE {C : Cn} (xc : XC C) (t : TE) (k : KE) : Prop := ∀ (γ : VSt) (Θ : List V) (σ : L2.St) (H : Hp) (Q : VK) (q : VSt → Prop), Rel C γ Θ σ H → k γ q → (∀ γ' v H', q γ' → Rel C γ' (v :: Θ) σ H' → Q v H') → t σ H Q
def SoT {C : Cn} (xc : XC C) (t : TT) (k : KT) : Prop := ∀ (γ : VSt) (Θ : List V) (σ : L2.St) (H : Hp) (Q : Bool → Hp → Prop) (q : Bool → VSt → Prop), Rel C γ Θ σ H → k γ q → (∀ b γ' H', q b γ' → Rel C γ' Θ σ H' → Q b H') → t σ H Q
def SoA {C : Cn} (xc : XC C) (n : Nat) (t : TA) (k : KE) : Prop := ∀ (γ : VSt) (Θ : List V) (σ : L2.St) (H : Hp) (Q : List V → Hp → Prop) (q : VSt → Prop), Rel C γ Θ σ H → k γ q → (∀ γ' vs H', vs.length = n → q γ' → Rel C γ' (vs.reverse ++ Θ) σ H' → Q vs H') → t σ H Q
def SoO {C : Cn} (xc : XC C) (t : TO) (k : KO) : Prop := ∀ (γ : VSt) (Θ : List V) (σ : L2.St) (H : Hp) (Q : Option Int → Hp → Prop) (q : Option Int → VSt → Prop), Rel C γ Θ σ H → k γ q → (∀ i γ' H', q i γ' → Rel C γ' Θ σ H' → Q i H') → t σ H Q
/-- a target: the top is stored -/
def SoG {C : Cn} (xc : XC C) (t : TG) (k : KG) : Prop := ∀ (γ : VSt) (v : V) (Θ : List V) (σ : L2.St) (H : Hp) (Q : L2.St → Hp → Prop) (q : VSt → Prop), Rel C γ (v :: Θ) σ H → k γ q → (∀ γ' σ' H', q γ' → Rel C γ' Θ σ' H' → Q σ' H') → t v σ H Q
structure SoD (C : Cn) (Θ : List V) (e : KEd) (De : Ends) : Prop where
  nx : ∀ γ' σ' H', e.nx γ' → Rel C γ' Θ σ' H' → De.nx σ' H'
  rt : ∀ s γ' v Θ' σ' H', e.rt s γ' → Rel C ⟨γ'.sl, s :: γ'.tm, γ'.n⟩ (v :: Θ') σ' H' → De.rt v H'
  bk : ∀ γ' σ' H', e.bk γ' → Rel C γ' Θ σ' H' → De.bk σ' H'
  ct : ∀ γ' σ' H', e.ct γ' → Rel C γ' Θ σ' H' → De.ct σ' H'
def SoS {C : Cn} (xc : XC C) (t : TS) (k : KS) : Prop := ∀ (γ : VSt) (Θ : List V) (σ : L2.St) (H : Hp) (De : Ends) (e : KEd), Rel C γ Θ σ H → k γ e → SoD C Θ e De → t De σ H
variable {C : Cn} {xc : XC C}
/-- a value of data that holds no list: the same in every heap -/
def Sca (v : V) (d : D) : Prop := ∀ (H : Hp) (Z : Reg), Tr H Z [] v d
theorem sca_int (i : Int) : Sca (.int i) (.int i) := fun _ _ => .int i
theorem sca_bl (b : Bool) : Sca (.bl b) (.bool b) := fun _ _ => .bl b
theorem sca_str (x : Str) : Sca (.str x) (.str x) := fun _ _ => .str x
theorem sca_non : Sca .non .none := fun _ _ => .non
section
variable {t t1 t2 ta tb tc : TE} {k k1 k2 ka kb kc : KE} {n m : Nat}
def kC (d : D) : KE := fun γ q => q ⟨γ.sl, .fz d :: γ.tm, γ.n⟩
def kVar (i : Nat) : KE := fun γ q => match γ.sl[i]? with
  | some (.fz d) => q ⟨γ.sl, .fz d :: γ.tm, γ.n⟩
  | some (.ow _ _) => q ⟨γ.sl, .al i [] :: γ.tm, γ.n⟩
  | some (.io _) => q ⟨γ.sl, .al i [] :: γ.tm, γ.n⟩
  | some (.sh _) => q ⟨γ.sl, .al i [] :: γ.tm, γ.n⟩
  | some .pu => q ⟨γ.sl, .pu :: γ.tm, γ.n⟩
  | _ => False
/-- .. frozen from now on -/
def kFrz (i : Nat) : KE := fun γ q => match γ.sl[i]? with
  | some (.fz d) => q ⟨γ.sl, .fz d :: γ.tm, γ.n⟩
  | some (.ow _ d) => q ⟨γ.sl.set i (.fz d), .fz d :: γ.tm, γ.n⟩
  | some .pu => q ⟨γ.sl, .pu :: γ.tm, γ.n⟩
  | _ => False
/-- .. for the last time -/
def kMov (i : Nat) : KE := fun γ q => match γ.sl[i]? with
  | some (.fz d) => q ⟨γ.sl, .fz d :: γ.tm, γ.n⟩
  | some (.ow b d) => noAl i γ.tm = true ∧ q ⟨γ.sl.set i .jk, .ow b d :: γ.tm, γ.n⟩
  | _ => False
theorem so_c {v : V} {d : D} (h : Sca v d) : SoE xc (tC v) (kC d) := fun γ Θ σ H Q q R hk w => w _ v H hk (R.push fun Z => h H Z)
theorem so_var {i : Nat} : SoE xc (tVar i) (kVar i) := fun γ Θ σ H Q q R hk w => by
  unfold kVar at hk
  obtain ⟨sl, tm, n⟩ := γ
  dsimp only at hk
  split at hk
  · rename_i d e
    obtain ⟨v, ev, R'⟩ := R.varF e
    exact ⟨v, ev, w _ v H hk R'⟩
  · rename_i b d e
    obtain ⟨v, ev, R'⟩ := R.varA e rfl
    exact ⟨v, ev, w _ v H hk R'⟩
  · rename_i d e
    obtain ⟨v, ev, R'⟩ := R.varA e rfl
    exact ⟨v, ev, w _ v H hk R'⟩
  · rename_i d e
    obtain ⟨v, ev, R'⟩ := R.varA e rfl
    exact ⟨v, ev, w _ v H hk R'⟩
  · rename_i e
    obtain ⟨p, b, _, ev, R'⟩ := R.varP e
    exact ⟨_, ev, w _ _ H hk R'⟩
  · exact hk.elim
theorem so_frz {i : Nat} : SoE xc (tVar i) (kFrz i) := fun γ Θ σ H Q q R hk w => by
  unfold kFrz at hk
  obtain ⟨sl, tm, n⟩ := γ
  dsimp only at hk
  split at hk
  · rename_i d e
    obtain ⟨v, ev, R'⟩ := R.varF e
    exact ⟨v, ev, w _ v H hk R'⟩
  · rename_i b d e
    have R1 := R.frzS e
    obtain ⟨v, ev, R'⟩ := R1.varF (i := i) (d := d) (List.getElem?_set_self (List.getElem?_eq_some_iff.mp e).1)
    exact ⟨v, ev, w _ v H hk R'⟩
  · rename_i e
    obtain ⟨p, b, _, ev, R'⟩ := R.varP e
    exact ⟨_, ev, w _ _ H hk R'⟩
  · exact hk.elim
theorem so_mov {i : Nat} : SoE xc (tVar i) (kMov i) := fun γ Θ σ H Q q R hk w => by
  unfold kMov at hk
  obtain ⟨sl, tm, n⟩ := γ
  dsimp only at hk
  split at hk
  · rename_i d e
    obtain ⟨v, ev, R'⟩ := R.varF e
    exact ⟨v, ev, w _ v H hk R'⟩
  · rename_i b d e
    obtain ⟨v, ev, R'⟩ := R.mov e hk.1
    exact ⟨v, ev, w _ v H hk.2 R'⟩
  · exact hk.elim
def kNil : KE := fun γ q => q γ
def kCons (ka kb : KE) : KE := fun γ q => ka γ fun γ1 => kb γ1 q
theorem so_nil : SoA xc 0 tNil kNil := fun γ Θ σ H Q q R hk w => w γ [] H rfl hk R
theorem so_cons {ts : TA} (h : SoE xc t k) (hs : SoA xc n ts kb) : SoA xc (n + 1) (tCons t ts) (kCons k kb) := fun γ Θ σ H Q q R hk w =>
  h γ Θ σ H _ _ R hk fun γ1 v H1 hk1 R1 => hs γ1 _ σ H1 _ _ R1 hk1 fun γ2 vs H2 el hq R2 => w γ2 (v :: vs) H2 (by simp [el]) hq (by simpa using R2)
/-- the data of the upper n -/
def datN (sl : List Sl) : Nat → List Sl → Option (List D × List Sl)
  | 0, tm => some ([], tm)
  | _ + 1, [] => none
  | n + 1, s :: tm => (look sl s).bind fun d => (datN sl n tm).bind fun x => some (x.1 ++ [d], x.2)
theorem Rel.pops {C : Cn} {sl : List Sl} {σ : L2.St} {H : Hp} {j : Int} : ∀ {n : Nat} {tm r : List Sl} {ds : List D} {vs Θ : List V}, Rel C ⟨sl, tm, j⟩ (vs.reverse ++ Θ) σ H → vs.length = n → datN sl n tm = some (ds, r) → Rel C ⟨sl, r, j⟩ Θ σ H ∧ ∃ T, Reps H T vs ds ∧ ∀ p b, C.pu = some (p, b) → p ∉ T
  | 0, tm, r, ds, vs, Θ, R, el, e => by
    simp only [datN, Option.some.injEq, Prod.mk.injEq] at e
    obtain ⟨rfl, rfl⟩ := e
    match vs, el with
    | [], _ => exact ⟨R, [], .nil, fun _ _ _ z => nomatch z⟩
  | n + 1, [], _, _, _, _, _, _, e => by cases e
  | n + 1, s :: tm, r, ds, vs, Θ, R, el, e => by
    simp only [datN] at e
    cases e1 : look sl s with
    | none => rw [e1] at e; cases e
    | some d =>
      cases e2 : datN sl n tm with
      | none => rw [e1, e2] at e; cases e
      | some x =>
        rw [e1, e2] at e
        simp only [Option.bind_some, Option.some.injEq, Prod.mk.injEq] at e
        obtain ⟨rfl, rfl⟩ := e
        have hne : vs ≠ [] := fun z => by rw [z] at el; cases el
        obtain ⟨us, v, rfl⟩ : ∃ us v, vs = us ++ [v] := ⟨_, _, (List.dropLast_concat_getLast hne).symm⟩
        rw [List.reverse_append] at R
        have R' : Rel C ⟨sl, s :: tm, j⟩ (v :: (us.reverse ++ Θ)) σ H := R
        obtain ⟨T1, r1, n1⟩ := R'.read e1
        have := Rel.pops (n := n) (ds := x.1) (r := x.2) (vs := us) R'.pop (by simpa using el) e2
        obtain ⟨R2, T2, r2, n2⟩ := this
        exact ⟨R2, T2 ++ (T1 ++ []), r2.append (.cons r1 .nil), fun p b q z => by
          rcases List.mem_append.mp z with z | z
          · exact n2 p b q z
          · exact n1 p b q (by simpa using z)⟩
def SoR (r : R2) (f : D → D → (D → Prop) → Prop) : Prop := ∀ (H : Hp) (v1 v2 : V) (T1 T2 : List Addr) (d1 d2 : D) (Q : VK) (q : D → Prop), Rep H T1 v1 d1 → Rep H T2 v2 d2 → f d1 d2 q → (∀ v d, Sca v d → q d → Q v H) → r v1 v2 H Q
def kOp (f : D → D → (D → Prop) → Prop) (ka kb : KE) : KE := fun γ q => ka γ fun γ1 => kb γ1 fun γ2 => (datN γ2.sl 2 γ2.tm).elim False fun x => f (x.1.getD 0 .none) (x.1.getD 1 .none) fun d => q ⟨γ2.sl, .fz d :: x.2, γ2.n⟩
theorem elimF {α : Type} {o : Option α} {f : α → Prop} (h : o.elim False f) : ∃ x, o = some x ∧ f x := by
  cases o with
  | none => exact h.elim
  | some x => exact ⟨x, rfl, h⟩
theorem Reps.inv2 {H : Hp} {S : List Addr} {v1 v2 : V} {ds : List D} (r : Reps H S [v1, v2] ds) : ∃ d1 d2 T1 T2, ds = [d1, d2] ∧ Rep H T1 v1 d1 ∧ Rep H T2 v2 d2 := by
  cases r with
  | cons r1 r =>
    cases r with
    | cons r2 r =>
      cases r
      exact ⟨_, _, _, _, rfl, r1, r2⟩
theorem Reps.inv1 {H : Hp} {S : List Addr} {v1 : V} {ds : List D} (r : Reps H S [v1] ds) : ∃ d1 T1, ds = [d1] ∧ Rep H T1 v1 d1 := by
  cases r with
  | cons r1 r =>
    cases r
    exact ⟨_, _, rfl, r1⟩
theorem so_op {r : R2} {f : D → D → (D → Prop) → Prop} (hr : SoR r f) (ha : SoE xc ta ka) (hb : SoE xc tb kb) : SoE xc (tOp r ta tb) (kOp f ka kb) := fun γ Θ σ H Q q R hk w =>
  ha γ Θ σ H _ _ R hk fun γ1 v1 H1 hk1 R1 => hb γ1 _ σ H1 _ _ R1 hk1 fun γ2 v2 H2 hk2 R2 => by
    obtain ⟨⟨ds, rr⟩, e, hf⟩ := elimF hk2
    obtain ⟨R3, T, rp, _⟩ := Rel.pops (vs := [v1, v2]) (Θ := Θ) R2 rfl e
    obtain ⟨d1, d2, T1, T2, rfl, r1, r2⟩ := rp.inv2
    exact hr H2 v1 v2 T1 T2 d1 d2 _ _ r1 r2 hf fun v d sc hq => w _ v H2 hq (R3.push fun Z => sc H2 Z)
def vI (C : Int → Int → Prop) (g : Int → Int → Int) : D → D → (D → Prop) → Prop := fun d1 d2 q => match d1, d2 with
  | .int i, .int j => C i j ∧ q (.int (g i j))
  | _, _ => False
def vB (g : Int → Int → Bool) : D → D → (D → Prop) → Prop := fun d1 d2 q => match d1, d2 with
  | .int i, .int j => q (.bool (g i j))
  | _, _ => False
def noC : Int → Int → Prop := fun _ _ => True
theorem sr_I {Cc : Int → Int → Prop} {g : Int → Int → Int} : SoR (rI Cc fun i j => .int (g i j)) (vI Cc g) := fun H v1 v2 T1 T2 d1 d2 Q q r1 r2 hf w => by
  unfold vI at hf
  split at hf
  · cases r1
    cases r2
    exact ⟨_, _, rfl, rfl, hf.1, w _ _ (sca_int _) hf.2⟩
  · exact hf.elim
theorem sr_I0 {g : Int → Int → Int} : SoR (rI0 fun i j => .int (g i j)) (vI noC g) := fun H v1 v2 T1 T2 d1 d2 Q q r1 r2 hf w => by
  unfold vI at hf
  split at hf
  · cases r1
    cases r2
    exact ⟨_, _, rfl, rfl, w _ _ (sca_int _) hf.2⟩
  · exact hf.elim
theorem sr_B {g : Int → Int → Bool} : SoR (rI0 fun i j => .bl (g i j)) (vB g) := fun H v1 v2 T1 T2 d1 d2 Q q r1 r2 hf w => by
  unfold vB at hf
  split at hf
  · cases r1
    cases r2
    exact ⟨_, _, rfl, rfl, w _ _ (sca_bl _) hf⟩
  · exact hf.elim
/-- == of scalars -/
def vEq (neg : Bool) : D → D → (D → Prop) → Prop := fun d1 d2 q => match d1, d2 with
  | .int i, .int j => q (.bool (neg ^^ decide (i = j)))
  | .str x, .str y => q (.bool (neg ^^ decide (x = y)))
  | .bool x, .bool y => q (.bool (neg ^^ decide (x = y)))
  | .none, .none => q (.bool (neg ^^ true))
  | .none, .int _ => q (.bool (neg ^^ false))
  | .int _, .none => q (.bool (neg ^^ false))
  | _, _ => False
theorem sr_eq : SoR rEq (vEq false) := fun H v1 v2 T1 T2 d1 d2 Q q r1 r2 hf w => by
  unfold vEq at hf
  split at hf <;> (try exact hf.elim) <;> cases r1 <;> cases r2 <;> refine ⟨rfl, ?_⟩
  · rw [dec_eq_int]; exact w _ _ (sca_bl _) (by simpa using hf)
  · rename_i x y
    have e : decide (V.str x = V.str y) = decide (x = y) := by simp
    rw [e]; exact w _ _ (sca_bl _) (by simpa using hf)
  · rename_i x y
    have e : decide (V.bl x = V.bl y) = decide (x = y) := by simp
    rw [e]; exact w _ _ (sca_bl _) (by simpa using hf)
  · exact w _ _ (sca_bl _) (by simpa using hf)
  · exact w _ _ (sca_bl _) (by simpa using hf)
  · exact w _ _ (sca_bl _) (by simpa using hf)
theorem sr_ne : SoR rNe (vEq true) := fun H v1 v2 T1 T2 d1 d2 Q q r1 r2 hf w => by
  unfold vEq at hf
  split at hf <;> (try exact hf.elim) <;> cases r1 <;> cases r2 <;> refine ⟨rfl, ?_⟩
  · rw [dec_eq_int]; exact w _ _ (sca_bl _) (by simpa using hf)
  · rename_i x y
    have e : decide (V.str x = V.str y) = decide (x = y) := by simp
    rw [e]; exact w _ _ (sca_bl _) (by simpa using hf)
  · rename_i x y
    have e : decide (V.bl x = V.bl y) = decide (x = y) := by simp
    rw [e]; exact w _ _ (sca_bl _) (by simpa using hf)
  · exact w _ _ (sca_bl _) (by simpa using hf)
  · exact w _ _ (sca_bl _) (by simpa using hf)
  · exact w _ _ (sca_bl _) (by simpa using hf)
/-- == of data -/
def vEqD (neg : Bool) : D → D → (D → Prop) → Prop := fun d1 d2 q => SeqAt.shaped d1 = true ∧ SeqAt.shaped d2 = true ∧ q (.bool (neg ^^ PyData.eqv d1 d2))
theorem sr_eqD {K : PySem.W.Frag} : SoR (rEqD K) (vEqD false) := fun H v1 v2 T1 T2 d1 d2 Q q r1 r2 hf w =>
  ⟨d1, d2, Rep.dp K _ _ _ r1, Rep.dp K _ _ _ r2, hf.1, hf.2.1, w _ _ (sca_bl _) (by simpa using hf.2.2)⟩
def vIsN (neg : Bool) : D → D → (D → Prop) → Prop := fun d1 d2 q => match d2 with
  | .none => q (.bool (match d1 with | .none => !neg | _ => neg))
  | _ => False
theorem sr_isN : SoR (fun x y H Q => y = .non ∧ Q (.bl (decide (x = .non))) H) (vIsN false) := fun H v1 v2 T1 T2 d1 d2 Q q r1 r2 hf w => by
  unfold vIsN at hf
  split at hf
  · cases r2
    refine ⟨rfl, w _ _ (sca_bl _) ?_⟩
    cases r1 <;> simpa using hf
  · exact hf.elim
theorem sr_notN : SoR (fun x y H Q => y = .non ∧ Q (.bl (!decide (x = .non))) H) (vIsN true) := fun H v1 v2 T1 T2 d1 d2 Q q r1 r2 hf w => by
  unfold vIsN at hf
  split at hf
  · cases r2
    refine ⟨rfl, w _ _ (sca_bl _) ?_⟩
    cases r1 <;> simpa using hf
  · exact hf.elim
/-- in a list or a tuple of flat things -/
def flatD : D → Bool
  | .none => true
  | .bool _ => true
  | .int _ => true
  | .str _ => true
  | _ => false
def vOf : D → V
  | .bool b => .bl b
  | .int i => .int i
  | .str x => .str x
  | _ => .non
theorem Rep.flat {H : Hp} {T : List Addr} {v : V} {d : D} (r : Rep H T v d) (f : flatD d = true) : v = vOf d ∧ flatV v = true := by
  cases r with
  | non => exact ⟨rfl, rfl⟩
  | bl b => exact ⟨rfl, rfl⟩
  | int i => exact ⟨rfl, rfl⟩
  | str x => exact ⟨rfl, rfl⟩
  | lst _ _ => cases f
  | tup _ _ => cases f
theorem Reps.flat {H : Hp} : ∀ {ds : List D} {T : List Addr} {vs : List V}, Reps H T vs ds → ds.all flatD = true → vs = ds.map vOf ∧ vs.all flatV = true
  | [], _, _, h, _ => by cases h; exact ⟨rfl, rfl⟩
  | d :: ds, _, _, h, f => by
    cases h with
    | cons h1 h2 =>
      rw [List.all_cons, Bool.and_eq_true] at f
      obtain ⟨e1, f1⟩ := h1.flat f.1
      obtain ⟨e2, f2⟩ := Reps.flat h2 f.2
      exact ⟨by rw [e1, e2]; rfl, by rw [List.all_cons, f1, f2]; rfl⟩
def vIn (neg : Bool) : D → D → (D → Prop) → Prop := fun d1 d2 q => match d2 with
  | .list ds => flatD d1 = true ∧ ds.all flatD = true ∧ q (.bool (neg ^^ inV (vOf d1) (ds.map vOf)))
  | .tuple ds => flatD d1 = true ∧ ds.all flatD = true ∧ q (.bool (neg ^^ inV (vOf d1) (ds.map vOf)))
  | _ => False
theorem sr_in {K : PySem.W.Frag} {neg : Bool} : SoR (rIn K neg) (vIn neg) := fun H v1 v2 T1 T2 d1 d2 Q q r1 r2 hf w => by
  unfold vIn at hf
  split at hf
  · cases r2 with
    | lst e rs =>
      obtain ⟨ev, fv⟩ := r1.flat hf.1
      obtain ⟨es, fs⟩ := rs.flat hf.2.1
      refine ⟨_, _, rfl, .inl (SqL.of e), fv, fs, w _ _ (sca_bl _) ?_⟩
      rw [es, ev]
      cases neg <;> simpa using hf.2.2
  · cases r2 with
    | tup e rs =>
      obtain ⟨ev, fv⟩ := r1.flat hf.1
      obtain ⟨es, fs⟩ := rs.flat hf.2.1
      refine ⟨_, _, rfl, .inr (SqT.of e), fv, fs, w _ _ (sca_bl _) ?_⟩
      rw [es, ev]
      cases neg <;> simpa using hf.2.2
  · exact hf.elim
def kChain (f g : D → D → (D → Prop) → Prop) (ka kb kc : KE) : KE := fun γ q => ka γ fun γ1 => kb γ1 fun γ2 => (datN γ2.sl 2 γ2.tm).elim False fun x => f (x.1.getD 0 .none) (x.1.getD 1 .none) fun d => match d with
  | .bool true => kc γ2 fun γ3 => (datN γ3.sl 3 γ3.tm).elim False fun y => g (y.1.getD 1 .none) (y.1.getD 2 .none) fun d => q ⟨γ3.sl, .fz d :: y.2, γ3.n⟩
  | .bool false => q ⟨γ2.sl, .fz (.bool false) :: x.2, γ2.n⟩
  | _ => False
def kUn (f : D → (D → Prop) → Prop) (ka : KE) : KE := fun γ q => ka γ fun γ1 => (datN γ1.sl 1 γ1.tm).elim False fun x => f (x.1.getD 0 .none) fun d => q ⟨γ1.sl, .fz d :: x.2, γ1.n⟩
theorem so_un {r : V → Hp → VK → Prop} {f : D → (D → Prop) → Prop} (hr : ∀ (H : Hp) (v1 : V) (T1 : List Addr) (d1 : D) (Q : VK) (q : D → Prop), Rep H T1 v1 d1 → f d1 q → (∀ v d, Sca v d → q d → Q v H) → r v1 H Q) (ha : SoE xc ta ka) : SoE xc (tUn r ta) (kUn f ka) := fun γ Θ σ H Q q R hk w =>
  ha γ Θ σ H _ _ R hk fun γ1 v1 H1 hk1 R1 => by
    obtain ⟨⟨ds, rr⟩, e, hf⟩ := elimF hk1
    obtain ⟨R3, T, rp, _⟩ := Rel.pops (vs := [v1]) (Θ := Θ) R1 rfl e
    obtain ⟨d1, T1, rfl, r1⟩ := rp.inv1
    exact hr H1 v1 T1 d1 _ _ r1 hf fun v d sc hq => w _ v H1 hq (R3.push fun Z => sc H1 Z)
def vNeg : D → (D → Prop) → Prop := fun d q => match d with | .int i => q (.int (-i)) | _ => False
theorem so_neg (ha : SoE xc ta ka) : SoE xc (tUn (rU fun i => .int (-i)) ta) (kUn vNeg ka) := so_un (fun H v1 T1 d1 Q q r1 hf w => by
  unfold vNeg at hf
  split at hf
  · cases r1
    exact ⟨_, rfl, w _ _ (sca_int _) hf⟩
  · exact hf.elim) ha
/-- calls whose value holds no list -/
def SoC (n : Nat) (r : List V → Hp → VK → Prop) (f : List D → (D → Prop) → Prop) : Prop := ∀ (H : Hp) (vs : List V) (T : List Addr) (ds : List D) (Q : VK) (q : D → Prop), Reps H T vs ds → vs.length = n → f ds q → (∀ v d, Sca v d → q d → Q v H) → r vs H Q
def kF (n : Nat) (f : List D → (D → Prop) → Prop) (ka : KE) : KE := fun γ q => ka γ fun γ1 => (datN γ1.sl n γ1.tm).elim False fun x => f x.1 fun d => q ⟨γ1.sl, .fz d :: x.2, γ1.n⟩
theorem so_f {r : List V → Hp → VK → Prop} {f : List D → (D → Prop) → Prop} {ts : TA} (hr : SoC n r f) (ha : SoA xc n ts ka) : SoE xc (tCB r ts) (kF n f ka) := fun γ Θ σ H Q q R hk w =>
  ha γ Θ σ H _ _ R hk fun γ1 vs H1 el hk1 R1 => by
    obtain ⟨⟨ds, rr⟩, e, hf⟩ := elimF hk1
    obtain ⟨R3, T, rp, _⟩ := Rel.pops (Θ := Θ) R1 el e
    exact hr H1 vs T ds _ _ rp el hf fun v d sc hq => w _ v H1 hq (R3.push fun Z => sc H1 Z)
theorem Reps.c1 {H : Hp} {vs : List V} {T : List Addr} {d : D} (r : Reps H T vs [d]) : ∃ v T', vs = [v] ∧ Rep H T' v d := by
  cases r with
  | cons r1 r => cases r; exact ⟨_, _, rfl, r1⟩
theorem Reps.c2 {H : Hp} {vs : List V} {T : List Addr} {d e : D} (r : Reps H T vs [d, e]) : ∃ v w T1 T2, vs = [v, w] ∧ Rep H T1 v d ∧ Rep H T2 w e := by
  cases r with
  | cons r1 r => obtain ⟨v, T', rfl, r2⟩ := Reps.c1 r; exact ⟨_, _, _, _, rfl, r1, r2⟩
def vLen : List D → (D → Prop) → Prop := fun ds q => match ds with
  | [.list es] => q (.int es.length)
  | [.tuple es] => q (.int es.length)
  | _ => False
theorem sc_len {K : PySem.W.Frag} : SoC 1 (fun xs H Q => ∃ p ys, xs = [.ref p] ∧ (SqL K H p ys ∨ SqT K H p ys) ∧ Q (.int ys.length) H) vLen := fun H vs T ds Q q r el hf w => by
  unfold vLen at hf
  split at hf
  · obtain ⟨v, T', rfl, r1⟩ := r.c1
    cases r1 with
    | lst e rs => exact ⟨_, _, rfl, .inl (SqL.of e), w _ _ (by rw [rs.length]; exact sca_int _) hf⟩
  · obtain ⟨v, T', rfl, r1⟩ := r.c1
    cases r1 with
    | tup e rs => exact ⟨_, _, rfl, .inr (SqT.of e), w _ _ (by rw [rs.length]; exact sca_int _) hf⟩
  · exact hf.elim
def v2I (g : Int → Int → Int) : List D → (D → Prop) → Prop := fun ds q => match ds with
  | [.int i, .int j] => q (.int (g i j))
  | _ => False
theorem sc_2i {g : Int → Int → Int} : SoC 2 (fun xs H Q => ∃ i j, xs = [.int i, .int j] ∧ Q (.int (g i j)) H) (v2I g) := fun H vs T ds Q q r el hf w => by
  unfold v2I at hf
  split at hf
  · obtain ⟨v, u, T1, T2, rfl, r1, r2⟩ := r.c2
    cases r1
    cases r2
    exact ⟨_, _, rfl, w _ _ (sca_int _) hf⟩
  · exact hf.elim
def v1I (g : Int → Int) : List D → (D → Prop) → Prop := fun ds q => match ds with
  | [.int i] => q (.int (g i))
  | _ => False
def vInt : List D → (D → Prop) → Prop := fun ds q => match ds with
  | [.int i] => q (.int i)
  | [.bool b] => q (.int (if b then 1 else 0))
  | _ => False
def v3I (g : Int → Int → Int → Int) : List D → (D → Prop) → Prop := fun ds q => match ds with
  | [.int i, .int j, .int k] => q (.int (g i j k))
  | _ => False
/-- ints out of data -/
def intsOf : List D → Option (List Int)
  | [] => some []
  | .int i :: ds => (intsOf ds).bind fun r => some (i :: r)
  | _ :: _ => none
theorem intsOf_map (ns : List Int) : intsOf (ns.map PyData.int) = some ns := by
  induction ns with
  | nil => rfl
  | cons n ns ih => simp [intsOf, ih]
theorem intsOf_eq : ∀ {ds : List D} {ns : List Int}, intsOf ds = some ns → ds = ns.map PyData.int
  | [], ns, h => by simp only [intsOf, Option.some.injEq] at h; subst h; rfl
  | d :: ds, ns, h => by
    cases d with
    | int i =>
      simp only [intsOf] at h
      cases e : intsOf ds with
      | none => rw [e] at h; cases h
      | some r =>
        rw [e] at h
        simp only [Option.bind_some, Option.some.injEq] at h
        subst h
        rw [intsOf_eq e]
        rfl
    | _ => cases h
def boolsOf : List D → Option (List Bool)
  | [] => some []
  | .bool i :: ds => (boolsOf ds).bind fun r => some (i :: r)
  | _ :: _ => none
theorem boolsOf_map (ns : List Bool) : boolsOf (ns.map PyData.bool) = some ns := by
  induction ns with
  | nil => rfl
  | cons n ns ih => simp [boolsOf, ih]
theorem boolsOf_eq : ∀ {ds : List D} {ns : List Bool}, boolsOf ds = some ns → ds = ns.map PyData.bool
  | [], ns, h => by simp only [boolsOf, Option.some.injEq] at h; subst h; rfl
  | d :: ds, ns, h => by
    cases d with
    | bool i =>
      simp only [boolsOf] at h
      cases e : boolsOf ds with
      | none => rw [e] at h; cases h
      | some r =>
        rw [e] at h
        simp only [Option.bind_some, Option.some.injEq] at h
        subst h
        rw [boolsOf_eq e]
        rfl
    | _ => cases h
theorem Reps.bools {H : Hp} : ∀ {bs : List Bool} {T : List Addr} {vs : List V}, Reps H T vs (bs.map PyData.bool) → vs = bs.map V.bl
  | [], _, _, h => by cases h; rfl
  | b :: bs, _, _, h => by
    cases h with
    | cons h1 h2 =>
      cases h1
      rw [Reps.bools h2]
      rfl
def vAll (g : List Bool → Bool) : List D → (D → Prop) → Prop := fun ds q => match ds with
  | [.list es] => (boolsOf es).elim False fun bs => q (.bool (g bs))
  | _ => False
theorem sc_bools {K : PySem.W.Frag} {g : List Bool → Bool} : SoC 1 (fun vs H Q => ∃ (a : Addr) (bs : List Bool), vs = [V.ref a] ∧ SqL K H a (bs.map V.bl) ∧ Q (.bl (g bs)) H) (vAll g) := fun H vs T ds Q q r el hf w => by
  unfold vAll at hf
  split at hf
  · obtain ⟨bs, e, hg⟩ := elimF hf
    obtain rfl := boolsOf_eq e
    obtain ⟨v, T1, rfl, r1⟩ := r.c1
    cases r1 with
    | lst e rs =>
      rw [rs.bools] at e
      exact ⟨_, bs, rfl, SqL.of e, w _ _ (sca_bl _) hg⟩
  · exact hf.elim
def vSum : List D → (D → Prop) → Prop := fun ds q => match ds with
  | [.list es] => (intsOf es).elim False fun ns => q (.int ns.sum)
  | _ => False
def vRepr : List D → (D → Prop) → Prop := fun ds q => match ds with
  | [d] => d.showable = true ∧ d.depth ≤ 60 ∧ wd d ≤ 10000000 ∧ q (.str d.shown)
  | _ => False
theorem sc_repr {K : PySem.W.Frag} : SoC 1 (rRepr K) vRepr := fun H vs T ds Q q r el hf w => by
  unfold vRepr at hf
  split at hf
  · obtain ⟨v, T1, rfl, r1⟩ := r.c1
    have := shown_wd _ (Dp.nodict (K := K) _ v (Rep.dp K _ _ _ r1))
    exact ⟨v, _, rfl, Rep.dp K _ _ _ r1, hf.1, hf.2.1, szle (Nat.le_trans this hf.2.2.1), w _ _ (sca_str _) hf.2.2.2⟩
  · exact hf.elim
end
end G
namespace G
open PySem PySem.Spec PyProof.Rows L2
variable {C : Cn} {xc : XC C}
section
variable {t t1 t2 ta tb tc : TE} {k k1 k2 ka kb kc : KE} {n m : Nat} {c1 c2 : TT} {h1 h2 : KT} {K : PySem.W.Frag}
def kTest (ke : KE) : KT := fun γ q => ke γ fun γ1 => (datN γ1.sl 1 γ1.tm).elim False fun x => match x.1.getD 0 .none with
  | .bool b => q b ⟨γ1.sl, x.2, γ1.n⟩
  | _ => False
theorem so_test (h : SoE xc t k) : SoT xc (tTest t) (kTest k) := fun γ Θ σ H Q q R hk w => h γ Θ σ H _ _ R hk fun γ1 v H1 hk1 R1 => by
  obtain ⟨⟨ds, rr⟩, e, hf⟩ := elimF hk1
  obtain ⟨R3, T, rp, _⟩ := Rel.pops (vs := [v]) (Θ := Θ) R1 rfl e
  obtain ⟨d1, T1, rfl, r1⟩ := rp.inv1
  dsimp only [List.getD_cons_zero] at hf
  split at hf
  · rename_i b eb
    have eb' : d1 = .bool b := eb
    subst eb'
    cases r1
    exact ⟨b, rfl, w _ _ H1 hf R3⟩
  · exact hf.elim
def kTAnd (a b : KT) : KT := fun γ q => a γ fun c γ1 => if c = true then b γ1 q else q false γ1
def kTOr (a b : KT) : KT := fun γ q => a γ fun c γ1 => if c = true then q true γ1 else b γ1 q
def kTNot (a : KT) : KT := fun γ q => a γ fun c γ1 => q (!c) γ1
theorem so_tand (a : SoT xc c1 h1) (b : SoT xc c2 h2) : SoT xc (tAnd c1 c2) (kTAnd h1 h2) := fun γ Θ σ H Q q R hk w => a γ Θ σ H _ _ R hk fun c γ1 H1 hk1 R1 => by
  cases c with
  | true => exact b γ1 Θ σ H1 Q q R1 (by simpa using hk1) w
  | false => exact w _ _ H1 (by simpa using hk1) R1
theorem so_tor (a : SoT xc c1 h1) (b : SoT xc c2 h2) : SoT xc (tOr c1 c2) (kTOr h1 h2) := fun γ Θ σ H Q q R hk w => a γ Θ σ H _ _ R hk fun c γ1 H1 hk1 R1 => by
  cases c with
  | false => exact b γ1 Θ σ H1 Q q R1 (by simpa using hk1) w
  | true => exact w _ _ H1 (by simpa using hk1) R1
theorem so_tnot (a : SoT xc c1 h1) : SoT xc (tNot c1) (kTNot h1) := fun γ Θ σ H Q q R hk w => a γ Θ σ H _ _ R hk fun c γ1 H1 hk1 R1 => w _ _ H1 hk1 R1
def kYes : KT := fun γ q => q true γ
theorem so_yes : SoT xc tYes kYes := fun γ Θ σ H Q q R hk w => w _ _ H hk R
def popB (γ : VSt) (f : Bool → VSt → Prop) : Prop := (datN γ.sl 1 γ.tm).elim False fun x => match x.1.getD 0 .none with
  | .bool b => f b ⟨γ.sl, x.2, γ.n⟩
  | _ => False
theorem popB_ok {C : Cn} {γ : VSt} {Θ : List V} {σ : L2.St} {H : Hp} {v : V} {f : Bool → VSt → Prop} (R : Rel C γ (v :: Θ) σ H) (h : popB γ f) : ∃ b γ', v = .bl b ∧ f b γ' ∧ Rel C γ' Θ σ H := by
  obtain ⟨⟨ds, rr⟩, e, hf⟩ := elimF h
  obtain ⟨R3, T, rp, _⟩ := Rel.pops (vs := [v]) (Θ := Θ) R rfl e
  obtain ⟨d1, T1, rfl, r1⟩ := rp.inv1
  dsimp only [List.getD_cons_zero] at hf
  split at hf
  · rename_i b eb
    have eb' : d1 = .bool b := eb
    subst eb'
    cases r1
    exact ⟨b, _, rfl, hf, R3⟩
  · exact hf.elim
def pushB (γ : VSt) (b : Bool) : VSt := ⟨γ.sl, .fz (.bool b) :: γ.tm, γ.n⟩
theorem Rel.pushB {C : Cn} {γ : VSt} {Θ : List V} {σ : L2.St} {H : Hp} (R : Rel C γ Θ σ H) (b : Bool) : Rel C (G.pushB γ b) (.bl b :: Θ) σ H := by
  obtain ⟨sl, tm, n⟩ := γ
  exact R.push fun Z => .bl b
def kAndV (ka kb : KE) : KE := fun γ q => ka γ fun γ1 => popB γ1 fun b γ2 => if b = true then kb γ2 q else q (pushB γ2 false)
def kOrV (ka kb : KE) : KE := fun γ q => ka γ fun γ1 => popB γ1 fun b γ2 => if b = true then q (pushB γ2 true) else kb γ2 q
def kNotV (ka : KE) : KE := fun γ q => ka γ fun γ1 => popB γ1 fun b γ2 => q (pushB γ2 (!b))
theorem so_andV (a : SoE xc ta ka) (b : SoE xc tb kb) : SoE xc (tAndV ta tb) (kAndV ka kb) := fun γ Θ σ H Q q R hk w => a γ Θ σ H _ _ R hk fun γ1 v H1 hk1 R1 => by
  obtain ⟨c, γ2, rfl, hf, R2⟩ := popB_ok R1 hk1
  refine ⟨c, rfl, ?_⟩
  cases c with
  | true => exact b γ2 Θ σ H1 Q q R2 (by simpa using hf) w
  | false => exact w _ _ H1 (by simpa using hf) (R2.pushB false)
def kIf (c : KT) (ka kb : KE) : KE := fun γ q => c γ fun b γ1 => if b = true then ka γ1 q else kb γ1 q
theorem so_if (c : SoT xc c1 h1) (a : SoE xc ta ka) (b : SoE xc tb kb) : SoE xc (tIf c1 ta tb) (kIf h1 ka kb) := fun γ Θ σ H Q q R hk w => c γ Θ σ H _ _ R hk fun d γ1 H1 hk1 R1 => by
  cases d with
  | true => exact a γ1 Θ σ H1 Q q R1 (by simpa using hk1) w
  | false => exact b γ1 Θ σ H1 Q q R1 (by simpa using hk1) w
def popC : Nat → List Sl → Option ((Bool × List D) × List Sl)
  | 0, tm => some ((true, []), tm)
  | _ + 1, [] => none
  | n + 1, s :: tm => (con s).bind fun c => (popC n tm).bind fun x => some ((x.1.1 && c.1, x.1.2 ++ [c.2]), x.2)
theorem cont_snoc {s : Sl} : ∀ ss : List Sl, cont (ss ++ [s]) = (cont ss).bind fun y => (con s).bind fun x => some (y.1 && x.1, y.2 ++ [x.2])
  | [] => by
    simp only [List.nil_append, cont, Option.bind_some]
    cases con s <;> simp
  | r :: ss => by
    simp only [List.cons_append, cont, cont_snoc ss]
    cases con r with
    | none => rfl
    | some x =>
      cases cont ss with
      | none => rfl
      | some y =>
        cases con s with
        | none => rfl
        | some z => simp [Bool.and_assoc]
theorem popC_ok : ∀ {n : Nat} {tm r : List Sl} {b : Bool} {ds : List D}, popC n tm = some ((b, ds), r) → ∃ ss, tm = ss.reverse ++ r ∧ ss.length = n ∧ cont ss = some (b, ds)
  | 0, tm, r, b, ds, h => by
    simp only [popC, Option.some.injEq, Prod.mk.injEq] at h
    obtain ⟨⟨rfl, rfl⟩, rfl⟩ := h
    exact ⟨[], rfl, rfl, rfl⟩
  | n + 1, [], _, _, _, h => by cases h
  | n + 1, s :: tm, r, b, ds, h => by
    simp only [popC] at h
    cases e1 : con s with
    | none => rw [e1] at h; cases h
    | some c =>
      cases e2 : popC n tm with
      | none => rw [e1, e2] at h; cases h
      | some x =>
        rw [e1, e2] at h
        simp only [Option.bind_some, Option.some.injEq, Prod.mk.injEq] at h
        obtain ⟨⟨rfl, rfl⟩, rfl⟩ := h
        obtain ⟨ss, e3, e4, e5⟩ := popC_ok (b := x.1.1) (ds := x.1.2) (r := x.2) e2
        refine ⟨ss ++ [s], by rw [e3]; simp, by simp [e4], ?_⟩
        rw [cont_snoc, e5, e1]
        rfl
def kMk (l : Bool) (n : Nat) (ka : KE) : KE := fun γ q => ka γ fun γ1 => (popC n γ1.tm).elim False fun x => q ⟨γ1.sl, mkS l x.1.1 x.1.2 :: x.2, γ1.n⟩
theorem mk_core {C : Cn} {γ : VSt} {Θ : List V} {σ : L2.St} {H : Hp} {vs : List V} {l : Bool} {q : VSt → Prop} (R : Rel C γ (vs.reverse ++ Θ) σ H) (el : vs.length = n) (h : (popC n γ.tm).elim False fun x => q ⟨γ.sl, mkS l x.1.1 x.1.2 :: x.2, γ.n⟩) :
    ∀ p, H p = none → ∃ γ', q γ' ∧ Rel C γ' (.ref p :: Θ) σ (upd H p (hoq l vs)) := fun p hp => by
  obtain ⟨⟨⟨b, ds⟩, r⟩, e, hq⟩ := elimF h
  obtain ⟨ss, e1, e2, e3⟩ := popC_ok e
  obtain ⟨sl, tm, j⟩ := γ
  dsimp only at e1 hq
  subst e1
  exact ⟨_, hq, R.cont (by omega) e3 hp⟩
theorem so_lst {ts : TA} (h : SoA xc n ts ka) (hn : n ≤ 10000000 := by decide) : SoE xc (tLst ts) (kMk true n ka) := fun γ Θ σ H Q q R hk w => h γ Θ σ H _ _ R hk fun γ1 vs H1 el hk1 R1 =>
  ⟨szle (by omega), fun p hp => by
    obtain ⟨γ', hq, R2⟩ := mk_core R1 el hk1 p hp
    exact w γ' _ _ hq R2⟩
theorem so_tup {ts : TA} (h : SoA xc n ts ka) (hn : n ≤ 10000000 := by decide) : SoE xc (tTup ts) (kMk false n ka) := fun γ Θ σ H Q q R hk w => h γ Θ σ H _ _ R hk fun γ1 vs H1 el hk1 R1 =>
  ⟨szle (by omega), fun p hp => by
    obtain ⟨γ', hq, R2⟩ := mk_core R1 el hk1 p hp
    exact w γ' _ _ hq R2⟩
def ixD (ds : List D) (i : Int) (f : Nat → D → Prop) : Prop := (ixN ds.length i).elim False fun k => (ds[k]?).elim False (f k)
def seqD (l : Bool) : D → Option (List D)
  | .list ds => if l then some ds else none
  | .tuple ds => if l then none else some ds
  | _ => none
theorem seqD_eq {l : Bool} {d : D} {ds : List D} (h : seqD l d = some ds) : d = dq l ds := by
  cases d <;> cases l <;> simp [seqD] at h <;> subst h <;> rfl
def kIx (l : Bool) (ka kb : KE) : KE := fun γ q => ka γ fun γ1 => kb γ1 fun γ2 => match γ2.tm with
  | .fz (.int i) :: s :: tm => ((look γ2.sl s).bind (seqD l)).elim False fun ds => ixD ds i fun k d => q ⟨γ2.sl, subS s k d :: tm, γ2.n⟩
  | _ => False
theorem ix_core {C : Cn} {γ : VSt} {Θ : List V} {σ : L2.St} {H : Hp} {v u : V} {l : Bool} {q : VSt → Prop} (R : Rel C γ (u :: v :: Θ) σ H) (h : match γ.tm with
  | .fz (.int i) :: s :: tm => ((look γ.sl s).bind (seqD l)).elim False fun ds => ixD ds i fun k d => q ⟨γ.sl, subS s k d :: tm, γ.n⟩
  | _ => False) : ∃ p xs i w γ', v = .ref p ∧ u = .int i ∧ H p = some (hoq l xs) ∧ atI xs i = some w ∧ q γ' ∧ Rel C γ' (w :: Θ) σ H := by
  obtain ⟨sl, tm, j⟩ := γ
  dsimp only at h
  split at h
  · rename_i i s tm'
    obtain ⟨ds, e, hd⟩ := elimF h
    obtain ⟨d0, e1, e2⟩ := Option.bind_eq_some_iff.mp e
    have e3 := seqD_eq e2
    subst e3
    obtain ⟨T, r, _⟩ := R.read (d := .int i) rfl
    cases r
    obtain ⟨p, xs, rfl, hp, el, k⟩ := R.pop.item e1
    unfold ixD at hd
    obtain ⟨kk, e4, hd⟩ := elimF hd
    obtain ⟨d, e5, hd⟩ := elimF hd
    have hlt : kk < xs.length := by
      have := (List.getElem?_eq_some_iff.mp e5).1
      omega
    have e6 : xs[kk]? = some xs[kk] := List.getElem?_eq_getElem hlt
    refine ⟨p, xs, i, xs[kk], _, rfl, rfl, hp, ?_, hd, k kk d _ e5 e6⟩
    unfold atI
    rw [el, e4]
    exact e6
  · exact h.elim
theorem so_ixL (a : SoE xc ta ka) (b : SoE xc tb kb) : SoE xc (tOp (rIxL K) ta tb) (kIx true ka kb) := fun γ Θ σ H Q q R hk w => a γ Θ σ H _ _ R hk fun γ1 v1 H1 hk1 R1 => b γ1 _ σ H1 _ _ R1 hk1 fun γ2 v2 H2 hk2 R2 => by
  obtain ⟨p, xs, i, z, γ', rfl, rfl, hp, ha, hq, R3⟩ := ix_core R2 hk2
  exact ⟨p, xs, i, z, rfl, rfl, SqL.of hp, ha, w γ' z H2 hq R3⟩
theorem so_ixT (a : SoE xc ta ka) (b : SoE xc tb kb) : SoE xc (tOp (rIxT K) ta tb) (kIx false ka kb) := fun γ Θ σ H Q q R hk w => a γ Θ σ H _ _ R hk fun γ1 v1 H1 hk1 R1 => b γ1 _ σ H1 _ _ R1 hk1 fun γ2 v2 H2 hk2 R2 => by
  obtain ⟨p, xs, i, z, γ', rfl, rfl, hp, ha, hq, R3⟩ := ix_core R2 hk2
  exact ⟨p, xs, i, z, rfl, rfl, SqT.of hp, ha, w γ' z H2 hq R3⟩
theorem ixD_ints {gs : List Int} {i : Int} {f : Nat → D → Prop} (h0 : 0 ≤ i) (h1 : i < gs.length) (h : f i.toNat (.int (gs.getD i.toNat 0))) : ixD (gs.map PyData.int) i f := by
  unfold ixD
  have e1 : ixN (gs.map PyData.int).length i = some i.toNat := by
    unfold ixN
    rw [List.length_map, if_pos h0, if_pos h1]
  have e2 : (gs.map PyData.int)[i.toNat]? = some (.int (gs.getD i.toNat 0)) := by
    rw [List.getElem?_map, List.getD_eq_getElem?_getD, List.getElem?_eq_getElem (by omega)]
    rfl
  rw [e1]
  show ((gs.map PyData.int)[i.toNat]?).elim False (f i.toNat)
  rw [e2]
  exact h
theorem Trs.take {H : Hp} {Z : Reg} : ∀ {vs : List V} {ds : List D} {S : List Addr}, Trs H Z S vs ds → S = [] → ∀ n, Trs H Z [] (vs.take n) (ds.take n)
  | [], [], _, h, _, n => by simpa using Trs.nil
  | [], _ :: _, _, h, _, n => by cases h
  | _ :: _, [], _, h, _, n => by cases h
  | v :: vs, d :: ds, _, h, e, 0 => .nil
  | v :: vs, d :: ds, _, h, e, n + 1 => by
    cases h with
    | cons h1 h2 =>
      obtain ⟨rfl, rfl⟩ := List.append_eq_nil_iff.mp e
      exact .cons (S := []) h1 (Trs.take h2 rfl n)
theorem Trs.drop {H : Hp} {Z : Reg} : ∀ {vs : List V} {ds : List D} {S : List Addr}, Trs H Z S vs ds → S = [] → ∀ n, Trs H Z [] (vs.drop n) (ds.drop n)
  | [], [], _, h, _, n => by simpa using Trs.nil
  | [], _ :: _, _, h, _, n => by cases h
  | _ :: _, [], _, h, _, n => by cases h
  | v :: vs, d :: ds, _, h, e, 0 => by subst e; exact h
  | v :: vs, d :: ds, _, h, e, n + 1 => by
    cases h with
    | cons h1 h2 =>
      obtain ⟨rfl, rfl⟩ := List.append_eq_nil_iff.mp e
      exact Trs.drop h2 rfl n
def newL (ds : List D) : Sl := .ow (nolists ds) (.list ds)
theorem Rel.newL {C : Cn} {Z : Reg} {S1 S2 : List Addr} {sl tm : List Sl} {j : Int} {Θ : List V} {σ : L2.St} {H : Hp} {us : List V} {es : List D} {p : Addr} (h : RelX C Z S1 S2 ⟨sl, tm, j⟩ Θ σ H) (t : Trs H Z [] us es) (hp : H p = none) :
    Rel C ⟨sl, G.newL es :: tm, j⟩ (.ref p :: Θ) σ (upd H p (.lst us)) := by
  have sm := same_upd (o := .lst us) hp
  have h1 : RelX C Z S1 S2 ⟨sl, tm, j⟩ Θ σ (upd H p (.lst us)) := by
    refine ⟨fun a o e m => ⟨(h.fr a o e m).1, sm a o (h.fr a o e m).2⟩, h.es.mono (fun t vs e => sm t _ e) (fun _ z => z) (fun a _ o e => sm a o e) (fun a _ o e => sm a o e), h.et.mono (fun t vs e => sm t _ e) (fun _ z => z) (fun a _ o e => sm a o e) (fun a _ o e => sm a o e), h.nd, h.nz, fun q b e => ⟨(h.pu q b e).1.mono (sm q), (h.pu q b e).2⟩, fun a z => ?_, h.dj, fun k j π u e ev => ?_⟩
    · obtain ⟨o, e⟩ := h.ex a z
      exact ⟨o, sm a o e⟩
    · obtain ⟨s, d', e', w, g1, g2, g3, g4, wk⟩ := h.al k j π u e ev
      obtain ⟨w', T', ew, t, sub⟩ := h.slot g1 g2
      rw [g4] at ew
      cases ew
      exact ⟨s, d', e', w, g1, g2, g3, g4, (Tr.part t g3 wk).2 _ (fun t vs e => sm t _ e) fun a _ o e => sm a o e⟩
  have f : Fl C Z S1 S2 (upd H p (.lst us)) [p] := by
    refine ⟨?_, fun a m => ?_⟩
    · show (p :: (S1 ++ S2)).Nodup
      refine List.nodup_cons.mpr ⟨fun m => ?_, h.nd⟩
      rcases List.mem_append.mp m with m | m
      · obtain ⟨ys, q⟩ := h.es.dom p m
        rw [hp] at q
        cases q
      · obtain ⟨ys, q⟩ := h.et.dom p m
        rw [hp] at q
        cases q
    · simp only [List.mem_singleton] at m
      subst m
      refine ⟨fun z => ?_, fun q b e z => ?_, _, upd_same⟩
      · obtain ⟨o, q⟩ := h.ex a z
        rw [hp] at q
        cases q
      · subst z
        obtain ⟨x, y, z, e2, _⟩ := (h.pu a b e).1
        rw [hp] at e2
        cases e2
  have t' : Trs (upd H p (.lst us)) Z [] us es := Trs.mono (fun t vs e => sm t _ e) (fun _ z => z) (fun a _ o e => sm a o e) _ _ _ t fun a m => nomatch m
  unfold G.newL
  cases hn : nolists es with
  | true => exact ⟨_, _, _, h1.pushF f (A' := [p]) (Dr := []) (by simp) (.ow (.lst (S := []) upd_same (Trs.nolist _ _ _ t' hn).2)) (fun i π z => nomatch z)⟩
  | false => exact ⟨_, _, _, h1.pushF f (A' := [p]) (Dr := []) (by simp) (.sp upd_same t') (fun i π z => nomatch z)⟩
/-- the items of the top, shared -/
def shr (sl : List Sl) (s : Sl) (l : Bool) : Option (List D) := ((look sl s).bind (seqD l)).bind fun ds => match s with
  | .al _ _ => if nolists ds then some ds else none
  | _ => some ds
theorem Rel.shr {C : Cn} {sl tm : List Sl} {s : Sl} {j : Int} {v : V} {Θ : List V} {σ : L2.St} {H : Hp} {l : Bool} {ds : List D} (R : Rel C ⟨sl, s :: tm, j⟩ (v :: Θ) σ H) (e : G.shr sl s l = some ds) :
    ∃ a vs Z S1 S2, v = .ref a ∧ H a = some (hoq l vs) ∧ RelX C Z S1 S2 ⟨sl, tm, j⟩ Θ σ H ∧ Trs H Z [] vs ds := by
  unfold G.shr at e
  obtain ⟨ds', e1, e2⟩ := Option.bind_eq_some_iff.mp e
  obtain ⟨d0, e3, e4⟩ := Option.bind_eq_some_iff.mp e1
  have e5 := seqD_eq e4
  subst e5
  obtain ⟨a, vs, rfl, ha, el, _⟩ := R.item e3
  have eqv : ∀ us, H a = some (hoq l us) → us = vs := fun us q => by
    rw [ha] at q
    cases l with
    | true => cases q; rfl
    | false => cases q; rfl
  -- frozen
  have frz : ∀ {d}, Rel C ⟨sl, .fz d :: tm, j⟩ (.ref a :: Θ) σ H → d = dq l ds' → ds' = ds → ∃ b us Z S1 S2, V.ref a = .ref b ∧ H b = some (hoq l us) ∧ RelX C Z S1 S2 ⟨sl, tm, j⟩ Θ σ H ∧ Trs H Z [] us ds := fun {d} R ed eds => by
    subst ed
    subst eds
    obtain ⟨Z, S1, S2, h⟩ := R
    obtain ⟨A, B, es, r, f⟩ := RelX.popF (ss := [.fz (dq l ds')]) (us := [.ref a]) h rfl
    cases es with
    | cons e1 e2 =>
      cases e1 with
      | fz t =>
        obtain ⟨a', us, T, ea, ha', ts, sub⟩ := t.seq
        cases ea
        have eT : T = [] := by
          cases T with
          | nil => rfl
          | cons y ys => exact nomatch sub y (by simp)
        subst eT
        exact ⟨a, us, Z, S1, B, rfl, ha', r, ts⟩
  cases s with
  | jk => cases e3
  | dc m => cases e3
  | dt m => cases e3
  | sh m => cases e3
  | xv _ _ m => cases e3
  | ho _ _ => cases e3
  | xw _ _ => cases e3
  | io d => cases e3
  | pu => cases e3
  | fz d =>
    cases e3
    exact frz R rfl (by simpa using e2)
  | ow b d =>
    cases e3
    exact frz R.frzT rfl (by simpa using e2)
  | al i π =>
    dsimp only at e2
    by_cases hn : nolists ds' = true
    · rw [if_pos hn] at e2
      cases e2
      obtain ⟨Z, S1, S2, h⟩ := R
      obtain ⟨T, t, _⟩ := h.trAt (k := 0) rfl rfl e3
      obtain ⟨a', us, T', ea, ha', ts, _⟩ := t.seq
      cases ea
      obtain ⟨A, B, es, r, f⟩ := RelX.popF (ss := [.al i π]) (us := [.ref a]) h rfl
      exact ⟨a, us, Z, S1, B, rfl, ha', r, (Trs.nolist _ _ _ ts hn).2⟩
    · rw [if_neg hn] at e2
      cases e2
/-- list(xs), list(t) -/
def kListOf (ka : KE) : KE := fun γ q => ka γ fun γ1 => match γ1.tm with
  | s :: tm => ((shr γ1.sl s true).orElse fun _ => shr γ1.sl s false).elim False fun ds => q ⟨γ1.sl, newL ds :: tm, γ1.n⟩
  | _ => False
theorem so_listOf {ts : TA} (h : SoA xc 1 ts ka) : SoE xc (tCB (fun xs H Q => ∃ p ys, xs = [.ref p] ∧ (SqL K H p ys ∨ SqT K H p ys) ∧ ∀ l, H l = none → Q (.ref l) (upd H l (.lst ys))) ts) (kListOf ka) := fun γ Θ σ H Q q R hk w => h γ Θ σ H _ _ R hk fun γ1 vs H1 el hk1 R1 => by
  match vs, el, R1 with
  | [v], _, R1 =>
    obtain ⟨sl, tm, j⟩ := γ1
    dsimp only at hk1
    match tm, hk1, R1 with
    | s :: tm, hk1, R1 =>
      obtain ⟨ds, e, hq⟩ := elimF hk1
      cases e1 : shr sl s true with
      | some ds1 =>
        rw [e1] at e
        cases e
        obtain ⟨a, us, Z, S1, S2, rfl, ha, X, ts⟩ := Rel.shr R1 e1
        exact ⟨a, us, rfl, .inl (SqL.of ha), fun p hp => w _ _ _ hq (Rel.newL X ts hp)⟩
      | none =>
        rw [e1] at e
        obtain ⟨a, us, Z, S1, S2, rfl, ha, X, ts⟩ := Rel.shr R1 (l := false) e
        exact ⟨a, us, rfl, .inr (SqT.of ha), fun p hp => w _ _ _ hq (Rel.newL X ts hp)⟩
/-- slices -/
def kNo : KO := fun γ q => q none γ
def popI (γ : VSt) (f : Int → VSt → Prop) : Prop := match γ.tm with
  | .fz (.int i) :: tm => f i ⟨γ.sl, tm, γ.n⟩
  | _ => False
theorem popI_ok {C : Cn} {γ : VSt} {Θ : List V} {σ : L2.St} {H : Hp} {v : V} {f : Int → VSt → Prop} (R : Rel C γ (v :: Θ) σ H) (h : popI γ f) : ∃ i γ', v = .int i ∧ f i γ' ∧ Rel C γ' Θ σ H := by
  unfold popI at h
  obtain ⟨sl, tm, j⟩ := γ
  dsimp only at h
  split at h
  · rename_i i tm'
    obtain ⟨T, r, _⟩ := R.read (d := .int i) rfl
    cases r
    exact ⟨i, _, rfl, h, R.pop⟩
  · exact h.elim
def kPart (k : KE) : KO := fun γ q => k γ fun γ1 => popI γ1 fun i γ2 => q (some i) γ2
theorem so_no : SoO xc tNoPart kNo := fun γ Θ σ H Q q R hk w => w _ _ H hk R
theorem so_part (h : SoE xc t k) : SoO xc (tPart t) (kPart k) := fun γ Θ σ H Q q R hk w => h γ Θ σ H _ _ R hk fun γ1 v H1 hk1 R1 => by
  obtain ⟨i, γ2, rfl, hf, R2⟩ := popI_ok R1 hk1
  exact ⟨i, rfl, w _ _ H1 hf R2⟩
def cutD (ds : List D) (lo hi : Option Int) : List D := (ds.drop (HT.sIx ds.length 0 lo)).take (HT.sIx ds.length ds.length hi - HT.sIx ds.length 0 lo)
def kSl (ka : KE) (lo hi : KO) : KE := fun γ q => ka γ fun γ1 => lo γ1 fun a γ2 => hi γ2 fun b γ3 => match γ3.tm with
  | s :: tm => (shr γ3.sl s true).elim False fun ds => q ⟨γ3.sl, newL (cutD ds a b) :: tm, γ3.n⟩
  | _ => False
theorem so_sl {tl th : TO} {lo hi : KO} (a : SoE xc ta ka) (b : SoO xc tl lo) (c : SoO xc th hi) : SoE xc (tSl (rSlL K) ta tl th) (kSl ka lo hi) := fun γ Θ σ H Q q R hk w => a γ Θ σ H _ _ R hk fun γ1 v H1 hk1 R1 => b γ1 _ σ H1 _ _ R1 hk1 fun i γ2 H2 hk2 R2 => c γ2 _ σ H2 _ _ R2 hk2 fun j γ3 H3 hk3 R3 => by
  obtain ⟨sl, tm, jj⟩ := γ3
  dsimp only at hk3
  match tm, hk3, R3 with
  | s :: tm, hk3, R3 =>
    obtain ⟨ds, e, hq⟩ := elimF hk3
    obtain ⟨p, us, Z, S1, S2, rfl, ha, X, ts⟩ := Rel.shr R3 e
    refine ⟨p, us, rfl, SqL.of ha, fun o ho => w _ _ _ hq (Rel.newL X ?_ ho)⟩
    have el := ts.length
    unfold cutV cutD
    rw [el]
    exact (ts.drop rfl _).take rfl _
/-- xs + ys -/
def kCat (ka kb : KE) : KE := fun γ q => ka γ fun γ1 => kb γ1 fun γ2 => match γ2.tm with
  | s2 :: s1 :: tm => (shr γ2.sl s1 true).elim False fun ds => (shr γ2.sl s2 true).elim False fun es => ds.length + es.length ≤ 10000000 ∧ q ⟨γ2.sl, newL (ds ++ es) :: tm, γ2.n⟩
  | _ => False
theorem RelX.shr {C : Cn} {Z : Reg} {S1 S2 : List Addr} {sl tm : List Sl} {s : Sl} {j : Int} {v : V} {Θ : List V} {σ : L2.St} {H : Hp} {l : Bool} {ds : List D} (h : RelX C Z S1 S2 ⟨sl, s :: tm, j⟩ (v :: Θ) σ H) (e : G.shr sl s l = some ds) :
    ∃ a vs Z' S2', v = .ref a ∧ H a = some (hoq l vs) ∧ RelX C Z' S1 S2' ⟨sl, tm, j⟩ Θ σ H ∧ Trs H Z' [] vs ds ∧ ∀ a, Z a → Z' a := by
  unfold G.shr at e
  obtain ⟨ds', e1, e2⟩ := Option.bind_eq_some_iff.mp e
  obtain ⟨d0, e3, e4⟩ := Option.bind_eq_some_iff.mp e1
  have e5 := seqD_eq e4
  subst e5
  obtain ⟨A, B, es, r, f⟩ := RelX.popF (ss := [s]) (us := [v]) h rfl
  obtain ⟨T0, en, rfl⟩ : ∃ T0, Ent C Z H T0 (some v) s ∧ A = T0 := by
    cases es with
    | cons e1 e2 =>
      cases e2
      exact ⟨_, e1, by simp⟩
  have go : datS s = some (dq l ds') → ds' = ds → ∃ a vs Z' S2', v = .ref a ∧ H a = some (hoq l vs) ∧ RelX C Z' S1 S2' ⟨sl, tm, j⟩ Θ σ H ∧ Trs H Z' [] vs ds ∧ ∀ a, Z a → Z' a := fun q eds => by
    subst eds
    obtain ⟨w, Tw, ew, t, sbw⟩ := en.tr q
    cases ew
    have g := r.growF f
    have t2 : Tr H (fun a => Z a ∨ a ∈ A) [] v (dq l ds') := Tr.freeze (fun _ z => .inl z) _ _ _ t fun a m => .inr (sbw a m)
    obtain ⟨a, us, T, rfl, ha, ts, sub⟩ := t2.seq
    have eT : T = [] := by
      cases T with
      | nil => rfl
      | cons y ys => exact nomatch sub y (by simp)
    subst eT
    exact ⟨a, us, _, B, rfl, ha, g, ts, fun a z => .inl z⟩
  cases s with
  | jk => cases e3
  | dc m => cases e3
  | dt m => cases e3
  | sh m => cases e3
  | xv _ _ m => cases e3
  | ho _ _ => cases e3
  | xw _ _ => cases e3
  | io d => cases e3
  | pu => cases e3
  | fz d =>
    cases e3
    exact go rfl (by simpa using e2)
  | ow b d =>
    cases e3
    exact go rfl (by simpa using e2)
  | al i π =>
    dsimp only at e2
    by_cases hn : nolists ds' = true
    · rw [if_pos hn] at e2
      cases e2
      obtain ⟨T, t, _⟩ := h.trAt (k := 0) rfl rfl e3
      obtain ⟨a, us, T', rfl, ha', ts, _⟩ := t.seq
      exact ⟨a, us, Z, B, rfl, ha', r, (Trs.nolist _ _ _ ts hn).2, fun _ z => z⟩
    · rw [if_neg hn] at e2
      cases e2
theorem so_cat (a : SoE xc ta ka) (b : SoE xc tb kb) : SoE xc (tOp rCat ta tb) (kCat ka kb) := fun γ Θ σ H Q q R hk w => a γ Θ σ H _ _ R hk fun γ1 v1 H1 hk1 R1 => b γ1 _ σ H1 _ _ R1 hk1 fun γ2 v2 H2 hk2 R2 => by
  obtain ⟨sl, tm, j⟩ := γ2
  dsimp only at hk2
  split at hk2
  · obtain ⟨ds, e1, hk3⟩ := elimF hk2
    obtain ⟨es, e2, hl, hq⟩ := elimF hk3
    obtain ⟨Z, S1, S2, X⟩ := R2
    obtain ⟨b', zs, Z2, S2', rfl, hb, X2, t2, _⟩ := X.shr e2
    obtain ⟨a', xs, Z3, S3', rfl, ha, X3, t3, sub⟩ := X2.shr e1
    have l1 := t3.length
    have l2 := t2.length
    refine ⟨a', b', xs, zs, rfl, rfl, ha, hb, szle (by omega), fun p hp => w _ _ _ hq (Rel.newL X3 ?_ hp)⟩
    exact t3.append (t2.weak sub)
  · exact hk2.elim
theorem nolists_ints (ns : List Int) : nolists (ns.map PyData.int) = true := by
  induction ns with
  | nil => rfl
  | cons n ns ih => simp [nolists, nolist, ih]
/-- list(range(..)) -/
theorem Rel.ints {C : Cn} {sl tm : List Sl} {j : Int} {Θ : List V} {σ : L2.St} {H : Hp} {p : Addr} (R : Rel C ⟨sl, tm, j⟩ Θ σ H) (hp : H p = none) (ns : List Int) : Rel C ⟨sl, .ow true (dI ns) :: tm, j⟩ (.ref p :: Θ) σ (upd H p (.lst (ns.map V.int))) := by
  obtain ⟨Z, S1, S2, X⟩ := R
  have := Rel.newL X (Trs.intsR (Z := Z) ns) hp
  unfold G.newL at this
  rw [nolists_ints] at this
  exact this
def kRg2 (ka kb : KE) : VSt → (Int → Int → VSt → Prop) → Prop := fun γ q => ka γ fun γ1 => kb γ1 fun γ2 => popI γ2 fun j γ3 => popI γ3 fun i γ4 => q i j γ4
def kRg1 (ka : KE) : VSt → (Int → Int → VSt → Prop) → Prop := fun γ q => ka γ fun γ1 => popI γ1 fun j γ2 => q 0 j γ2
def kListRg (r : VSt → (Int → Int → VSt → Prop) → Prop) : KE := fun γ q => r γ fun i j γ1 => (-1000000000000 ≤ i ∧ i ≤ 1000000000000 ∧ -1000000000000 ≤ j ∧ j ≤ 1000000000000 ∧ j - i ≤ 10000000) ∧ q ⟨γ1.sl, .ow true (dI (rg i j)) :: γ1.tm, γ1.n⟩
theorem listRg_core {C : Cn} {γ : VSt} {Θ : List V} {σ : L2.St} {H : Hp} {i j : Int} {q : VSt → Prop} {Q : VK} (R : Rel C γ Θ σ H) (h : (-1000000000000 ≤ i ∧ i ≤ 1000000000000 ∧ -1000000000000 ≤ j ∧ j ≤ 1000000000000 ∧ j - i ≤ 10000000) ∧ q ⟨γ.sl, .ow true (dI (rg i j)) :: γ.tm, γ.n⟩)
    (w : ∀ γ' v H', q γ' → Rel C γ' (v :: Θ) σ H' → Q v H') : RgOk i j ∧ ∀ p, H p = none → Q (.ref p) (upd H p (.lst (rgV i j))) := by
  obtain ⟨⟨a1, a2, a3, a4, a5⟩, hq⟩ := h
  refine ⟨?_, fun p hp => ?_⟩
  · have e : (2 : Int) ^ 62 = 4611686018427387904 := by decide
    have e2 : (2 : Nat) ^ 24 = 16777216 := by decide
    unfold RgOk
    rw [e, e2]
    exact ⟨by omega, by omega, by omega, by omega, by omega⟩
  · rw [rgV_map]
    obtain ⟨sl, tm, n⟩ := γ
    exact w _ _ _ hq (R.ints hp _)
theorem so_listRg2 (a : SoE xc ta ka) (b : SoE xc tb kb) : SoE xc (tLstRg (tRg2 ta tb)) (kListRg (kRg2 ka kb)) := fun γ Θ σ H Q q R hk w => a γ Θ σ H _ _ R hk fun γ1 v1 H1 hk1 R1 => b γ1 _ σ H1 _ _ R1 hk1 fun γ2 v2 H2 hk2 R2 => by
  obtain ⟨j, γ3, rfl, hf, R3⟩ := popI_ok R2 hk2
  obtain ⟨i, γ4, rfl, hg, R4⟩ := popI_ok R3 hf
  exact ⟨i, j, rfl, rfl, listRg_core R4 hg w⟩
def kCallT (W : Tw) (n : Nat) (ka : KE) : KE := fun γ q => ka γ fun γ1 => (datN γ1.sl n γ1.tm).elim False fun x => W x.1 fun d => q ⟨γ1.sl, own d :: x.2, γ1.n⟩
theorem Rel.newR {C : Cn} {sl tm : List Sl} {j : Int} {Θ : List V} {σ : L2.St} {H H' : Hp} {v : V} {d : D} (R : Rel C ⟨sl, tm, j⟩ Θ σ H) (sm : Same H H') (nw : New H H' v d) : Rel C ⟨sl, own d :: tm, j⟩ (v :: Θ) σ H' := by
  obtain ⟨S, r, nd, f⟩ := nw
  refine R.new (fun a o e _ => sm a o e) (fun p b q => ?_) ⟨S, Rep.tr _ _ _ r, nd, f⟩
  obtain ⟨Z, S1, S2, X⟩ := R
  exact (X.pu p b q).1.mono (sm p)
theorem so_callT {W : Tw} {ts : TA} (h : SoA xc n ts ka) : SoE xc (tCall (spT W) [] E0 ts) (kCallT W n ka) := fun γ Θ σ H Q q R hk w => h γ Θ σ H _ _ R hk fun γ1 vs H1 el hk1 R1 => by
  obtain ⟨⟨ds, rr⟩, e, hf⟩ := elimF hk1
  obtain ⟨R3, T, rp, _⟩ := Rel.pops (Θ := Θ) R1 el e
  rw [List.append_nil]
  exact ⟨T, ds, _, rp, hf, fun d v H' hq sm nw => w _ v H' hq (R3.newR sm nw)⟩
def kCallTK (W : Tw) (ix : List Nat) (n : Nat) (ka : KE) : KE := fun γ q => ka γ fun γ1 => (datN γ1.sl n γ1.tm).elim False fun x => W (ix.filterMap fun i => x.1[i]?) fun d => q ⟨γ1.sl, own d :: x.2, γ1.n⟩
theorem Reps.pickI {H : Hp} {T : List Addr} {vs : List V} {ds : List D} (r : Reps H T vs ds) : ∀ ix : List Nat, ∃ T', Reps H T' (ix.filterMap fun i => vs[i]?) (ix.filterMap fun i => ds[i]?) ∧ ∀ a ∈ T', a ∈ T
  | [] => ⟨[], .nil, fun _ z => nomatch z⟩
  | i :: ix => by
    obtain ⟨T', q, sub⟩ := Reps.pickI r ix
    have el := r.length
    cases e : ds[i]? with
    | none =>
      have e2 : vs[i]? = none := List.getElem?_eq_none (by have := List.getElem?_eq_none_iff.mp e; omega)
      rw [List.filterMap_cons_none e, List.filterMap_cons_none e2]
      exact ⟨T', q, sub⟩
    | some d =>
      obtain ⟨v, T1, e2, rv, s1⟩ := r.get e
      rw [List.filterMap_cons_some e, List.filterMap_cons_some e2]
      exact ⟨_, .cons rv q, fun a m => (List.mem_append.mp m).elim (s1 a) (sub a)⟩
def kCallP (c : Int) (W : Tw) (n : Nat) (ka : KE) : KE := fun γ q => ka γ fun γ1 => (datN γ1.sl n γ1.tm).elim False fun x => match x.2 with
  | .pu :: r => (0 ≤ c ∧ c ≤ γ1.n) ∧ W x.1 fun d => q ⟨γ1.sl, own d :: r, γ1.n - c⟩
  | _ => False
theorem so_callP {c : Int} {W : Tw} {ts : TA} (h : SoA xc (n + 1) ts ka) : SoE xc (tCall (spP c W) [] E0 ts) (kCallP c W n ka) := fun γ Θ σ H Q q R hk w => h γ Θ σ H _ _ R hk fun γ1 vs H1 el hk1 R1 => by
  obtain ⟨⟨ds, rr⟩, e, hf⟩ := elimF hk1
  match vs, el with
  | v :: vs, el =>
    rw [List.reverse_cons, List.append_assoc] at R1
    obtain ⟨R3, T, rp, np⟩ := Rel.pops (Θ := [v] ++ Θ) R1 (by simpa using el) e
    dsimp only at hf
    split at hf
    · rename_i r
      obtain ⟨⟨c0, c1⟩, hw⟩ := hf
      have R4 : Rel C ⟨γ1.sl, .pu :: r, γ1.n⟩ (v :: Θ) σ H1 := R3
      have pv : ∃ p b, C.pu = some (p, b) ∧ v = .ref p := by
        obtain ⟨Z, S1, S2, X⟩ := R4
        obtain ⟨A, B, es, r, f⟩ := RelX.popF (ss := [.pu]) (us := [v]) X rfl
        cases es with
        | cons e1 e2 =>
          cases e1 with
          | pu q => exact ⟨_, _, q, rfl⟩
      obtain ⟨p, b, epu, rfl⟩ := pv
      have R5 := R4.pop
      have pu : PuAt H1 p (b - γ1.n) := by
        obtain ⟨Z, S1, S2, X⟩ := R5
        exact (X.pu p b epu).1
      have bok := C.ok p b epu
      rw [List.append_nil]
      refine ⟨p, b - γ1.n, vs, T, ds, _, rfl, pu, by omega, rp, np p b epu, hw, fun d v H' hq fr kp nw => ?_⟩
      obtain ⟨S, rd, nd, f⟩ := nw
      refine w _ v H' hq (R5.new (n' := γ1.n - c) (fun a o e ne => fr a o e (ne p b epu)) (fun p' b' e' => ?_) ⟨S, Rep.tr _ _ _ rd, nd, f⟩)
      rw [epu] at e'
      cases e'
      have : b - γ1.n + c = b - (γ1.n - c) := by omega
      rw [← this]
      exact kp
    · exact hf.elim
def isLst (γ : VSt) : Prop := match γ.tm with
  | s :: _ => ((look γ.sl s).bind (seqD true)).elim False fun _ => True
  | _ => False
theorem tyV_of {C : Cn} {γ : VSt} {Θ : List V} {σ : L2.St} {H : Hp} {v : V} (R : Rel C γ (v :: Θ) σ H) (h : isLst γ) : tyV K "list" v H := by
  unfold isLst at h
  obtain ⟨sl, tm, j⟩ := γ
  dsimp only at h
  split at h
  · obtain ⟨ds, e, _⟩ := elimF h
    obtain ⟨d0, e1, e2⟩ := Option.bind_eq_some_iff.mp e
    have e3 := seqD_eq e2
    subst e3
    obtain ⟨a, vs, rfl, ha, _⟩ := R.item e1
    exact tyL ha
  · exact h.elim
/-- a method that only reads -/
def kM (n : Nat) (f : List D → (D → Prop) → Prop) (ko ka : KE) : KE := fun γ q => ko γ fun γ1 => isLst γ1 ∧ ka γ1 fun γ2 => (datN γ2.sl (n + 1) γ2.tm).elim False fun x => f x.1 fun d => q ⟨γ2.sl, .fz d :: x.2, γ2.n⟩
def SoM (n : Nat) (r : V → List V → Hp → VK → Prop) (f : List D → (D → Prop) → Prop) : Prop := SoC (n + 1) (fun vs H Q => match vs with | v :: vs => r v vs H Q | [] => False) f
theorem so_m {r : V → List V → Hp → VK → Prop} {f : List D → (D → Prop) → Prop} {ts : TA} (hr : SoM n r f) (ho : SoE xc t k) (ha : SoA xc n ts ka) : SoE xc (tBM K "list" r t ts) (kM n f k ka) := fun γ Θ σ H Q q R hk w => ho γ Θ σ H _ _ R hk fun γ1 v H1 hk1 R1 =>
  ⟨tyV_of R1 hk1.1, ha γ1 _ σ H1 _ _ R1 hk1.2 fun γ2 vs H2 el hk2 R2 => by
    obtain ⟨⟨ds, rr⟩, e, hf⟩ := elimF hk2
    have R2' : Rel C ⟨γ2.sl, γ2.tm, γ2.n⟩ ((v :: vs).reverse ++ Θ) σ H2 := by simpa using R2
    obtain ⟨R3, T, rp, _⟩ := Rel.pops (Θ := Θ) R2' (by simp [el]) e
    exact hr H2 (v :: vs) T ds _ _ rp (by simp [el]) hf fun v d sc hq => w _ v H2 hq (R3.push fun Z => sc H2 Z)⟩
def vCnt : List D → (D → Prop) → Prop := fun ds q => match ds with
  | [.list es, .int k] => (intsOf es).elim False fun ns => q (.int (ns.count k : Nat))
  | _ => False
theorem idxOf_min : ∀ (l : List Int) (x : Int) (m : Nat), m < l.idxOf x → l[m]? ≠ some x
  | [], _, _, h => by simp at h
  | y :: ys, x, 0, h => by
    rw [List.idxOf_cons] at h
    intro z
    simp at z
    subst z
    simp at h
  | y :: ys, x, m + 1, h => by
    rw [List.idxOf_cons] at h
    by_cases e : y = x
    · subst e
      simp at h
    · have e2 : (y == x) = false := by simpa using e
      rw [e2] at h
      intro z
      exact idxOf_min ys x m (by simpa using h) (by simpa using z)
def vIdx : List D → (D → Prop) → Prop := fun ds q => match ds with
  | [.list es, .int k] => (intsOf es).elim False fun ns => k ∈ ns ∧ q (.int (ns.idxOf k : Nat))
  | _ => False
theorem sm_index : SoM 1 (rIndex K) vIdx := fun H vs T ds Q q r el hf w => by
  unfold vIdx at hf
  split at hf
  · rename_i es kk
    obtain ⟨ns, e, hg⟩ := elimF hf
    obtain rfl := intsOf_eq e
    obtain ⟨v, u, T1, T2, rfl, r1, r2⟩ := r.c2
    cases r2
    cases r1 with
    | lst e rs =>
      rw [rs.intsInv.2] at e
      have lt := List.idxOf_lt_length_of_mem hg.1
      refine ⟨_, ns.map V.int, .int kk, ns.idxOf kk, .int kk, rfl, rfl, SqL.of e, rfl, flat_ints ns, ?_, by simp [eqV], fun m z hm hz => ?_, w _ _ (sca_int _) hg.2⟩
      · rw [List.getElem?_map, List.getElem?_eq_getElem lt, List.getElem_idxOf lt]
        rfl
      · rw [List.getElem?_map] at hz
        cases q : ns[m]? with
        | none => rw [q] at hz; cases hz
        | some x =>
          rw [q] at hz
          cases hz
          have hne : x ≠ kk := fun z => by
            subst z
            exact idxOf_min _ _ _ hm q
          simp [eqV, hne]
  · exact hf.elim
end
end G
namespace G
open PySem PySem.Spec PyProof.Rows L2
variable {C : Cn} {xc : XC C}
section
variable {t t1 t2 ta tb tc : TE} {k k1 k2 ka kb kc ko : KE} {n m : Nat} {c1 c2 : TT} {h1 h2 : KT} {K : PySem.W.Frag}
def wrL (sl : List Sl) (i : Nat) (π : List Nat) (f : Bool → D → List D → Prop) : Prop := match sl[i]? with
  | some (.ow b d) => (atP d π).elim False fun e => match e with
    | .list es => f b d es
    | _ => False
  | some (.io d) => (atP d π).elim False fun e => match e with
    | .list es => f true d es
    | _ => False
  | _ => False
/-- the names behind a write -/
def putS (sl : List Sl) (i : Nat) (b : Bool) (d : D) : List Sl := sl.set i (reS ((sl[i]?).getD .jk) b d)
def ioOk (sl : List Sl) (i : Nat) (b : Bool) : Prop := match sl[i]? with
  | some (.io _) => b = true
  | _ => True
theorem wrL_inv {sl : List Sl} {i : Nat} {π : List Nat} {f : Bool → D → List D → Prop} (h : wrL sl i π f) : ∃ s0 b d es, sl[i]? = some s0 ∧ (s0 = .ow b d ∨ (s0 = .io d ∧ b = true)) ∧ datS s0 = some d ∧ atP d π = some (.list es) ∧ f b d es := by
  unfold wrL at h
  split at h
  · rename_i b d e
    obtain ⟨x, ex, hx⟩ := elimF h
    split at hx
    · exact ⟨_, b, d, _, e, .inl rfl, rfl, ex, hx⟩
    · exact hx.elim
  · rename_i d e
    obtain ⟨x, ex, hx⟩ := elimF h
    split at hx
    · exact ⟨_, true, d, _, e, .inr ⟨rfl, rfl⟩, rfl, ex, hx⟩
    · exact hx.elim
  · exact h.elim
theorem putS_eq {sl : List Sl} {i : Nat} {s0 : Sl} {b : Bool} {d : D} (e : sl[i]? = some s0) : putS sl i b d = sl.set i (reS s0 b d) := by
  unfold putS
  rw [e]
  rfl
theorem ioOk_at {sl : List Sl} {i : Nat} {s0 : Sl} {b : Bool} (h : ioOk sl i b) (e : sl[i]? = some s0) : ∀ x, s0 = .io x → b = true := fun x z => by
  subst z
  unfold ioOk at h
  rw [e] at h
  exact h
/-- what stands below: the alias is walked to -/
theorem RelX.walk {C : Cn} {Z : Reg} {S1 S2 : List Addr} {γ : VSt} {Θ : List V} {σ : L2.St} {H : Hp} {j i : Nat} {π : List Nat} {v : V} (h : RelX C Z S1 S2 γ Θ σ H) (e : γ.tm[j]? = some (.al i π)) (ev : Θ[j]? = some v) : ∃ w, σ[i]? = some (some w) ∧ Wk H w π v := by
  obtain ⟨s, d', e', w, g1, g2, g3, g4, wk⟩ := h.al j i π v e ev
  exact ⟨w, g4, wk⟩
theorem okB {b c : Bool} {π : List Nat} (h : (b && c) = true ∨ π = []) : (b = true ∨ π = []) ∧ ((b && c) = b ∨ ((b && c) = false ∧ π = [])) := by
  rcases h with h | h
  · rw [Bool.and_eq_true] at h
    exact ⟨.inl h.1, .inl (by rw [h.1, h.2]; rfl)⟩
  · refine ⟨.inr h, ?_⟩
    cases hb : (b && c) with
    | true =>
      rw [Bool.and_eq_true] at hb
      exact .inl hb.1.symm
    | false => exact .inr ⟨rfl, h⟩
def kApp (ko ke : KE) : KE := fun γ q => ko γ fun γ1 => isLst γ1 ∧ ke γ1 fun γ2 => match γ2.tm with
  | s :: .al i π :: tm => (con s).elim False fun c => noAl i tm = true ∧ wrL γ2.sl i π fun b d es => (((b && c.1) = true ∨ π = []) ∧ ioOk γ2.sl i (b && c.1)) ∧ es.length < 10000000 ∧ q ⟨putS γ2.sl i (b && c.1) (setP d π (.list (es ++ [c.2]))), .fz .none :: tm, γ2.n⟩
  | _ => False
theorem so_app (ho : SoE xc t ko) (he : SoE xc ta ka) : SoE xc (tBM K "list" rAppend t (tCons ta tNil)) (kApp ko ka) := fun γ Θ σ H Q q R hk w => ho γ Θ σ H _ _ R hk fun γ1 v H1 hk1 R1 =>
  ⟨tyV_of R1 hk1.1, he γ1 _ σ H1 _ _ R1 hk1.2 fun γ2 u H2 hk2 R2 => by
    obtain ⟨sl, tm, j⟩ := γ2
    dsimp only at hk2
    split at hk2
    · rename_i s i π tm
      obtain ⟨⟨cb, cd⟩, ec, na, hw⟩ := elimF hk2
      obtain ⟨s0, b, d, es, e1, hs, eds, e2, ⟨hb, hio⟩, hl, hq⟩ := wrL_inv hw
      rw [putS_eq e1] at hq
      obtain ⟨hb1, hb2⟩ := okB hb
      obtain ⟨Z, S1, S2, X⟩ := R2
      obtain ⟨w0, ew, wk⟩ := X.walk (j := 1) rfl rfl
      obtain ⟨A, B, en, X1, f⟩ := RelX.popF (ss := [s, .al i π]) (us := [u, v]) X rfl
      obtain ⟨A', en', rfl⟩ : ∃ A', Ent C Z H2 A' (some u) s ∧ A = A' := by
        cases en with
        | cons e1 e2 =>
          cases e2 with
          | cons e2 e3 =>
            cases e2
            cases e3
            exact ⟨_, e1, by simp⟩
      obtain ⟨a, vs, T, rfl, ha, ts, aA, aZ, aT, put⟩ := X1.putF f e1 hs na ew wk e2 hb1
      have el := ts.length
      have ti := en'.con ec
      have t1 : Trs (upd H2 a (.lst (vs ++ [u]))) (rgn (b && cb) Z) (T ++ (A ++ [])) (vs ++ [u]) (es ++ [cd]) := by
        refine ((ts.upd ha aZ aT).weak (rgn_mono fun z => ?_)).append (.cons ((ti.upd ha aZ fun x m z => aA (z ▸ m)).weak (rgn_mono fun z => ?_)) .nil)
        · rw [Bool.and_eq_true] at z; exact z.1
        · rw [Bool.and_eq_true] at z; exact z.2
      obtain ⟨S1', X2, _⟩ := put (vs ++ [u]) (es ++ [cd]) (b && cb) _ [] hb2 (ioOk_at hio e1) t1 (by simp)
      have R3 : Rel C ⟨_, tm, j⟩ Θ σ (upd H2 a (.lst (vs ++ [u]))) := ⟨_, _, _, X2⟩
      exact ⟨a, vs, u, rfl, rfl, ha, szlt (by omega), w _ _ _ hq (R3.push fun Z => .non)⟩
    · exact hk2.elim⟩
/-- an item is taken out of a list -/
def popK (γ : VSt) (i : Nat) (π : List Nat) (tm : List Sl) (kk : Int) (q : VSt → Prop) : Prop := noAl i tm = true ∧ wrL γ.sl i π fun b d es => (b = true ∨ π = []) ∧ (0 ≤ kk ∧ kk < es.length ∧ es.length ≤ 10000000) ∧ (es[kk.toNat]?).elim False fun x => q ⟨putS γ.sl i b (setP d π (.list (es.eraseIdx kk.toNat))), (if b then own x else .fz x) :: tm, γ.n⟩
theorem popK_ok {C : Cn} {sl tm : List Sl} {j : Int} {ss : List Sl} {us : List V} {v : V} {Θ : List V} {σ : L2.St} {H : Hp} {i : Nat} {π : List Nat} {kk : Int} {q : VSt → Prop} (R : Rel C ⟨sl, ss ++ .al i π :: tm, j⟩ (us ++ v :: Θ) σ H) (el : us.length = ss.length)
    (h : popK ⟨sl, ss ++ .al i π :: tm, j⟩ i π tm kk q) : ∃ a vs y γ', v = .ref a ∧ H a = some (.lst vs) ∧ 0 ≤ kk ∧ (kk < vs.length ∧ vs.length ≤ 10000000) ∧ vs[kk.toNat]? = some y ∧ q γ' ∧ Rel C γ' (y :: Θ) σ (upd H a (.lst (vs.eraseIdx kk.toNat))) := by
  obtain ⟨na, hw⟩ := h
  obtain ⟨s0, b, d, es, e1, hs, eds, e2, hb, ⟨k0, k1, k2⟩, hx⟩ := wrL_inv hw
  obtain ⟨x, ex, hq⟩ := elimF hx
  dsimp only at hq
  rw [putS_eq e1] at hq
  obtain ⟨Z, S1, S2, X⟩ := R
  obtain ⟨w0, ew, wk⟩ := X.walk (j := ss.length) (i := i) (π := π) (v := v) (by show (ss ++ .al i π :: tm)[ss.length]? = _; rw [List.getElem?_append_right (Nat.le_refl _)]; simp) (by rw [← el, List.getElem?_append_right (Nat.le_refl _)]; simp)
  have X' : RelX C Z S1 S2 ⟨sl, (ss ++ [.al i π]) ++ tm, j⟩ ((us ++ [v]) ++ Θ) σ H := by simpa using X
  obtain ⟨A0, B, en, X1, f0⟩ := RelX.popF (ss := ss ++ [.al i π]) (us := us ++ [v]) X' (by simp [el])
  have f : Fl C Z S1 B H [] := ⟨by simpa using X1.nd, fun a m => nomatch m⟩
  obtain ⟨a, vs, T, rfl, ha, ts, aA, aZ, aT, put⟩ := X1.putF f e1 hs na ew wk e2 hb
  have tl := ts.length
  obtain ⟨y, T1, Rr, ey, ty, pm, ⟨R', tr, pr⟩, _⟩ := ts.at ex
  have subR : ∀ x ∈ R', x ≠ a := fun x m => aT x (pm.mem_iff.mpr (List.mem_append_right _ (pr.mem_iff.mp m)))
  have subT : ∀ x ∈ T1, x ≠ a := fun x m => aT x (pm.mem_iff.mpr (List.mem_append_left _ m))
  obtain ⟨S1', X2, f2⟩ := put (vs.eraseIdx kk.toNat) (es.eraseIdx kk.toNat) b R' T1 (.inl rfl) (fun x z => by
    rcases hs with h | h
    · rw [h] at z; cases z
    · exact h.2) (tr.upd ha aZ subR) (by
    rw [List.append_nil]
    exact pm.trans (List.perm_append_comm.trans (List.Perm.append_right T1 pr.symm)))
  have ty2 : Tr (upd H a (.lst (vs.eraseIdx kk.toNat))) (rgn b Z) T1 y x := ty.upd ha aZ subT
  refine ⟨a, vs, y, _, rfl, ha, k0, ⟨by omega, by omega⟩, ey, hq, ?_⟩
  cases b with
  | true =>
    rw [if_pos rfl]
    unfold own
    by_cases hn : nolist x = true
    · rw [if_pos hn]
      exact Rel.push ⟨_, _, _, X2⟩ fun Z => (Tr.nolist _ _ _ ty2 hn).2
    · rw [if_neg hn]
      exact ⟨_, _, _, X2.pushF f2 (A' := T1) (Dr := []) (by simp) (.ow ty2) (fun i π z => nomatch z)⟩
  | false =>
    rw [if_neg (by simp)]
    have g := X2.growF f2
    have t3 : Tr (upd H a (.lst (vs.eraseIdx kk.toNat))) (fun a => Z a ∨ a ∈ T1) [] y x := Tr.freeze (fun _ z => .inl z) _ _ _ ty2 fun _ m => .inr m
    exact ⟨_, _, _, g.pushE (Z' := fun _ => False) (.fz t3) List.nodup_nil (fun a m => nomatch m) (fun i π z => nomatch z)⟩
def kPop (ko : KE) : KE := fun γ q => ko γ fun γ1 => isLst γ1 ∧ match γ1.tm with
  | .al i π :: tm => wrL γ1.sl i π fun _ _ es => popK γ1 i π tm (es.length - 1 : Nat) q ∧ es ≠ []
  | _ => False
theorem so_pop (ho : SoE xc t ko) : SoE xc (tBM0 K "list" rPop t) (kPop ko) := fun γ Θ σ H Q q R hk w => ho γ Θ σ H _ _ R hk fun γ1 v H1 hk1 R1 =>
  ⟨tyV_of R1 hk1.1, by
    obtain ⟨sl, tm, j⟩ := γ1
    obtain ⟨_, hk1⟩ := hk1
    dsimp only at hk1
    split at hk1
    · rename_i i π tm
      obtain ⟨s0, b, d, es, e1, hs, eds, e2, hp, hne⟩ := wrL_inv hk1
      obtain ⟨Z, S1, S2, X⟩ := id R1
      obtain ⟨T0, t0, _⟩ := X.trAt (k := 0) (d := .list es) rfl rfl (by simp only [look, e1, eds, Option.bind_some]; exact e2)
      obtain ⟨a, vs, y, γ', rfl, ha, k0, k1, ey, hq, R2⟩ := popK_ok (ss := []) (us := []) R1 rfl hp
      have el : vs.length = es.length := by
        obtain ⟨a', us, T', ea, ha', ts, _⟩ := (show Tr H1 Z T0 (.ref a) (dq true es) from t0).seq
        cases ea
        have ha2 : H1 a = some (.lst us) := ha'
        rw [ha] at ha2
        cases ha2
        exact ts.length
      have e3 : ((es.length - 1 : Nat) : Int).toNat = vs.length - 1 := by omega
      rw [e3] at ey R2
      refine ⟨a, vs, y, rfl, rfl, ha, ey, ?_⟩
      have e4 : vs.eraseIdx (vs.length - 1) = vs.dropLast := List.eraseIdx_length_sub_one
      rw [e4] at R2
      exact w _ _ _ hq R2
    · exact hk1.elim⟩
def kPopAt (ko ke : KE) : KE := fun γ q => ko γ fun γ1 => isLst γ1 ∧ ke γ1 fun γ2 => match γ2.tm with
  | .fz (.int kk) :: .al i π :: tm => popK γ2 i π tm kk q
  | _ => False
theorem so_popAt (ho : SoE xc t ko) (he : SoE xc ta ka) : SoE xc (tBM K "list" rPopAt t (tCons ta tNil)) (kPopAt ko ka) := fun γ Θ σ H Q q R hk w => ho γ Θ σ H _ _ R hk fun γ1 v H1 hk1 R1 =>
  ⟨tyV_of R1 hk1.1, he γ1 _ σ H1 _ _ R1 hk1.2 fun γ2 u H2 hk2 R2 => by
    obtain ⟨sl, tm, j⟩ := γ2
    dsimp only at hk2
    split at hk2
    · rename_i kk i π tm
      obtain ⟨T, r, _⟩ := R2.read (d := .int kk) rfl
      cases r
      obtain ⟨a, vs, y, γ', rfl, ha, k0, k1, ey, hq, R3⟩ := popK_ok (ss := [.fz (.int kk)]) (us := [.int kk]) R2 rfl hk2
      refine ⟨a, vs, kk, kk.toNat, y, rfl, rfl, ha, ?_, ?_, ?_, ey, w _ _ _ hq R3⟩
      · have e : (2 : Int) ^ 63 = 9223372036854775808 := by decide
        omega
      · have e : (2 : Int) ^ 63 = 9223372036854775808 := by decide
        omega
      · unfold seqIndex?
        simp only [show ¬ kk < 0 by omega, if_false]
        rw [if_pos]
        simp
        omega
    · exact hk2.elim⟩
/-- o[i] = e -/
def kgSub (ko ki : KE) : KG := fun γ q => ko γ fun γ1 => ki γ1 fun γ2 => match γ2.tm with
  | .fz (.int kk) :: .al i π :: s :: tm => (con s).elim False fun c => noAl i tm = true ∧ wrL γ2.sl i π fun b d es => (((b && c.1) = true ∨ π = []) ∧ ioOk γ2.sl i (b && c.1)) ∧ (0 ≤ kk ∧ kk < es.length) ∧ q ⟨putS γ2.sl i (b && c.1) (setP d π (.list (es.set kk.toNat c.2))), tm, γ2.n⟩
  | _ => False
theorem so_gsub (ho : SoE xc t ko) (hi : SoE xc ta ka) : SoG xc (gSub t ta rSetL) (kgSub ko ka) := fun γ v Θ σ H Q q R hk w => ho γ _ σ H _ _ R hk fun γ1 o H1 hk1 R1 => hi γ1 _ σ H1 _ _ R1 hk1 fun γ2 u H2 hk2 R2 => by
  obtain ⟨sl, tm, j⟩ := γ2
  dsimp only at hk2
  split at hk2
  · rename_i kk i π s tm
    obtain ⟨⟨cb, cd⟩, ec, na, hw⟩ := elimF hk2
    obtain ⟨s0, b, d, es, e1, hs, eds, e2, ⟨hb, hio⟩, ⟨k0, k1⟩, hq⟩ := wrL_inv hw
    rw [putS_eq e1] at hq
    obtain ⟨hb1, hb2⟩ := okB hb
    obtain ⟨T0, r0, _⟩ := R2.read (d := .int kk) rfl
    cases r0
    obtain ⟨Z, S1, S2, X⟩ := R2
    obtain ⟨w0, ew, wk⟩ := X.walk (j := 1) rfl rfl
    obtain ⟨A, B, en, X1, f⟩ := RelX.popF (ss := [.fz (.int kk), .al i π, s]) (us := [.int kk, o, v]) X rfl
    obtain ⟨A', en', rfl⟩ : ∃ A', Ent C Z H2 A' (some v) s ∧ A = A' := by
      cases en with
      | cons e1 e2 =>
        cases e1
        cases e2 with
        | cons e2 e3 =>
          cases e2
          cases e3 with
          | cons e3 e4 =>
            cases e4
            exact ⟨_, e3, by simp⟩
    obtain ⟨a, vs, T, rfl, ha, ts, aA, aZ, aT, put⟩ := X1.putF f e1 hs na ew wk e2 hb1
    have el := ts.length
    have ti := en'.con ec
    have hlt : kk.toNat < es.length := by omega
    have ts' : Trs (upd H2 a (.lst (vs.set kk.toNat v))) (rgn (b && cb) Z) T vs es := (ts.upd ha aZ aT).weak (rgn_mono fun z => by rw [Bool.and_eq_true] at z; exact z.1)
    have ti' : Tr (upd H2 a (.lst (vs.set kk.toNat v))) (rgn (b && cb) Z) A v cd := (ti.upd ha aZ fun x m z => aA (z ▸ m)).weak (rgn_mono fun z => by rw [Bool.and_eq_true] at z; exact z.2)
    obtain ⟨y, T1, Rr, ey, ty, pm, _, kset⟩ := ts'.at (i := kk.toNat) (List.getElem?_eq_getElem hlt)
    obtain ⟨T2, t2, p2⟩ := kset _ A v cd (fun _ _ h => h) (fun _ _ _ h => h) (fun _ _ _ h => h) ti'
    obtain ⟨S1', X2, _⟩ := put (vs.set kk.toNat v) (es.set kk.toNat cd) (b && cb) T2 T1 hb2 (ioOk_at hio e1) t2 (by
      refine List.perm_iff_count.mpr fun x => ?_
      have q1 := pm.count_eq x
      have q2 := p2.count_eq x
      rw [List.count_append] at q1 q2 ⊢
      rw [List.count_append]
      omega)
    refine ⟨a, vs, kk, kk.toNat, rfl, rfl, ha, ?_, w _ _ _ hq ⟨_, _, _, X2⟩⟩
    unfold ixN
    rw [if_pos k0, if_pos (by omega)]
  · exact hk2.elim
def ItD (C : Cn) (J : It) (ds : List D) (tm : List Sl) (Ψ : List V) : Prop := ∀ (E : List Sl) (Φ : List V) (i : Nat) (sl : List Sl) (n : Int) (σ : L2.St) (H : Hp), Φ.length = E.length → Rel C ⟨sl, E ++ tm, n⟩ (Φ ++ Ψ) σ H → (∀ d, ds[i]? = some d → J.go i H ∧ ∀ x H3, J.yld i H x H3 → Rel C ⟨sl, .fz d :: (E ++ tm), n⟩ (x :: (Φ ++ Ψ)) σ H3) ∧ (ds.length ≤ i → J.stop i H)
def PopD (C : Cn) (tm' : List Sl) (Ψ : List V) (tm : List Sl) (Θ : List V) : Prop := ∀ (E : List Sl) (Φ : List V) (sl : List Sl) (n : Int) (σ : L2.St) (H : Hp), Φ.length = E.length → (∀ s ∈ E, ∀ i π, s ≠ .al i π) → Rel C ⟨sl, E ++ tm', n⟩ (Φ ++ Ψ) σ H → Rel C ⟨sl, E ++ tm, n⟩ (Φ ++ Θ) σ H
abbrev KI := VSt → (List D → VSt → Prop) → Prop
def SoI {C : Cn} (xc : XC C) (wi : TI) (ki : KI) : Prop := ∀ (γ : VSt) (Θ : List V) (σ : L2.St) (H : Hp) (R : It → Hp → Prop) (q : List D → VSt → Prop), Rel C γ Θ σ H → ki γ q →
  (∀ J ds γ' Ψ H', q ds γ' → PopD C γ'.tm Ψ γ.tm Θ → ItD C J ds γ'.tm Ψ → Rel C γ' Ψ σ H' → R J H') → wi σ H R
theorem Rel.dupAt {C : Cn} {γ : VSt} {d : D} {v : V} {Θ : List V} {σ : L2.St} {H : Hp} {kk : Nat} (R : Rel C γ Θ σ H) (e : γ.tm[kk]? = some (.fz d)) (ev : Θ[kk]? = some v) : Rel C ⟨γ.sl, .fz d :: γ.tm, γ.n⟩ (v :: Θ) σ H := by
  obtain ⟨Z, S1, S2, h⟩ := R
  obtain ⟨v', T, Q, ev', en, pm, _⟩ := h.et.at e
  rw [List.getElem?_map, ev] at ev'
  cases ev'
  cases en with
  | fz t =>
    obtain ⟨sl, tm, n⟩ := γ
    exact ⟨Z, S1, _, h.pushE (Z' := Z) (.fz t) List.nodup_nil (fun a m => nomatch m) (fun i π z => nomatch z)⟩
theorem Fl.sub {C : Cn} {Z : Reg} {S1 S2 A A1 A2 : List Addr} {H : Hp} (f : Fl C Z S1 S2 H A) (pm : A.Perm (A1 ++ A2)) : Fl C Z S1 S2 H A1 := by
  refine ⟨nodup_cnt.mpr fun x => ?_, fun a m => f.ok a (pm.mem_iff.mpr (List.mem_append_left _ m))⟩
  have h1 := nodup_cnt.mp f.nd x
  have h2 := pm.count_eq x
  rw [List.count_append] at h1 h2 ⊢
  omega
/-- an entry below the top is forgotten -/
theorem popD_one {C : Cn} {s : Sl} {v : V} {tm : List Sl} {Θ : List V} : PopD C (s :: tm) (v :: Θ) tm Θ := fun E Φ sl n σ H el na R => by
  obtain ⟨Z, S1, S2, h⟩ := R
  have h' : RelX C Z S1 S2 ⟨sl, (E ++ [s]) ++ tm, n⟩ ((Φ ++ [v]) ++ Θ) σ H := by simpa using h
  obtain ⟨A, B, en, X, f⟩ := RelX.popF (ss := E ++ [s]) (us := Φ ++ [v]) h' (by simp [el])
  rw [List.map_append] at en
  obtain ⟨A1, A2, rfl, e1, e2⟩ := en.split (by simpa using el)
  exact ⟨Z, S1, _, X.pushEs (f.sub (.refl _)) e1 na⟩
theorem popD_refl {C : Cn} {tm tm' : List Sl} {Θ : List V} (e : tm' = tm) : PopD C tm' Θ tm Θ := fun E Φ sl n σ H el na R => e ▸ R
theorem itD_list {C : Cn} {l : Bool} {a : Addr} {ds : List D} {tm : List Sl} {Θ : List V} (J : It) (hJ : ∀ i H vs, H a = some (hoq l vs) → (∀ x, vs[i]? = some x → J.go i H) ∧ (∀ x H3, J.yld i H x H3 → H3 = H ∧ vs[i]? = some x) ∧ (vs.length ≤ i → J.stop i H)) : ItD C J ds (.fz (dq l ds) :: tm) (.ref a :: Θ) := fun E Φ i sl n σ H ee R => by
  have R1 := R.dupAt (kk := E.length) (d := dq l ds) (v := .ref a) (by rw [List.getElem?_append_right (Nat.le_refl _)]; simp) (by rw [← ee, List.getElem?_append_right (Nat.le_refl _)]; simp)
  obtain ⟨a', vs, ea, ha, el, k⟩ := R1.item (l := l) (ds := ds) rfl
  cases ea
  obtain ⟨j1, j2, j3⟩ := hJ i H vs ha
  refine ⟨fun d e => ?_, fun hi => j3 (by omega)⟩
  have hlt : i < vs.length := by
    have := (List.getElem?_eq_some_iff.mp e).1
    omega
  refine ⟨j1 _ (List.getElem?_eq_getElem hlt), fun x H3 hy => ?_⟩
  obtain ⟨rfl, ex⟩ := j2 x H3 hy
  exact k i d x e ex
/-- the top, frozen, as a sequence -/
def frzSeq (l : Bool) (s : Sl) : Option (List D) := match s with
  | .fz d => seqD l d
  | .ow _ d => seqD l d
  | _ => none
def kIt (l : Bool) (ke : KE) : KI := fun γ q => ke γ fun γ1 => match γ1.tm with
  | s :: tm => (frzSeq l s).elim False fun ds => q ds ⟨γ1.sl, .fz (dq l ds) :: tm, γ1.n⟩ ∧ tm = γ.tm
  | _ => False
theorem it_core {C : Cn} {sl tm : List Sl} {s : Sl} {j : Int} {v : V} {Θ : List V} {σ : L2.St} {H : Hp} {l : Bool} {ds : List D} (R : Rel C ⟨sl, s :: tm, j⟩ (v :: Θ) σ H) (e : frzSeq l s = some ds) : ∃ a vs, v = .ref a ∧ H a = some (hoq l vs) ∧ Rel C ⟨sl, .fz (dq l ds) :: tm, j⟩ (v :: Θ) σ H := by
  have R2 : Rel C ⟨sl, .fz (dq l ds) :: tm, j⟩ (v :: Θ) σ H := by
    cases s with
    | fz d => rw [← seqD_eq (d := d) e]; exact R
    | ow b d => rw [← seqD_eq (d := d) e]; exact R.frzT
    | jk => cases e
    | dc m => cases e
    | dt m => cases e
    | sh m => cases e
    | xv _ _ m => cases e
    | ho _ _ => cases e
    | xw _ _ => cases e
    | io d => cases e
    | al i π => cases e
    | pu => cases e
  obtain ⟨a, vs, rfl, ha, _, _⟩ := R2.item (l := l) (ds := ds) rfl
  exact ⟨a, vs, rfl, ha, R2⟩
theorem so_itL (h : SoE xc t k) : SoI xc (iList K t) (kIt true k) := fun γ Θ σ H Rr q R hk w => h γ Θ σ H _ _ R hk fun γ1 v H1 hk1 R1 => by
  obtain ⟨sl, tm, j⟩ := γ1
  dsimp only at hk1
  split at hk1
  · rename_i s tm
    obtain ⟨ds, e, hq, et⟩ := elimF hk1
    subst et
    obtain ⟨a, vs, rfl, ha, R2⟩ := it_core R1 e
    refine ⟨a, rfl, ⟨vs, SqL.of ha⟩, w _ ds _ _ H1 hq popD_one (itD_list (l := true) _ fun i H xs hx => ⟨fun x ex => ⟨xs, x, SqL.of hx, ex⟩, fun x H3 hy => ⟨hy.1, hy.2 xs (SqL.of hx)⟩, fun hi => ⟨xs, SqL.of hx, hi⟩⟩) R2⟩
  · exact hk1.elim
theorem itD_range {C : Cn} {tm : List Sl} {Ψ : List V} (a b : Int) : ItD C (Itr a (b - a).toNat) ((rg a b).map PyData.int) tm Ψ := fun E Φ i sl n σ H ee R => by
  refine ⟨fun d e => ?_, fun hi => ?_⟩
  · rw [List.getElem?_map] at e
    have hi : i < (b - a).toNat := by
      rcases Nat.lt_or_ge i (b - a).toNat with z | z
      · exact z
      · rw [List.getElem?_eq_none (by rw [rg_length]; omega)] at e
        cases e
    have er : (rg a b)[i]? = some (a + i) := by
      unfold rg
      rw [List.getElem?_map, List.getElem?_range hi]
      rfl
    rw [er] at e
    cases e
    refine ⟨hi, fun x H3 hy => ?_⟩
    obtain ⟨rfl, rfl⟩ := hy
    exact R.push fun Z => .int _
  · rw [List.length_map, rg_length] at hi
    exact hi
def kRng1 (ke : KE) : KI := fun γ q => ke γ fun γ1 => popI γ1 fun j γ2 => (-1000000000000 ≤ j ∧ j ≤ 1000000000000) ∧ q ((rg 0 j).map PyData.int) γ2 ∧ γ2.tm = γ.tm
def kRng2 (ka kb : KE) : KI := fun γ q => ka γ fun γ1 => kb γ1 fun γ2 => popI γ2 fun j γ3 => popI γ3 fun i γ4 => (-1000000000000 ≤ i ∧ i ≤ 1000000000000 ∧ -1000000000000 ≤ j ∧ j ≤ 1000000000000) ∧ q ((rg i j).map PyData.int) γ4 ∧ γ4.tm = γ.tm
theorem so_rng1 (h : SoE xc t k) : SoI xc (iRng1 (tCons t tNil)) (kRng1 k) := fun γ Θ σ H Rr q R hk w => h γ Θ σ H _ _ R hk fun γ1 v H1 hk1 R1 => by
  obtain ⟨j, γ2, rfl, ⟨⟨b1, b2⟩, hq, et⟩, R2⟩ := popI_ok R1 hk1
  have e : (2 : Int) ^ 62 = 4611686018427387904 := by decide
  refine ⟨j, rfl, by omega, by omega, ?_⟩
  have := w (Itr 0 j.toNat) _ γ2 Θ H1 hq (popD_refl et) (by have := itD_range (C := C) (tm := γ2.tm) (Ψ := Θ) 0 j; simpa using this) R2
  exact this
theorem so_rng2 (h : SoE xc ta ka) (h' : SoE xc tb kb) : SoI xc (iRng2 (tCons ta (tCons tb tNil))) (kRng2 ka kb) := fun γ Θ σ H Rr q R hk w => h γ Θ σ H _ _ R hk fun γ1 v H1 hk1 R1 => h' γ1 _ σ H1 _ _ R1 hk1 fun γ2 u H2 hk2 R2 => by
  obtain ⟨j, γ3, rfl, hf, R3⟩ := popI_ok R2 hk2
  obtain ⟨i, γ4, rfl, ⟨⟨b1, b2, b3, b4⟩, hq, et⟩, R4⟩ := popI_ok R3 hf
  have e : (2 : Int) ^ 62 = 4611686018427387904 := by decide
  exact ⟨i, j, rfl, ⟨by omega, by omega, by omega, by omega⟩, w _ _ γ4 Θ H2 hq (popD_refl et) (itD_range i j) R4⟩
section
variable {s1 s2 : TS} {p1 p2 : KS} {g1 g2 : TG} {e1 e2 : KG}
def okS : Sl → Bool
  | .al _ _ => false
  | _ => true
def kgName (i : Nat) : KG := fun γ q => match γ.tm with
  | s :: tm => (okS s = true ∧ noAl i tm = true) ∧ q ⟨γ.sl.set i s, tm, γ.n⟩
  | _ => False
theorem okS_ne {s : Sl} (h : okS s = true) : ∀ i π, s ≠ .al i π := fun i π z => by subst z; cases h
theorem so_gname {i : Nat} : SoG xc (gName i) (kgName i) := fun γ v Θ σ H Q q R hk w => by
  obtain ⟨sl, tm, j⟩ := γ
  unfold kgName at hk
  dsimp only at hk
  split at hk
  · obtain ⟨⟨h1, h2⟩, hq⟩ := hk
    exact w _ _ _ hq (R.set (okS_ne h1) h2)
  · exact hk.elim
def SoGs {C : Cn} (xc : XC C) (n : Nat) (t : TGs) (k : KG) : Prop := ∀ (γ : VSt) (vs Θ : List V) (σ : L2.St) (H : Hp) (Q : L2.St → Hp → Prop) (q : VSt → Prop), vs.length = n → Rel C γ (vs ++ Θ) σ H → k γ q → (∀ γ' σ' H', q γ' → Rel C γ' Θ σ' H' → Q σ' H') → t vs σ H Q
def kgNil : KG := fun γ q => q γ
def kgCons (a b : KG) : KG := fun γ q => a γ fun γ1 => b γ1 q
theorem so_gnil : SoGs xc 0 gNil kgNil := fun γ vs Θ σ H Q q el R hk w => by
  match vs, el with
  | [], _ => exact ⟨rfl, w _ _ _ hk R⟩
theorem so_gcons {ts : TGs} {es : KG} (a : SoG xc g1 e1) (b : SoGs xc n ts es) : SoGs xc (n + 1) (gCons g1 ts) (kgCons e1 es) := fun γ vs Θ σ H Q q el R hk w => by
  match vs, el with
  | v :: vs, el => exact ⟨v, vs, rfl, a γ v _ σ H _ _ R hk fun γ1 σ1 H1 hk1 R1 => b γ1 vs Θ σ1 H1 Q q (by simpa using el) R1 hk1 w⟩
/-- (a, b, ..) = a tuple -/
def kgTup (n : Nat) (a : KG) : KG := fun γ q => match γ.tm with
  | s :: tm => (itS s).elim False fun ss => ss.length = n ∧ a ⟨γ.sl, ss ++ tm, γ.n⟩ q
  | _ => False
theorem so_gtup {ts : TGs} {es : KG} (b : SoGs xc n ts es) : SoG xc (gTup K n ts) (kgTup n es) := fun γ v Θ σ H Q q R hk w => by
  obtain ⟨sl, tm, j⟩ := γ
  unfold kgTup at hk
  dsimp only at hk
  split at hk
  · obtain ⟨ss, e, hn, hq⟩ := elimF hk
    obtain ⟨a, vs, rfl, ha, el, R2⟩ := R.unpack e
    exact ⟨a, vs, rfl, SqT.of ha, by omega, b _ vs Θ σ H Q q (by omega) R2 hq w⟩
  · exact hk.elim
def kAsg (ke : KE) (g : KG) : KS := fun γ e => ke γ fun γ1 => g γ1 e.nx
theorem so_asg (a : SoE xc t k) (b : SoG xc g1 e1) : SoS xc (tAsg t g1) (kAsg k e1) := fun γ Θ σ H De e R hk w => a γ Θ σ H _ _ R hk fun γ1 v H1 hk1 R1 => b γ1 v Θ σ H1 _ _ R1 hk1 w.nx
/-- a, b = x, y -/
def kPar (i j : Nat) (ka : KE) : KS := fun γ e => ka γ fun γ1 => match γ1.tm with
  | s2 :: s1 :: tm => (okS s2 = true ∧ okS s1 = true ∧ noAl i tm = true ∧ noAl j tm = true) ∧ e.nx ⟨(γ1.sl.set i s1).set j s2, tm, γ1.n⟩
  | _ => False
theorem so_par {i j : Nat} {ts : TA} (hij : i ≠ j) (a : SoA xc 2 ts ka) : SoS xc (tPar i j ts) (kPar i j ka) := fun γ Θ σ H De e R hk w => a γ Θ σ H _ _ R hk fun γ1 vs H1 el hk1 R1 => by
  obtain ⟨sl, tm, n⟩ := γ1
  dsimp only at hk1
  match vs, el with
  | [v, u], _ =>
    split at hk1
    · rename_i s2 s1 tm
      obtain ⟨⟨q1, q2, q3, q4⟩, hq⟩ := hk1
      have R2 : Rel C ⟨sl, s2 :: s1 :: tm, n⟩ (u :: v :: Θ) σ H1 := R1
      have na : noAl j (s1 :: tm) = true := by
        unfold noAl at q4 ⊢
        rw [List.all_cons, q4, Bool.and_true]
        cases s1 <;> first | rfl | cases q2
      have R3 := (R2.set (okS_ne q1) na).set (i := i) (okS_ne q2) q3
      rw [List.set_comm _ _ (Ne.symm hij), List.set_comm _ _ (Ne.symm hij)] at R3
      exact ⟨v, u, rfl, w.nx _ _ _ hq R3⟩
    · exact hk1.elim
/-- x += e -/
def kAug (i : Nat) (f : Int → Int → Int) (ke : KE) : KS := fun γ e => match γ.sl[i]? with
  | some (.fz (.int a)) => ke γ fun γ1 => popI γ1 fun b γ2 => noAl i γ2.tm = true ∧ e.nx ⟨γ2.sl.set i (.fz (.int (f a b))), γ2.tm, γ2.n⟩
  | _ => False
theorem so_aug {i : Nat} {f : Int → Int → Int} (a : SoE xc t k) : SoS xc (tAug i t (ipI f)) (kAug i f k) := fun γ Θ σ H De e R hk w => by
  unfold kAug at hk
  split at hk
  · rename_i x ex
    obtain ⟨sl, tm, n⟩ := γ
    obtain ⟨v, ev, Rv⟩ := R.varF ex
    obtain ⟨T, r, _⟩ := Rv.read (d := .int x) rfl
    cases r
    refine ⟨_, ev, a _ Θ σ H _ _ R hk fun γ1 v H1 hk1 R1 => ?_⟩
    obtain ⟨b, γ2, rfl, ⟨na, hq⟩, R2⟩ := popI_ok R1 hk1
    obtain ⟨sl2, tm2, n2⟩ := γ2
    have R3 := R2.push (v := .int (f x b)) (d := .int (f x b)) fun Z => .int _
    exact ⟨x, b, rfl, rfl, w.nx _ _ _ hq (R3.set (fun i π z => nomatch z) na)⟩
  · exact hk.elim
def kDrop (ke : KE) : KS := fun γ e => ke γ fun γ1 => match γ1.tm with
  | _ :: tm => e.nx ⟨γ1.sl, tm, γ1.n⟩
  | _ => False
theorem so_drop (a : SoE xc t k) : SoS xc (tDrop t) (kDrop k) := fun γ Θ σ H De e R hk w => a γ Θ σ H _ _ R hk fun γ1 v H1 hk1 R1 => by
  obtain ⟨sl, tm, n⟩ := γ1
  dsimp only at hk1
  split at hk1
  · exact w.nx _ _ _ hk1 R1.pop
  · exact hk1.elim
def kRet (ke : KE) : KS := fun γ e => ke γ fun γ1 => match γ1.tm with
  | s :: tm => e.rt s ⟨γ1.sl, tm, γ1.n⟩
  | _ => False
theorem so_ret (a : SoE xc t k) : SoS xc (tRet t) (kRet k) := fun γ Θ σ H De e R hk w => a γ Θ σ H _ _ R hk fun γ1 v H1 hk1 R1 => by
  obtain ⟨sl, tm, n⟩ := γ1
  dsimp only at hk1
  split at hk1
  · exact w.rt _ _ _ _ _ _ hk1 R1
  · exact hk1.elim
def kRetN : KS := fun γ e => e.rt (.fz .none) γ
def kNever : KS := fun _ _ => False
def kNext : KS := fun γ e => e.nx γ
theorem so_next : SoS xc tNext kNext := fun γ Θ σ H De e R hk w => w.nx _ _ _ hk R
def kBreak : KS := fun γ e => e.bk γ
theorem so_break : SoS xc tBreak kBreak := fun γ Θ σ H De e R hk w => w.bk _ _ _ hk R
def kCont : KS := fun γ e => e.ct γ
def kSeq (a b : KS) : KS := fun γ e => a γ ⟨fun γ' => b γ' e, e.rt, e.bk, e.ct⟩
theorem so_seq (a : SoS xc s1 p1) (b : SoS xc s2 p2) : SoS xc (tSeq s1 s2) (kSeq p1 p2) := fun γ Θ σ H De e R hk w => a γ Θ σ H _ _ R hk ⟨fun γ' σ' H' h R' => b γ' Θ σ' H' De e R' h w, w.rt, w.bk, w.ct⟩
def kIfS (c : KT) (a b : KS) : KS := fun γ e => c γ fun x γ1 => if x = true then a γ1 e else b γ1 e
theorem so_ifS (c : SoT xc c1 h1) (a : SoS xc s1 p1) (b : SoS xc s2 p2) : SoS xc (tIfS c1 s1 s2) (kIfS h1 p1 p2) := fun γ Θ σ H De e R hk w => c γ Θ σ H _ _ R hk fun x γ1 H1 hk1 R1 => by
  cases x with
  | true => exact a γ1 Θ σ H1 De e R1 (by simpa using hk1) w
  | false => exact b γ1 Θ σ H1 De e R1 (by simpa using hk1) w
/-- for: the items one by one -/
def forL (g : KG) (kb : KS) (tm : List Sl) : List D → VSt → KEd → Prop
  | [], γ, e => e.nx γ
  | d :: ds, γ, e => g ⟨γ.sl, .fz d :: γ.tm, γ.n⟩ fun γ1 => kb γ1 ⟨fun γ2 => γ2.tm = tm ∧ forL g kb tm ds γ2 e, e.rt, fun γ2 => γ2.tm = tm ∧ e.nx γ2, fun γ2 => γ2.tm = tm ∧ forL g kb tm ds γ2 e⟩
def kFor (ki : KI) (g : KG) (kb : KS) : KS := fun γ e => ki γ fun ds γ1 => forL g kb γ1.tm ds γ1 ⟨fun γ2 => e.nx ⟨γ2.sl, γ.tm, γ2.n⟩, e.rt, fun _ => False, fun _ => False⟩
theorem so_for {wi : TI} {ki : KI} (hi : SoI xc wi ki) (hg : SoG xc g1 e1) (hb : SoS xc s1 p1) : SoS xc (tFor wi g1 s1) (kFor ki e1 p1) := fun γ Θ σ H De e R hk w => hi γ Θ σ H _ _ R hk fun J ds γ1 Ψ H1 hq hp hJ R1 => by
  refine ⟨fun i m σ' H' => m = ds.length - i ∧ i ≤ ds.length ∧ ∃ γ', γ'.tm = γ1.tm ∧ forL e1 p1 γ1.tm (ds.drop i) γ' ⟨fun γ2 => e.nx ⟨γ2.sl, γ.tm, γ2.n⟩, e.rt, fun _ => False, fun _ => False⟩ ∧ Rel C γ' Ψ σ' H', ⟨ds.length, rfl, Nat.zero_le _, γ1, rfl, by simpa using hq, R1⟩, ?_⟩
  rintro i m σ' H' ⟨rfl, hi, γ', et, hf, R'⟩
  obtain ⟨sl', tm', n'⟩ := γ'
  dsimp only at et
  subst et
  obtain ⟨j1, j2⟩ := hJ [] [] i sl' n' σ' H' rfl R'
  by_cases hlt : i < ds.length
  · right
    have e2 : ds.drop i = ds[i] :: ds.drop (i + 1) := List.drop_eq_getElem_cons hlt
    rw [e2] at hf
    obtain ⟨g, y⟩ := j1 ds[i] (List.getElem?_eq_getElem hlt)
    refine ⟨g, fun σ2 H2 => ∃ γ2, γ2.tm = γ1.tm ∧ forL e1 p1 γ1.tm (ds.drop (i + 1)) γ2 ⟨fun γ2 => e.nx ⟨γ2.sl, γ.tm, γ2.n⟩, e.rt, fun _ => False, fun _ => False⟩ ∧ Rel C γ2 Ψ σ2 H2, fun σ2 H2 ⟨γ2, a, b, c⟩ => ⟨ds.length - (i + 1), by omega, rfl, hlt, γ2, a, b, c⟩, fun x H3 hy => ?_⟩
    refine hg _ x Ψ σ' H3 _ _ (y x H3 hy) hf fun γ3 σ3 H4 hb3 R3 => ?_
    refine hb γ3 Ψ σ3 H4 _ _ R3 hb3 ⟨fun γ' σ' H' h R' => ⟨γ', h.1, h.2, R'⟩, w.rt, fun γ' σ' H' h R' => ?_, fun γ' σ' H' h R' => ⟨γ', h.1, h.2, R'⟩⟩
    obtain ⟨sl, tm, n⟩ := γ'
    obtain ⟨et, hx⟩ := h
    dsimp only at et hx
    subst et
    exact w.nx _ _ _ hx (hp [] [] _ _ _ _ rfl (fun _ m => nomatch m) R')
  · left
    have e0 : i = ds.length := by omega
    refine ⟨j2 (by omega), ?_⟩
    rw [e0, List.drop_length] at hf
    exact w.nx _ _ _ hf (hp [] [] _ _ _ _ rfl (fun _ m => nomatch m) R')
def kWhile (c : KT) (kb : KS) : KS := fun γ e => ∃ W : Nat → VSt → Prop, (∃ m, W m γ) ∧ ∀ m γ, W m γ → c γ fun b γ1 => if b = true then kb γ1 ⟨fun γ2 => ∃ m', m' < m ∧ W m' γ2, e.rt, e.nx, fun γ2 => ∃ m', m' < m ∧ W m' γ2⟩ else e.nx γ1
theorem so_while (c : SoT xc c1 h1) (hb : SoS xc s1 p1) : SoS xc (tWhile c1 s1) (kWhile h1 p1) := fun γ Θ σ H De e R hk w => by
  obtain ⟨W, ⟨m, w0⟩, step⟩ := hk
  refine ⟨fun m σ' H' => ∃ γ', W m γ' ∧ Rel C γ' Θ σ' H', ⟨m, γ, w0, R⟩, fun m σ' H' ⟨γ', hw, R'⟩ => c γ' Θ σ' H' _ _ R' (step m γ' hw) fun b γ1 H1 hk1 R1 => ?_⟩
  cases b with
  | true =>
    rw [if_pos rfl] at hk1 ⊢
    refine ⟨fun σ2 H2 => ∃ m', m' < m ∧ ∃ γ2, W m' γ2 ∧ Rel C γ2 Θ σ2 H2, fun σ2 H2 ⟨m', lt, γ2, a, b⟩ => ⟨m', lt, γ2, a, b⟩, ?_⟩
    exact hb γ1 Θ σ' H1 _ _ R1 hk1 ⟨fun γ2 σ2 H2 ⟨m', lt, a⟩ R2 => ⟨m', lt, γ2, a, R2⟩, w.rt, w.nx, fun γ2 σ2 H2 ⟨m', lt, a⟩ R2 => ⟨m', lt, γ2, a, R2⟩⟩
  | false =>
    rw [if_neg (by simp)] at hk1 ⊢
    exact w.nx _ _ _ hk1 R1
end
end
end G
namespace G
open PySem PySem.Spec PyProof.Rows L2
variable {C : Cn} {xc : XC C}
section
variable {t t1 t2 ta tb tc : TE} {k k1 k2 ka kb kc ko : KE} {n m : Nat} {c1 c2 : TT} {h1 h2 : KT} {K : PySem.W.Frag}
/-- the list that is made, one item more -/
theorem Rel.grow {C : Cn} {sl tm : List Sl} {s : Sl} {b cb : Bool} {es : List D} {cd : D} {j : Int} {u v : V} {Θ : List V} {σ : L2.St} {H : Hp} (R : Rel C ⟨sl, s :: .ow b (.list es) :: tm, j⟩ (u :: v :: Θ) σ H) (ec : con s = some (cb, cd)) :
    ∃ a vs, v = .ref a ∧ H a = some (.lst vs) ∧ vs.length = es.length ∧ Rel C ⟨sl, .ow (b && cb) (.list (es ++ [cd])) :: tm, j⟩ (v :: Θ) σ (upd H a (.lst (vs ++ [u]))) := by
  obtain ⟨Z, S1, S2, X⟩ := R
  obtain ⟨A, B, en, X1, f⟩ := RelX.popF (ss := [s, .ow b (.list es)]) (us := [u, v]) X rfl
  -- the two of them
  obtain ⟨A1, A2, e1, e2, rfl⟩ : ∃ A1 A2, Ent C Z H A1 (some u) s ∧ Ent C Z H A2 (some v) (.ow b (.list es)) ∧ A = A1 ++ A2 := by
    cases en with
    | cons e1 e2 =>
      cases e2 with
      | cons e2 e3 =>
        cases e3
        exact ⟨_, _, e1, e2, by simp⟩
  have ti := e1.con ec
  have key : ∃ a vs T, v = .ref a ∧ H a = some (.lst vs) ∧ A2 = a :: T ∧ Trs H (rgn b Z) T vs es := by
    cases e2 with
    | ow t =>
      cases t with
      | lst q ts => exact ⟨_, _, _, rfl, q, rfl, ts⟩
      | lstZ z _ _ => exact z.elim
    | sp q ts => exact ⟨_, _, _, rfl, q, rfl, ts⟩
  obtain ⟨a, vs, T, rfl, ha, rfl, ts⟩ := key
  have cnt : ∀ x, List.count x A1 + (List.count x [a] + List.count x T) + (List.count x S1 + List.count x B) ≤ 1 := fun x => by
    have := nodup_cnt.mp f.nd x
    rw [List.count_append, List.count_append, List.count_append, ← List.singleton_append, List.count_append] at this
    omega
  have cpos : ∀ {x : Addr} {l : List Addr}, x ∈ l → 0 < List.count x l := fun h => List.count_pos_iff.mpr h
  have ca : List.count a [a] = 1 := by simp
  have out : ∀ {x : Addr} {l : List Addr}, x ∈ l → (∀ y, List.count y l ≤ List.count y A1 + List.count y T + List.count y S1 + List.count y B) → x ≠ a := fun {x l} m h z => by
    subst z
    have := cpos m
    have := h x
    have := cnt x
    omega
  have aZ : ¬ C.tz Z a := (f.ok a (by simp)).1
  have nA : ∀ x ∈ A1, x ≠ a := fun x m => out m fun y => by omega
  have nT : ∀ x ∈ T, x ≠ a := fun x m => out m fun y => by omega
  have nS : ∀ x ∈ S1, x ≠ a := fun x m => out m fun y => by omega
  have nB : ∀ x ∈ B, x ≠ a := fun x m => out m fun y => by omega
  have el := ts.length
  refine ⟨a, vs, rfl, ha, el, ?_⟩
  have kt : ∀ t xs, H t = some (.tup xs) → upd H a (.lst (vs ++ [u])) t = some (.tup xs) := fun t xs et => by
    rw [upd_ne (show t ≠ a from fun z => by rw [z, ha] at et; cases et)]
    exact et
  have kne : ∀ x, x ≠ a → ∀ o, H x = some o → upd H a (.lst (vs ++ [u])) x = some o := fun x q o eo => by
    rw [upd_ne q]
    exact eo
  have kz0 : ∀ x, C.tz Z x → ∀ o, H x = some o → upd H a (.lst (vs ++ [u])) x = some o := fun x z o eo => kne x (fun q => aZ (q ▸ z)) o eo
  have kz : ∀ x, Z x → ∀ o, H x = some o → upd H a (.lst (vs ++ [u])) x = some o := fun x z => kz0 x (.inl z)
  have X2 : RelX C Z S1 B ⟨sl, tm, j⟩ Θ σ (upd H a (.lst (vs ++ [u]))) := by
    refine ⟨fun x o e m => ⟨(X1.fr x o e m).1, kz0 x (X1.fr x o e m).1 o (X1.fr x o e m).2⟩, X1.es.mono kt (fun _ z => z) kz fun x m => kne x (nS x m), X1.et.mono kt (fun _ z => z) kz fun x m => kne x (nB x m), X1.nd, X1.nz, fun q b e => ⟨(X1.pu q b e).1.mono fun o eo => kne q ?_ o eo, (X1.pu q b e).2⟩, fun x z => ?_, X1.dj, fun k i π w e ev => ?_⟩
    · exact fun z => (f.ok a (by simp)).2.1 q b e z.symm
    · obtain ⟨o, e⟩ := X1.ex x z
      exact ⟨o, kz0 x z o e⟩
    · obtain ⟨s, d', e', w', g1, g2, g3, g4, wk⟩ := X1.al k i π w e ev
      obtain ⟨w2, T', ew, t, sub⟩ := X1.slot g1 g2
      rw [g4] at ew
      cases ew
      exact ⟨s, d', e', w', g1, g2, g3, g4, (Tr.part t g3 wk).2 _ kt fun x z => z.elim (kz x) fun m => kne x (nS x (sub x m))⟩
  have t1 : Trs (upd H a (.lst (vs ++ [u]))) (rgn (b && cb) Z) (T ++ (A1 ++ [])) (vs ++ [u]) (es ++ [cd]) := by
    refine ((ts.upd ha (fun z => aZ (.inl z)) nT).weak (rgn_mono fun z => ?_)).append (.cons ((ti.upd ha (fun z => aZ (.inl z)) nA).weak (rgn_mono fun z => ?_)) .nil)
    · rw [Bool.and_eq_true] at z; exact z.1
    · rw [Bool.and_eq_true] at z; exact z.2
  have f2 : Fl C Z S1 B (upd H a (.lst (vs ++ [u]))) (a :: (T ++ (A1 ++ []))) := by
    refine ⟨nodup_cnt.mpr fun x => ?_, fun x m => ?_⟩
    · have := cnt x
      rw [List.append_nil, List.cons_append, ← List.singleton_append, List.count_append, List.count_append, List.count_append, List.count_append]
      omega
    · have mA : x ∈ A1 ++ a :: T := by
        rcases List.mem_cons.mp m with rfl | m
        · simp
        · rcases List.mem_append.mp m with m | m
          · exact List.mem_append_right _ (List.mem_cons_of_mem _ m)
          · exact List.mem_append_left _ (by simpa using m)
      obtain ⟨q1, q2, xs, eo⟩ := f.ok x mA
      refine ⟨q1, q2, ?_⟩
      by_cases hx : x = a
      · exact ⟨_, by rw [hx]; exact upd_same⟩
      · exact ⟨xs, kne x hx _ eo⟩
  have en' : Ent C Z (upd H a (.lst (vs ++ [u]))) (a :: (T ++ (A1 ++ []))) (some (.ref a)) (.ow (b && cb) (.list (es ++ [cd]))) := by
    cases hb : (b && cb) with
    | true =>
      rw [hb] at t1
      exact .ow (.lst upd_same t1)
    | false =>
      rw [hb] at t1
      exact .sp upd_same t1
  exact ⟨_, _, _, X2.pushF f2 (Dr := []) (by simp) en' (fun i π z => nomatch z)⟩
/-- [e for x in xs if t] -/
def lcL (j : Nat) (kt : KT) (ke : KE) : List D → VSt → (VSt → Prop) → Prop
  | [], γ, q => q γ
  | d :: ds, γ, q => noAl j γ.tm = true ∧ kt ⟨γ.sl.set j (.fz d), γ.tm, γ.n⟩ fun b γ1 => γ1.tm = γ.tm ∧ if b = true then ke γ1 fun γ2 => match γ2.tm with
      | s :: .ow b0 (.list es) :: tm => (con s).elim False fun c => (noAl j tm = true ∧ tm = γ.tm.tail ∧ es.length < 10000000) ∧ lcL j kt ke ds ⟨γ2.sl.set j .jk, .ow (b0 && c.1) (.list (es ++ [c.2])) :: tm, γ2.n⟩ q
      | _ => False
    else lcL j kt ke ds ⟨γ1.sl.set j .jk, γ1.tm, γ1.n⟩ q
def kLc (ki : KI) (j : Nat) (kt : KT) (ke : KE) : KE := fun γ q => ki γ fun ds γ1 => noAl j γ1.tm = true ∧ lcL j kt ke ds ⟨γ1.sl.set j .jk, .ow true (.list []) :: γ1.tm, γ1.n⟩ fun γ2 => match γ2.tm with
  | s :: tm => (okS s = true ∧ tm = γ1.tm) ∧ q ⟨γ2.sl, s :: γ.tm, γ2.n⟩
  | _ => False
/-- what stands at a name that is forgotten does not matter -/
theorem Rel.jkσ {C : Cn} {γ : VSt} {Θ : List V} {σ σ' : L2.St} {H : Hp} {j : Nat} (R : Rel C γ Θ σ H) (e : γ.sl[j]? = some .jk ∨ γ.sl[j]? = none) (na : noAl j γ.tm = true) (hs : σ = σ'.set j none) : Rel C γ Θ σ' H := by
  obtain ⟨sl, tm, n⟩ := γ
  dsimp only at e na
  rcases e with e | e
  · have R2 := R.jk (i := j) na ((σ'[j]?).getD none)
    have e1 : sl.set j .jk = sl := by
      refine List.ext_getElem? fun i => ?_
      by_cases hi : j = i
      · subst hi
        rw [List.getElem?_set_self (List.getElem?_eq_some_iff.mp e).1, e]
      · rw [List.getElem?_set_ne hi]
    have e2 : σ.set j ((σ'[j]?).getD none) = σ' := by
      subst hs
      rw [List.set_set]
      refine List.ext_getElem? fun i => ?_
      by_cases hi : j = i
      · subst hi
        rcases Nat.lt_or_ge j σ'.length with z | z
        · rw [List.getElem?_set_self z, List.getElem?_eq_getElem z]
          rfl
        · rw [List.getElem?_eq_none (by rw [List.length_set]; exact z), List.getElem?_eq_none z]
      · rw [List.getElem?_set_ne hi]
    rw [e1, e2] at R2
    exact R2
  · have e2 : σ = σ' := by
      rw [hs]
      refine List.set_eq_of_length_le ?_
      have l1 : sl.length ≤ j := List.getElem?_eq_none_iff.mp e
      obtain ⟨Z, S1, S2, X⟩ := R
      have l2 := X.es.length
      change σ.length = sl.length at l2
      rw [hs, List.length_set] at l2
      omega
    rw [← e2]
    exact R
theorem set_jk (sl : List Sl) (j : Nat) : (sl.set j .jk)[j]? = some .jk ∨ (sl.set j .jk)[j]? = none := by
  rcases Nat.lt_or_ge j sl.length with z | z
  · exact .inl (List.getElem?_set_self z)
  · exact .inr (List.getElem?_eq_none (by rw [List.length_set]; exact z))
theorem noAl_cons {j : Nat} {s : Sl} {tm : List Sl} (h : noAl j tm = true) (hs : okS s = true) : noAl j (s :: tm) = true := by
  unfold noAl at h ⊢
  rw [List.all_cons, h, Bool.and_true]
  cases s <;> first | rfl | cases hs
theorem so_lc {wi : TI} {ki : KI} {j : Nat} {tt : TT} {kt : KT} {te : TE} {ke : KE} (hi : SoI xc wi ki) (ht : SoT xc tt kt) (he : SoE xc te ke) : SoE xc (tLc wi (gName j) tt te [j]) (kLc ki j kt ke) := fun γ Θ σ H Q q R hk w => hi γ Θ σ H _ _ R hk fun J ds γ1 Ψ H1 hq hp hJ R1 => by
  obtain ⟨na, hq⟩ := hq
  obtain ⟨sl1, tm1, n1⟩ := γ1
  dsimp only at hq na hJ
  intro D hD
  have R2 := (R1.jk (i := j) na none).ints hD []
  refine ⟨fun i m H' => m = ds.length - i ∧ i ≤ ds.length ∧ ∃ sl b es n, lcL j kt ke (ds.drop i) ⟨sl, .ow b (.list es) :: tm1, n⟩ (fun γ2 => match γ2.tm with | s :: tm => (okS s = true ∧ tm = tm1) ∧ q ⟨γ2.sl, s :: γ.tm, γ2.n⟩ | _ => False) ∧ (sl[j]? = some .jk ∨ sl[j]? = none) ∧ Rel C ⟨sl, .ow b (.list es) :: tm1, n⟩ (.ref D :: Ψ) (σ.set j none) H', ⟨ds.length, rfl, Nat.zero_le _, _, true, [], n1, by simpa using hq, set_jk _ _, R2⟩, ?_⟩
  rintro i m H' ⟨rfl, hi, sl, b, es, n, hf, hjk, R'⟩
  obtain ⟨j1, j2⟩ := hJ [.ow b (.list es)] [.ref D] i sl n _ H' rfl R'
  by_cases hlt : i < ds.length
  · right
    have e2 : ds.drop i = ds[i] :: ds.drop (i + 1) := List.drop_eq_getElem_cons hlt
    rw [e2] at hf
    obtain ⟨na1, hf⟩ := hf
    obtain ⟨g, y⟩ := j1 ds[i] (List.getElem?_eq_getElem hlt)
    have na2 : noAl j (.ow b (.list es) :: tm1) = true := na1
    refine ⟨g, fun H2 => ∃ sl b es n, lcL j kt ke (ds.drop (i + 1)) ⟨sl, .ow b (.list es) :: tm1, n⟩ (fun γ2 => match γ2.tm with | s :: tm => (okS s = true ∧ tm = tm1) ∧ q ⟨γ2.sl, s :: γ.tm, γ2.n⟩ | _ => False) ∧ (sl[j]? = some .jk ∨ sl[j]? = none) ∧ Rel C ⟨sl, .ow b (.list es) :: tm1, n⟩ (.ref D :: Ψ) (σ.set j none) H2, fun H2 h2 => ⟨ds.length - (i + 1), by omega, rfl, hlt, h2⟩, fun x H3 hy => ?_⟩
    refine ⟨by show ((σ.set j none).set j _).set j none = σ.set j none; rw [List.set_set, List.set_set], ?_⟩
    have R3 : Rel C ⟨sl.set j (.fz ds[i]), .ow b (.list es) :: tm1, n⟩ (.ref D :: Ψ) ((σ.set j none).set j (some x)) H3 := (y x H3 hy).set (fun i π z => nomatch z) na2
    refine ht _ _ _ H3 _ _ R3 hf fun c γ2 H4 hk4 R4 => ?_
    obtain ⟨et, hk4⟩ := hk4
    obtain ⟨sl2, tm2, n2⟩ := γ2
    dsimp only at et
    subst et
    have back : ∀ {sl : List Sl} {tm : List Sl} {n : Int} {Θ : List V} {H : Hp}, noAl j tm = true → Rel C ⟨sl, tm, n⟩ Θ ((σ.set j none).set j (some x)) H → Rel C ⟨sl.set j .jk, tm, n⟩ Θ (σ.set j none) H := fun hna R => by
      have := R.jk (i := j) hna none
      rw [List.set_set, List.set_set] at this
      exact this
    cases c with
    | false =>
      rw [if_neg (by simp)] at hk4 ⊢
      exact ⟨_, _, _, _, hk4, set_jk _ _, back na2 R4⟩
    | true =>
      rw [if_pos rfl] at hk4 ⊢
      refine he _ _ _ H4 _ _ R4 hk4 fun γ5 y5 H5 hk5 R5 => ?_
      obtain ⟨sl5, tm5, n5⟩ := γ5
      dsimp only at hk5
      split at hk5
      · rename_i s b0 es0 tm
        obtain ⟨⟨cb, cd⟩, ec, ⟨na5, et5, hl⟩, hk6⟩ := elimF hk5
        simp only [List.tail_cons] at et5
        subst et5
        obtain ⟨a, vs, ea, ha, el, R6⟩ := R5.grow ec
        cases ea
        exact ⟨vs, ha, szlt (by omega), _, _, _, _, hk6, set_jk _ _, back (noAl_cons na5 rfl) R6⟩
      · exact hk5.elim
  · left
    have e0 : i = ds.length := by omega
    refine ⟨j2 (by omega), ?_⟩
    rw [e0, List.drop_length] at hf
    obtain ⟨⟨h1, _⟩, hq⟩ := hf
    have R3 := R'.jkσ hjk (noAl_cons na rfl) rfl
    have R4 := hp [.ow b (.list es)] [.ref D] _ _ _ _ rfl (fun s m i π => by
      simp only [List.mem_singleton] at m
      subst m
      exact fun z => nomatch z) R3
    exact w _ _ _ hq R4
def enumD : Nat → List D → List D
  | _, [] => []
  | k, d :: ds => .tuple [.int k, d] :: enumD (k + 1) ds
def kEnum (ke : KE) : KI := fun γ q => ke γ fun γ1 => match γ1.tm with
  | s :: tm => (frzSeq true s).elim False fun ds => q (enumD 0 ds) ⟨γ1.sl, .fz (.list ds) :: tm, γ1.n⟩ ∧ tm = γ.tm
  | _ => False
def zipD : List D → List D → List D
  | d :: ds, e :: es => .tuple [d, e] :: zipD ds es
  | _, _ => []
def kZip (ka kb : KE) : KI := fun γ q => ka γ fun γ1 => kb γ1 fun γ2 => match γ2.tm with
  | s2 :: .fz (.list ds) :: tm => (frzSeq true s2).elim False fun es => q (zipD ds es) ⟨γ2.sl, .fz (.list es) :: .fz (.list ds) :: tm, γ2.n⟩ ∧ tm = γ.tm
  | _ => False
/-- what is returned: new -/
def rtN (G : D → Prop) : Sl → Prop
  | .fz d => nolist d = true ∧ G d
  | .ow true d => G d
  | _ => False
def edT (G : D → Prop) : KEd := ⟨fun _ => G .none, fun s _ => rtN G s, fun _ => False, fun _ => False⟩
def edP (G : D → Prop) : KEd := ⟨fun γ => 0 ≤ γ.n ∧ G .none, fun s γ => 0 ≤ γ.n ∧ rtN G s, fun _ => False, fun _ => False⟩
theorem Rel.start {H : Hp} {S : List Addr} {vs : List V} {ds : List D} {N : List Str} (r : Reps H S vs ds) (pu : Option (Addr × Int)) (ok : ∀ p b, pu = some (p, b) → b ≤ 2 ^ 100) (n : Int) (hpu : ∀ p b, pu = some (p, b) → PuAt H p (b - n) ∧ p ∉ S) (us : List V) (ss : List Sl)
    (hu : (us = [] ∧ ss = []) ∨ ∃ p b, pu = some (p, b) ∧ us = [.ref p] ∧ ss = [.pu]) (hN : (us ++ vs).length ≤ N.length) :
    Rel ⟨H, fun a => ∃ b, pu = some (a, b), pu, ok, none, noReg⟩ ⟨ss ++ ds.map Sl.fz ++ List.replicate (N.length - (us ++ vs).length) .jk, [], n⟩ [] (L2.start N (us ++ vs)) H := by
  have jks : ∀ (k : Nat) {C : Cn} {Z : Reg}, Ents C Z H [] (List.replicate k none) (List.replicate k .jk) := fun k => by
    induction k with
    | zero => exact .nil
    | succ k ih => exact .cons (S := []) (.jk _) ih
  refine ⟨fun a => (∃ o, H a = some o) ∧ ∀ p b, pu = some (p, b) → a ≠ p, [], [], ⟨fun a o e m => ⟨.inl ⟨⟨o, e⟩, fun p b q z => m ⟨b, z ▸ q⟩⟩, e⟩, ?_, .nil, List.nodup_nil, fun a m => (nomatch m), fun p b q => ⟨(hpu p b q).1, fun z => z.elim (fun z => z.2 p b q rfl) id, fun m => (nomatch m)⟩, fun a z => z.elim (fun z => z.1) False.elim, fun _ _ z => z, fun k i π v e => by simp at e⟩⟩
  have tr := Reps.tr (Z := noReg) _ _ _ r
  have fz := Trs.fzs (C := ⟨H, fun a => ∃ b, pu = some (a, b), pu, ok, none, noReg⟩) (Z := fun a => (∃ o, H a = some o) ∧ ∀ p b, pu = some (p, b) → a ≠ p) (Trs.freeze (Z' := fun a => (∃ o, H a = some o) ∧ ∀ p b, pu = some (p, b) → a ≠ p) (fun _ z => z.elim) _ _ _ tr fun a m => ⟨by
    obtain ⟨xs, e⟩ := Reps.dom _ _ _ r a m
    exact ⟨_, e⟩, fun p b q z => (hpu p b q).2 (z ▸ m)⟩) rfl
  show Ents _ _ H [] (L2.start N (us ++ vs)) (ss ++ ds.map Sl.fz ++ List.replicate (N.length - (us ++ vs).length) .jk)
  unfold L2.start
  rw [List.map_append]
  have mid := Ents.append fz (jks (N.length - (us ++ vs).length))
  rcases hu with ⟨rfl, rfl⟩ | ⟨p, b, q, rfl, rfl⟩
  · simpa using mid
  · exact .cons (S := []) (.pu q) mid
theorem Rel.outN {C : Cn} {sl tm : List Sl} {s : Sl} {n : Int} {v : V} {Θ : List V} {σ : L2.St} {H : Hp} {G : D → Prop} (R : Rel C ⟨sl, s :: tm, n⟩ (v :: Θ) σ H) (h : rtN G s) (hM : ∀ a, C.M a → ∃ b, C.pu = some (a, b)) : ∃ d, G d ∧ New C.H0 H v d := by
  obtain ⟨Z, S1, S2, X⟩ := R
  obtain ⟨A, B, en, X1, f⟩ := RelX.popF (ss := [s]) (us := [v]) X rfl
  obtain ⟨A', e1, rfl⟩ : ∃ A', Ent C Z H A' (some v) s ∧ A = A' := by
    cases en with
    | cons e1 e2 =>
      cases e2
      exact ⟨_, e1, by simp⟩
  have new : ∀ a ∈ A, C.H0 a = none := fun a m => by
    cases q : C.H0 a with
    | none => rfl
    | some o =>
      exfalso
      by_cases hm : C.M a
      · obtain ⟨b, eb⟩ := hM a hm
        exact (f.ok a m).2.1 a b eb rfl
      · exact (f.ok a m).1 (X1.fr a o q hm).1
  cases e1 with
  | jk v => cases h
  | al v i π => cases h
  | pu q => cases h
  | io t q => cases h
  | dc _ _ => cases h
  | dt _ _ => cases h
  | sh _ _ => cases h
  | xv _ _ => cases h
  | ho _ _ _ => cases h
  | xw _ => cases h
  | sp q t => cases h
  | fz t =>
    obtain ⟨hn, hG⟩ := h
    exact ⟨_, hG, [], Tr.repO _ _ _ (Tr.nolist (Z' := noReg) _ _ _ t hn).2, List.nodup_nil, fun a m => nomatch m⟩
  | ow t => exact ⟨_, h, A, Tr.repO _ _ _ t, (List.nodup_append.mp f.nd).1, new⟩
section
variable {P : Program} {w : World} {mg : Str → Option Value} {base : Heap} {kl : Nat} {f : Addr} {fd : FuncData} {ps : List Str}
/-- a def that changes nothing, by the values of its body -/
theorem okT {x qual : Str} {st : Stmt} {N : List Str} {W : Tw} {kb : KS} (F : Fun K x qual st f fd) (S : FnScope N ps (defScope st)) (hN : ps.length ≤ N.length) (har : ∀ ds G, W ds G → ds.length = ps.length)
    (hb : ∀ (cdv : Value) (A : Around) (outer : List Env) (s : Shared) (H : Hp) (E : XK), Bare (A.deeper (envOfC qual (defScope st) s.heap.objs.size f cdv)) → Room kl (A.deeper (envOfC qual (defScope st) s.heap.objs.size f cdv)) → ∃ t, PSs (cxOf CX0 P w K mg base N qual (defScope st) f cdv A outer s H E).nox (defBody st) t ∧ ∀ (C : Cn) (xc : XC C), SoS xc t kb)
    (val : ∀ ds G, W ds G → kb ⟨ds.map Sl.fz ++ List.replicate (N.length - ps.length) .jk, [], 0⟩ (edT G)) : FnG P w K mg base CX0 (kl + 1) f fd ps (spT W) := by
  refine okG F S (fun vs H Q E h => ?_) (fun cdv A outer s H vs Q E hg hr h => ?_)
  · obtain ⟨S, ds, Gq, r, hw, _⟩ := h
    rw [r.length]
    exact har _ _ hw
  · obtain ⟨t, hp, so⟩ := hb cdv A outer s H E hg hr
    obtain ⟨S, ds, Gq, r, hw, hk⟩ := h
    have el := r.length
    have ea := har _ _ hw
    refine ⟨t, hp, so ⟨H, fun a => ∃ b, (none : Option (Addr × Int)) = some (a, b), none, fun _ _ z => (nomatch z), none, noReg⟩ (noXC _) _ [] _ H _ (edT Gq) (by simpa using Rel.start (N := N) r none (fun _ _ z => nomatch z) 0 (fun _ _ z => nomatch z) [] [] (.inl ⟨rfl, rfl⟩) (by simp; omega)) (by rw [el, ea]; exact val ds Gq hw) ⟨fun γ' σ' H' hn R => ?_, fun s γ' v Θ' σ' H' hr R => ?_, fun _ _ _ z _ => z.elim, fun _ _ _ z _ => z.elim⟩⟩
    · obtain ⟨Z, S1, S2, X⟩ := R
      exact hk _ _ _ hn (fun a o e => (X.fr a o e (fun ⟨b, z⟩ => nomatch z)).2) ⟨[], .non, List.nodup_nil, fun a m => nomatch m⟩
    · obtain ⟨d, hG, nw⟩ := R.outN hr (fun a m => m)
      obtain ⟨Z, S1, S2, X⟩ := R
      exact hk _ _ _ hG (fun a o e => (X.fr a o e (fun ⟨b, z⟩ => nomatch z)).2) nw
/-- a def that draws from the purse, its first argument -/
theorem okP {x qual : Str} {st : Stmt} {N : List Str} {W : Tw} {kb : KS} {c : Int} (F : Fun K x qual st f fd) (S : FnScope N ps (defScope st)) (hN : ps.length ≤ N.length) (har : ∀ ds G, W ds G → ds.length + 1 = ps.length) (hc : 0 ≤ c)
    (hb : ∀ (cdv : Value) (A : Around) (outer : List Env) (s : Shared) (H : Hp) (E : XK), Bare (A.deeper (envOfC qual (defScope st) s.heap.objs.size f cdv)) → Room kl (A.deeper (envOfC qual (defScope st) s.heap.objs.size f cdv)) → ∃ t, PSs (cxOf CX0 P w K mg base N qual (defScope st) f cdv A outer s H E).nox (defBody st) t ∧ ∀ (C : Cn) (xc : XC C), SoS xc t kb)
    (val : ∀ ds G, W ds G → kb ⟨.pu :: (ds.map Sl.fz ++ List.replicate (N.length - ps.length) .jk), [], c⟩ (edP G)) : FnG P w K mg base CX0 (kl + 1) f fd ps (spP c W) := by
  refine okG F S (fun vs H Q E h => ?_) (fun cdv A outer s H vs Q E hg hr h => ?_)
  · obtain ⟨p, b, vs', S, ds, Gq, rfl, _, _, r, _, hw, _⟩ := h
    rw [List.length_cons, r.length]
    exact har _ _ hw
  · obtain ⟨t, hp, so⟩ := hb cdv A outer s H E hg hr
    obtain ⟨p, b, vs', S, ds, Gq, rfl, hpu, hb, r, np, hw, hk⟩ := h
    have el := r.length
    have ea := har _ _ hw
    have ok : ∀ q b', (some (p, b + c) : Option (Addr × Int)) = some (q, b') → b' ≤ 2 ^ 100 := fun q b' z => by cases z; omega
    have e0 : b + c - c = b := by omega
    refine ⟨t, hp, so ⟨H, fun a => ∃ b', (some (p, b + c) : Option (Addr × Int)) = some (a, b'), some (p, b + c), ok, none, noReg⟩ (noXC _) _ [] _ H _ (edP Gq) (Rel.start (N := N) r (some (p, b + c)) ok c (fun q b' z => by cases z; exact ⟨e0.symm ▸ hpu, np⟩) [.ref p] [.pu] (.inr ⟨p, b + c, rfl, rfl, rfl⟩) (by simp; omega)) ?_ ⟨fun γ' σ' H' hn R => ?_, fun s γ' v Θ' σ' H' hr R => ?_, fun _ _ _ z _ => z.elim, fun _ _ _ z _ => z.elim⟩⟩
    · have e1 : ([V.ref p] ++ vs').length = ps.length := by simp; omega
      rw [e1]
      exact val ds Gq hw
    · obtain ⟨Z, S1, S2, X⟩ := R
      exact hk _ _ _ hn.2 (fun a o e ne => (X.fr a o e (fun ⟨b, z⟩ => by cases z; exact ne rfl)).2) ((X.pu p _ rfl).1.le (by have := hn.1; omega)) ⟨[], .non, List.nodup_nil, fun a m => nomatch m⟩
    · obtain ⟨d, hG, nw⟩ := R.outN hr.2 (fun a m => m)
      obtain ⟨Z, S1, S2, X⟩ := R
      exact hk _ _ _ hG (fun a o e ne => (X.fr a o e (fun ⟨b, z⟩ => by cases z; exact ne rfl)).2) ((X.pu p _ rfl).1.le (by have := hr.1; dsimp only; omega)) nw
end
abbrev TwI := List D → (D → D → Prop) → Prop
def ownF (s : Option Sl) : Option (Sl × D) := match s with
  | some (.ow true d) => some (.ow true d, d)
  | some (.io d) => some (.io d, d)
  | _ => none
def kCallI (W : TwI) (n : Nat) (ka : KE) : KE := fun γ q => ka γ fun γ1 => (datN γ1.sl n γ1.tm).elim False fun x => match x.2 with
  | .al i [] :: r => (nolists x.1 = true ∧ noAl i r = true) ∧ (ownF (γ1.sl[i]?)).elim False fun s => W (s.2 :: x.1) fun d e => q ⟨γ1.sl.set i (reS s.1 true e), own d :: r, γ1.n⟩
  | _ => False
def ioD (γ : VSt) (f : D → Prop) : Prop := match γ.sl[0]? with
  | some (Sl.io e) => f e
  | _ => False
def edI (G : D → D → Prop) : KEd := ⟨fun γ => ioD γ fun e => G .none e, fun s γ => ioD γ fun e => rtN (fun d => G d e) s, fun _ => False, fun _ => False⟩
end
end G
namespace G
open PySem PySem.Spec PyProof.Rows L2
variable {C : Cn} {xc : XC C}
section
variable {t t1 t2 ta tb tc : TE} {k k1 k2 ka kb kc ko : KE} {n m : Nat} {c1 c2 : TT} {h1 h2 : KT} {K : PySem.W.Frag}
theorem sr_neD : SoR (rNeD K) (vEqD true) := fun H v1 v2 T1 T2 d1 d2 Q q r1 r2 hf w =>
  ⟨d1, d2, Rep.dp K _ _ _ r1, Rep.dp K _ _ _ r2, hf.1, hf.2.1, w _ _ (sca_bl _) (by simpa using hf.2.2)⟩
theorem cutD_to (ds : List D) (k : Nat) : cutD ds none (some (k : Int)) = ds.take k := by
  unfold cutD
  rw [HT.sIx_none, HT.sIx_nat]
  simp
theorem cutD_mid (ds : List D) (a b : Nat) : cutD ds (some (a : Int)) (some (b : Int)) = (ds.drop a).take (b - a) := by
  unfold cutD
  rw [HT.sIx_nat, HT.sIx_nat]
  by_cases h : a ≤ ds.length
  · rw [Nat.min_eq_left h]
    by_cases h2 : b ≤ ds.length
    · rw [Nat.min_eq_left h2]
    · rw [Nat.min_eq_right (by omega), List.take_of_length_le (by rw [List.length_drop]; omega), List.take_of_length_le (by rw [List.length_drop]; omega)]
  · rw [Nat.min_eq_right (show ds.length ≤ a by omega), List.drop_of_length_le (Nat.le_refl _), List.drop_of_length_le (show ds.length ≤ a by omega)]
    simp
theorem cutD_toI {ns : List Int} {j : Int} (h : 0 ≤ j) : cutD (ns.map PyData.int) none (some j) = (ns.take j.toNat).map PyData.int := by
  obtain ⟨k, rfl⟩ : ∃ k : Nat, j = (k : Int) := ⟨j.toNat, by omega⟩
  rw [cutD_to, List.map_take]
  rfl
/-- a loop by an invariant on what is done; N: whatever is wanted behind a turn -/
theorem forL_inv {g : KG} {kb : KS} {tm : List Sl} {e : KEd} {β : Type} (l : List β) (f : β → D) (P : List β → VSt → Prop)
    (step : ∀ pre x post γ (N : VSt → Prop), l = pre ++ x :: post → γ.tm = tm → P pre γ → (∀ γ2, γ2.tm = tm → P (pre ++ [x]) γ2 → N γ2) → g ⟨γ.sl, .fz (f x) :: γ.tm, γ.n⟩ fun γ1 => kb γ1 ⟨fun γ2 => γ2.tm = tm ∧ N γ2, e.rt, fun γ2 => γ2.tm = tm ∧ e.nx γ2, fun γ2 => γ2.tm = tm ∧ N γ2⟩)
    (fin : ∀ γ, γ.tm = tm → P l γ → e.nx γ) : ∀ γ, γ.tm = tm → P [] γ → forL g kb tm (l.map f) γ e := by
  have main : ∀ (post pre : List β) (γ : VSt), l = pre ++ post → γ.tm = tm → P pre γ → forL g kb tm (post.map f) γ e := by
    intro post
    induction post with
    | nil =>
      intro pre γ hl ht hp
      rw [List.append_nil] at hl
      subst hl
      exact fin γ ht hp
    | cons x post ih =>
      intro pre γ hl ht hp
      exact step pre x post γ (fun γ2 => forL g kb tm (post.map f) γ2 e) hl ht hp fun γ2 h2 h3 => ih (pre ++ [x]) γ2 (by rw [hl]; simp) h2 h3
  exact fun γ ht h => main l [] γ rfl ht h
theorem forL_ints {g : KG} {kb : KS} {tm : List Sl} {e : KEd} (l : List Int) (P : List Int → VSt → Prop)
    (step : ∀ pre x post γ (N : VSt → Prop), l = pre ++ x :: post → γ.tm = tm → P pre γ → (∀ γ2, γ2.tm = tm → P (pre ++ [x]) γ2 → N γ2) → g ⟨γ.sl, .fz (.int x) :: γ.tm, γ.n⟩ fun γ1 => kb γ1 ⟨fun γ2 => γ2.tm = tm ∧ N γ2, e.rt, fun γ2 => γ2.tm = tm ∧ e.nx γ2, fun γ2 => γ2.tm = tm ∧ N γ2⟩)
    (fin : ∀ γ, γ.tm = tm → P l γ → e.nx γ) (γ : VSt) (ht : γ.tm = tm) (h : P [] γ) : forL g kb tm (l.map PyData.int) γ e := forL_inv l PyData.int P step fin γ ht h
/-- a comprehension by an invariant: what is done, what is made, how many draws are left -/
theorem lc_inv {j : Nat} {kt : KT} {ke : KE} {β : Type} {q : VSt → Prop} {sl T : List Sl} (b : Bool) (l : List β) (f : β → D) (P : List β → List D → Int → Prop) (hj : (sl.set j .jk) = sl) (na : noAl j T = true)
    (len : ∀ pre acc n, P pre acc n → acc.length < 10000000)
    (step : ∀ pre x post acc n (Y X : VSt → Prop), l = pre ++ x :: post → P pre acc n → (∀ s c cd n', con s = some (c, cd) → (b && c) = b → P (pre ++ [x]) (acc ++ [cd]) n' → Y ⟨sl.set j (.fz (f x)), s :: .ow b (.list acc) :: T, n'⟩) → (∀ n', P (pre ++ [x]) acc n' → X ⟨sl.set j (.fz (f x)), .ow b (.list acc) :: T, n'⟩) →
      kt ⟨sl.set j (.fz (f x)), .ow b (.list acc) :: T, n⟩ fun c γ1 => γ1.tm = .ow b (.list acc) :: T ∧ if c = true then ke γ1 Y else X γ1)
    (fin : ∀ acc n, P l acc n → q ⟨sl, .ow b (.list acc) :: T, n⟩) : ∀ acc n, P [] acc n → lcL j kt ke (l.map f) ⟨sl, .ow b (.list acc) :: T, n⟩ q := by
  have main : ∀ (post pre : List β) (acc : List D) (n : Int), l = pre ++ post → P pre acc n → lcL j kt ke (post.map f) ⟨sl, .ow b (.list acc) :: T, n⟩ q := by
    intro post
    induction post with
    | nil =>
      intro pre acc n hl hp
      rw [List.append_nil] at hl
      subst hl
      exact fin acc n hp
    | cons x post ih =>
      intro pre acc n hl hp
      have hjj : (sl.set j (.fz (f x))).set j .jk = sl := by rw [List.set_set]; exact hj
      refine ⟨noAl_cons na rfl, step pre x post acc n _ _ hl hp (fun s c cd n' hc hb hP => ?_) (fun n' hP => ?_)⟩
      · show (con s).elim False _
        rw [hc]
        refine ⟨⟨na, rfl, len _ _ _ hp⟩, ?_⟩
        dsimp only
        rw [hjj, hb]
        exact ih (pre ++ [x]) _ n' (by rw [hl]; simp) hP
      · dsimp only
        rw [hjj]
        exact ih (pre ++ [x]) _ n' (by rw [hl]; simp) hP
  exact fun acc n h => main l [] acc n rfl h
/-- a comprehension over ints that gives ints -/
theorem lc_ints' {j : Nat} {ke : KE} {q : VSt → Prop} {sl T : List Sl} {n : Int} (l : List Int) (h : Int → Int) (hj : (sl.set j .jk) = sl) (na : noAl j T = true) (len : l.length < 10000000)
    (step : ∀ x ∈ l, ∀ acc (Y : VSt → Prop), Y ⟨sl.set j (.fz (.int x)), .fz (.int (h x)) :: .ow true (.list acc) :: T, n⟩ → ke ⟨sl.set j (.fz (.int x)), .ow true (.list acc) :: T, n⟩ Y)
    (fin : q ⟨sl, .ow true (dI (l.map h)) :: T, n⟩) : lcL j kYes ke (l.map PyData.int) ⟨sl, .ow true (.list []) :: T, n⟩ q := by
  refine lc_inv (j := j) true l PyData.int (fun pre acc n' => acc = (pre.map h).map PyData.int ∧ n' = n ∧ ∃ post, l = pre ++ post) hj na (fun pre acc n' hp => ?_) (fun pre x post acc n' Y X hl hp hY hX => ?_) (fun acc n' hp => ?_) [] n ⟨rfl, rfl, l, rfl⟩
  · obtain ⟨rfl, _, post, rfl⟩ := hp
    rw [List.length_map, List.length_map]
    rw [List.length_append] at len
    omega
  · obtain ⟨rfl, rfl, _⟩ := hp
    refine ⟨rfl, ?_⟩
    rw [if_pos rfl]
    refine step x (by rw [hl]; simp) _ _ (hY _ true (.int (h x)) n' rfl rfl ⟨by simp, rfl, post, by rw [hl]; simp⟩)
  · obtain ⟨rfl, rfl, _⟩ := hp
    exact fin
theorem edT_rt {G : D → Prop} {s : Sl} {γ : VSt} : (edT G).rt s γ = rtN G s := rfl
theorem edP_rt {G : D → Prop} {s : Sl} {γ : VSt} : (edP G).rt s γ = (0 ≤ γ.n ∧ rtN G s) := rfl
theorem edT_nx {G : D → Prop} {γ : VSt} : (edT G).nx γ = G .none := rfl
theorem edP_nx {G : D → Prop} {γ : VSt} : (edP G).nx γ = (0 ≤ γ.n ∧ G .none) := rfl
theorem rtN_fz {G : D → Prop} {d : D} : rtN G (.fz d) = (nolist d = true ∧ G d) := rfl
theorem rtN_ow {G : D → Prop} {d : D} : rtN G (.ow true d) = G d := rfl
theorem rtN_own {G : D → Prop} {d : D} : rtN G (own d) = G d := by
  unfold own
  cases h : nolist d with
  | true => rw [if_pos rfl, rtN_fz, h]; simp
  | false => rw [if_neg (by simp), rtN_ow]
theorem own_int {i : Int} : own (.int i) = .fz (.int i) := rfl
theorem own_bool {b : Bool} : own (.bool b) = .fz (.bool b) := rfl
theorem own_str {x : Str} : own (.str x) = .fz (.str x) := rfl
theorem own_none : own .none = .fz .none := rfl
theorem own_list {ds : List D} : own (.list ds) = .ow true (.list ds) := rfl
theorem own_tup {ds : List D} : own (.tuple ds) = if nolists ds = true then .fz (.tuple ds) else .ow true (.tuple ds) := rfl
theorem mkS_lt {ds : List D} : mkS true true ds = .ow true (.list ds) := rfl
theorem mkS_lf {ds : List D} : mkS true false ds = .ow false (.list ds) := rfl
theorem mkS_tt {ds : List D} : mkS false true ds = own (.tuple ds) := rfl
theorem mkS_tf {ds : List D} : mkS false false ds = .fz (.tuple ds) := rfl
theorem con_own {d : D} : con (own d) = some (true, d) := by
  unfold own
  cases h : nolist d with
  | true => rw [if_pos rfl]; show some (nolist d, d) = _; rw [h]
  | false => rw [if_neg (by simp)]; rfl
theorem okS_own {d : D} : okS (own d) = true := by
  unfold own
  split <;> rfl
theorem look_own {sl : List Sl} {d : D} : look sl (own d) = some d := by
  unfold own
  split <;> rfl
theorem okS_fz {d : D} : okS (.fz d) = true := rfl
theorem okS_ow {b : Bool} {d : D} : okS (.ow b d) = true := rfl
theorem okS_pu : okS .pu = true := rfl
theorem okS_al {i : Nat} {π : List Nat} : okS (.al i π) = false := rfl
theorem noAl_nil {i : Nat} : noAl i [] = true := rfl
theorem noAl_fz {i : Nat} {d : D} {tm : List Sl} : noAl i (.fz d :: tm) = noAl i tm := by simp [noAl]
theorem noAl_ow {i : Nat} {b : Bool} {d : D} {tm : List Sl} : noAl i (.ow b d :: tm) = noAl i tm := by simp [noAl]
theorem noAl_pu {i : Nat} {tm : List Sl} : noAl i (.pu :: tm) = noAl i tm := by simp [noAl]
theorem noAl_al {i j : Nat} {π : List Nat} {tm : List Sl} : noAl i (.al j π :: tm) = ((j != i) && noAl i tm) := by simp [noAl]
theorem noAl_own {i : Nat} {d : D} {tm : List Sl} : noAl i (own d :: tm) = noAl i tm := by
  unfold own
  split <;> simp [noAl]
theorem con_fz {d : D} : con (.fz d) = some (nolist d, d) := rfl
theorem con_ow {b : Bool} {d : D} : con (.ow b d) = some (b, d) := rfl
theorem look_fz {sl : List Sl} {d : D} : look sl (.fz d) = some d := rfl
theorem look_ow {sl : List Sl} {b : Bool} {d : D} : look sl (.ow b d) = some d := rfl
theorem look_al {sl : List Sl} {i : Nat} {π : List Nat} : look sl (.al i π) = (sl[i]?).bind fun s => (datS s).bind fun d => atP d π := rfl
theorem datS_fz {d : D} : datS (.fz d) = some d := rfl
theorem datS_ow {b : Bool} {d : D} : datS (.ow b d) = some d := rfl
theorem datS_own {d : D} : datS (own d) = some d := by
  unfold own
  split <;> rfl
theorem subS_fz {d e : D} {k : Nat} : subS (.fz e) k d = .fz d := rfl
theorem subS_ow {d e : D} {k : Nat} : subS (.ow true e) k d = own d := rfl
theorem subS_of {d e : D} {k : Nat} : subS (.ow false e) k d = .fz d := rfl
theorem subS_al {d : D} {i k : Nat} {π : List Nat} : subS (.al i π) k d = if nolist d = true then .fz d else .al i (π ++ [k]) := rfl
theorem ixD_0 {d : D} {ds : List D} {f : Nat → D → Prop} : ixD (d :: ds) 0 f = f 0 d := by
  unfold ixD ixN
  simp
theorem ixD_1 {d e : D} {ds : List D} {f : Nat → D → Prop} : ixD (d :: e :: ds) 1 f = f 1 e := by
  unfold ixD ixN
  simp
  rw [if_pos (by omega)]
  exact Iff.rfl
theorem ixD_2 {d e g : D} {ds : List D} {f : Nat → D → Prop} : ixD (d :: e :: g :: ds) 2 f = f 2 g := by
  unfold ixD ixN
  simp
  rw [if_pos (by omega)]
  exact Iff.rfl
theorem ixD_any {ds : List D} {i : Int} {f : Nat → D → Prop} (h0 : 0 ≤ i) (h1 : i < ds.length) (h : ∀ x, ds[i.toNat]? = some x → f i.toNat x) : ixD ds i f := by
  unfold ixD
  have e1 : ixN ds.length i = some i.toNat := by
    unfold ixN
    rw [if_pos h0, if_pos h1]
  have e2 : ds[i.toNat]? = some ds[i.toNat] := List.getElem?_eq_getElem (by omega)
  rw [e1]
  show (ds[i.toNat]?).elim False (f i.toNat)
  rw [e2]
  exact h _ e2
theorem look_mkL {sl : List Sl} {b : Bool} {ds : List D} : look sl (mkS true b ds) = some (.list ds) := by
  cases b <;> rfl
theorem okS_mkL {b : Bool} {ds : List D} : okS (mkS true b ds) = true := by
  cases b <;> rfl
end
end G
namespace G
open PySem PySem.Spec PyProof.Rows L2
variable {C : Cn} {xc : XC C}
section
variable {t t1 t2 ta tb tc : TE} {k k1 k2 ka kb kc ko : KE} {n m : Nat} {K : PySem.W.Frag}
/-- the tree that is given -/
def giv : Sl → Option D
  | .ow true d => some d
  | .fz d => if nolist d = true then some d else none
  | _ => none
def kCallV (W : Tw) (n : Nat) (ka : KE) : KE := fun γ q => ka γ fun γ1 => match γ1.tm with
  | s :: tm => (giv s).elim False fun d0 => (datN γ1.sl n tm).elim False fun x => W (x.1 ++ [d0]) fun d => q ⟨γ1.sl, own d :: x.2, γ1.n⟩
  | _ => False
end
end G
namespace G
open PySem PySem.Spec PyProof.Rows L2
variable {C : Cn} {xc : XC C}
section
variable {t t1 t2 ta tb tc : TE} {k k1 k2 ka kb kc ko : KE} {n m : Nat} {K : PySem.W.Frag}
/-- how many bits -/
def vBits : D → (D → Prop) → Prop := fun d q => match d with | .int i => q (.int (Builtin.Int.intBits i : Nat)) | _ => False
theorem so_bits (ha : SoE xc ta ka) : SoE xc (tBits ta) (kUn vBits ka) := so_un (r := fun x H Q => ∃ i, x = .int i ∧ Q (.int (Builtin.Int.intBits i : Nat)) H) (fun H v1 T1 d1 Q q r1 hf w => by
  unfold vBits at hf
  split at hf
  · cases r1
    exact ⟨_, rfl, w _ _ (sca_int _) hf⟩
  · exact hf.elim) ha
/-- range(a, b, -1) -/
def rgD (a b : Int) : List Int := (List.range (a - b).toNat).map fun i => a - (i : Nat)
theorem rgD_len (a b : Int) : (rgD a b).length = (a - b).toNat := by unfold rgD; rw [List.length_map, List.length_range]
def kRngD (ka kb kc : KE) : KI := fun γ q => ka γ fun γ1 => kb γ1 fun γ2 => kc γ2 fun γ3 => popI γ3 fun c γ4 => popI γ4 fun j γ5 => popI γ5 fun i γ6 => (c = -1 ∧ -1000000000000 ≤ i ∧ i ≤ 1000000000000 ∧ -1000000000000 ≤ j ∧ j ≤ 1000000000000) ∧ q ((rgD i j).map PyData.int) γ6 ∧ γ6.tm = γ.tm
theorem itD_rangeD {C : Cn} {tm : List Sl} {Ψ : List V} (a b : Int) : ItD C (Itc a (-1) (a - b).toNat) ((rgD a b).map PyData.int) tm Ψ := fun E Φ i sl n σ H ee R => by
  refine ⟨fun d e => ?_, fun hi => ?_⟩
  · rw [List.getElem?_map] at e
    have hi : i < (a - b).toNat := by
      rcases Nat.lt_or_ge i (a - b).toNat with z | z
      · exact z
      · rw [List.getElem?_eq_none (by rw [rgD_len]; omega)] at e
        cases e
    have er : (rgD a b)[i]? = some (a - i) := by
      unfold rgD
      rw [List.getElem?_map, List.getElem?_range hi]
      rfl
    rw [er] at e
    cases e
    refine ⟨hi, fun x H3 hy => ?_⟩
    obtain ⟨rfl, rfl⟩ := hy
    have : a + (i : Nat) * (-1) = a - i := by omega
    rw [this]
    exact R.push fun Z => .int _
  · rw [List.length_map, rgD_len] at hi
    exact hi
theorem so_rngD (h : SoE xc ta ka) (h' : SoE xc tb kb) (h'' : SoE xc tc kc) : SoI xc (iRng3 (tCons ta (tCons tb (tCons tc tNil)))) (kRngD ka kb kc) := fun γ Θ σ H Rr q R hk w => h γ Θ σ H _ _ R hk fun γ1 v H1 hk1 R1 => h' γ1 _ σ H1 _ _ R1 hk1 fun γ2 u H2 hk2 R2 => h'' γ2 _ σ H2 _ _ R2 hk2 fun γ3 x H3 hk3 R3 => by
  obtain ⟨c, γ4, rfl, hf, R4⟩ := popI_ok R3 hk3
  obtain ⟨j, γ5, rfl, hf2, R5⟩ := popI_ok R4 hf
  obtain ⟨i, γ6, rfl, ⟨⟨rfl, b1, b2, b3, b4⟩, hq, et⟩, R6⟩ := popI_ok R5 hf2
  have e : (2 : Int) ^ 62 = 4611686018427387904 := by decide
  exact ⟨i, j, -1, (i - j).toNat, rfl, RgC.neg (by omega) (by omega) (by omega) (by omega), w _ _ γ6 Θ H3 hq (popD_refl et) (itD_rangeD i j) R6⟩
/-- the last item, all but the last one -/
theorem cutD_last (ds : List D) : cutD ds (some (-1)) none = ds.drop (ds.length - 1) := by
  unfold cutD
  have e1 : HT.sIx ds.length 0 (some (-1)) = ds.length - 1 := by
    show (if (-1 : Int) < 0 then ((-1 : Int) + (ds.length : Int)).toNat else min (-1 : Int).toNat ds.length) = _
    rw [if_pos (by decide)]
    omega
  rw [e1, HT.sIx_none]
  exact List.take_of_length_le (by rw [List.length_drop]; exact Nat.le_refl _)
theorem cutD_init (ds : List D) : cutD ds none (some (-1)) = ds.dropLast := by
  unfold cutD
  have e1 : HT.sIx ds.length ds.length (some (-1)) = ds.length - 1 := by
    show (if (-1 : Int) < 0 then ((-1 : Int) + (ds.length : Int)).toNat else min (-1 : Int).toNat ds.length) = _
    rw [if_pos (by decide)]
    omega
  rw [e1, HT.sIx_none, List.drop_zero, List.dropLast_eq_take]
  congr 1
theorem cutD_lastI (ns : List Int) : cutD (ns.map PyData.int) (some (-1)) none = (ns.drop (ns.length - 1)).map PyData.int := by
  rw [cutD_last, List.length_map, List.map_drop]
theorem cutD_initI (ns : List Int) : cutD (ns.map PyData.int) none (some (-1)) = ns.dropLast.map PyData.int := by
  rw [cutD_init, List.map_dropLast]
/-- in a list of ints -/
theorem inV_intsD (t : Int) (ns : List Int) : inV (.int t) ((ns.map PyData.int).map vOf) = decide (t ∈ ns) := by
  have : (ns.map PyData.int).map vOf = ns.map V.int := by
    rw [List.map_map]
    rfl
  rw [this, inV_ints]
theorem allflat_ints (ns : List Int) : (ns.map PyData.int).all flatD = true := by
  rw [List.all_map, List.all_eq_true]
  intro x _
  rfl
theorem eqv_il1 (xs : List Int) (y : Int) : PyData.eqv (.list (xs.map PyData.int)) (.list [.int y]) = decide (xs = [y]) := eqv_ints xs [y]
theorem eqv_il0 (xs : List Int) : PyData.eqv (.list (xs.map PyData.int)) (.list []) = decide (xs = []) := eqv_ints xs []
theorem reS_io {e d : D} {b : Bool} : reS (.io e) b d = .io d := rfl
theorem reS_ow {e d : D} {c b : Bool} : reS (.ow c e) b d = .ow b d := rfl
theorem putS_set {sl : List Sl} {i : Nat} {b : Bool} {d : D} : putS sl i b d = sl.set i (reS ((sl[i]?).getD .jk) b d) := rfl
theorem datS_io {d : D} : datS (.io d) = some d := rfl
theorem ownF_ow {d : D} : ownF (some (.ow true d)) = some (.ow true d, d) := rfl
theorem ownF_io {d : D} : ownF (some (.io d)) = some (.io d, d) := rfl
theorem edI_rt {G : D → D → Prop} {s : Sl} {γ : VSt} : (edI G).rt s γ = ioD γ fun e => rtN (fun d => G d e) s := rfl
theorem edI_nx {G : D → D → Prop} {γ : VSt} : (edI G).nx γ = ioD γ fun e => G .none e := rfl
theorem ioD_c {e : D} {sl tm : List Sl} {n : Int} {f : D → Prop} : ioD ⟨.io e :: sl, tm, n⟩ f = f e := rfl
theorem giv_ow {d : D} : giv (.ow true d) = some d := rfl
theorem giv_fz {d : D} : giv (.fz d) = if nolist d = true then some d else none := rfl
theorem giv_own {d : D} : giv (own d) = some d := by
  unfold own
  cases h : nolist d with
  | true => rw [if_pos rfl]; show (if nolist d = true then some d else none) = _; rw [h]; rfl
  | false => rw [if_neg (by simp)]; rfl
theorem nolists_app : ∀ (a b : List D), nolists (a ++ b) = (nolists a && nolists b)
  | [], b => by simp [nolists]
  | d :: a, b => by simp [nolists, nolists_app a b, Bool.and_assoc]
def kLit (d : D) : KE := fun γ q => q ⟨γ.sl, own d :: γ.tm, γ.n⟩
def kLits (ds : List D) : KE := fun γ q => q ⟨γ.sl, (ds.map own).reverse ++ γ.tm, γ.n⟩
theorem so_lit_c {v : V} {d : D} (h : Sca v d) (hn : nolist d = true) : SoE xc (tC v) (kLit d) := fun γ Θ σ H Q q R hk w => by
  unfold kLit at hk
  have e : own d = .fz d := if_pos hn
  rw [e] at hk
  exact w _ v H hk (R.push fun Z => h H Z)
theorem so_lits_nil : SoA xc 0 tNil (kLits []) := fun γ Θ σ H Q q R hk w => w γ [] H rfl hk R
theorem so_lits_cons {ts : TA} {d : D} {ds : List D} (h : SoE xc t (kLit d)) (hs : SoA xc n ts (kLits ds)) : SoA xc (n + 1) (tCons t ts) (kLits (d :: ds)) := fun γ Θ σ H Q q R hk w => by
  refine so_cons h hs γ Θ σ H Q q R ?_ w
  show q ⟨γ.sl, (ds.map own).reverse ++ own d :: γ.tm, γ.n⟩
  have e : (((d :: ds).map own).reverse ++ γ.tm : List Sl) = (ds.map own).reverse ++ own d :: γ.tm := by simp
  rw [← e]
  exact hk
theorem popC_own (ds : List D) (tm : List Sl) : popC ds.length ((ds.map own).reverse ++ tm) = some ((true, ds), tm) := by
  have main : ∀ (es : List D), popC es.length ((es.map own) ++ tm) = some ((true, es.reverse), tm) := by
    intro es
    induction es with
    | nil => rfl
    | cons e es ih =>
      show popC (es.length + 1) (own e :: (es.map own ++ tm)) = _
      simp only [popC, con_own, Option.bind_some, ih]
      simp
  have := main ds.reverse
  rw [List.length_reverse, List.map_reverse, List.reverse_reverse] at this
  exact this
theorem so_lit_lst {ts : TA} {ds : List D} (h : SoA xc ds.length ts (kLits ds)) (hn : ds.length ≤ 10000000 := by decide) : SoE xc (tLst ts) (kLit (.list ds)) := fun γ Θ σ H Q q R hk w => by
  refine so_lst h hn γ Θ σ H Q q R ?_ w
  show (popC ds.length ((ds.map own).reverse ++ γ.tm)).elim False _
  rw [popC_own]
  exact hk
theorem so_lit_tup {ts : TA} {ds : List D} (h : SoA xc ds.length ts (kLits ds)) (hn : ds.length ≤ 10000000 := by decide) : SoE xc (tTup ts) (kLit (.tuple ds)) := fun γ Θ σ H Q q R hk w => by
  refine so_tup h hn γ Θ σ H Q q R ?_ w
  show (popC ds.length ((ds.map own).reverse ++ γ.tm)).elim False _
  rw [popC_own]
  exact hk
end
end G
namespace G
open PySem PySem.Spec PyProof.Rows L2
variable {C : Cn} {xc : XC C}
section
variable {κ : Type} [DecidableEq κ]
def valM {α : Type} (m : List (κ × α)) (k : κ) : Option α := (m.find? fun kv => decide (kv.1 = k)).map (·.2)
def putM {α : Type} (m : List (κ × α)) (k : κ) (d : α) : List (κ × α) := if (m.any fun kv => decide (kv.1 = k)) = true then m.map (fun kv => if kv.1 = k then (kv.1, d) else kv) else m ++ [(k, d)]
variable {α : Type} {m : List (κ × α)} {k j : κ} {d : α}
theorem valM_nil : valM ([] : List (κ × α)) k = none := rfl
theorem valM_cons {p : κ × α} : valM (p :: m) k = if p.1 = k then some p.2 else valM m k := by
  unfold valM
  rw [List.find?_cons]
  by_cases h : p.1 = k
  · simp [h]
  · simp [h]
theorem any_valM : (m.any fun kv => decide (kv.1 = k)) = (valM m k).isSome := by
  induction m with
  | nil => rfl
  | cons p m ih =>
    rw [List.any_cons, ih, valM_cons]
    by_cases h : p.1 = k
    · simp [h]
    · simp [h]
theorem putM_new (h : valM m k = none) : putM m k d = m ++ [(k, d)] := by
  unfold putM
  rw [any_valM, h]
  rfl
theorem valM_none_mem : valM m k = none ↔ ∀ p ∈ m, p.1 ≠ k := by
  induction m with
  | nil => simp [valM_nil]
  | cons p m ih =>
    rw [valM_cons]
    by_cases hp : p.1 = k
    · simp [hp]
    · simp [hp, ih]
end
section
variable {κ : Type} [DecidableEq κ] {H : Hp} {Z : Reg} {kvs : List (κ × V)} {m : List (κ × D)} {k : κ} {v : V} {d : D}
theorem DVs.length (h : DVs H Z kvs m) : kvs.length = m.length := by
  induction h with
  | nil => rfl
  | cons _ _ ih => rw [List.length_cons, List.length_cons, ih]
theorem DVs.val (h : DVs H Z kvs m) (k : κ) : (valV kvs k = none ∧ valM m k = none) ∨ ∃ v d, valV kvs k = some v ∧ valM m k = some d ∧ Tr H Z [] v d := by
  induction h with
  | nil => exact .inl ⟨rfl, rfl⟩
  | @cons k' v d kvs m t _ ih =>
    by_cases hk : k' = k
    · exact .inr ⟨v, d, valV_pos hk, by rw [valM_cons, if_pos hk], t⟩
    · rw [valV_neg hk, valM_cons, if_neg hk]
      exact ih
theorem DVs.app (h : DVs H Z kvs m) (t : Tr H Z [] v d) : DVs H Z (kvs ++ [(k, v)]) (m ++ [(k, d)]) := by
  induction h with
  | nil => exact .cons t .nil
  | cons t' _ ih => exact .cons t' ih
theorem DVs.map (h : DVs H Z kvs m) (t : Tr H Z [] v d) : DVs H Z (kvs.map fun kv => if kv.1 = k then (kv.1, v) else kv) (m.map fun kv => if kv.1 = k then (kv.1, d) else kv) := by
  induction h with
  | nil => exact .nil
  | @cons k' v' d' kvs m t' _ ih =>
    rw [List.map_cons, List.map_cons]
    by_cases hk : k' = k
    · simp only [hk, if_true]
      exact .cons t ih
    · simp only [hk, if_false]
      exact .cons t' ih
theorem DVs.put (h : DVs H Z kvs m) (t : Tr H Z [] v d) : DVs H Z (putK kvs k v) (putM m k d) := by
  unfold putK putM
  rw [valV_any, any_valM]
  rcases h.val k with ⟨e1, e2⟩ | ⟨v', d', e1, e2, _⟩
  · rw [e1, e2]
    exact h.app t
  · rw [e1, e2]
    exact h.map t
end
def keyD : D → Option Key
  | .int i => some (.inl i)
  | .str x => some (.inr x)
  | _ => none
def keysD : List D → Option (List Key)
  | [] => some []
  | d :: ds => (keyD d).bind fun k => (keysD ds).map (k :: ·)
section
variable {H : Hp} {Z : Reg} {S : List Addr}
theorem key_of {v : V} {y : D} {k : Key} (t : Tr H Z S v y) (e : keyD y = some k) : v = kV k := by
  cases t with
  | int i => cases e; rfl
  | str x => cases e; rfl
  | non => cases e
  | bl b => cases e
  | lst h t => cases e
  | lstZ z h t => cases e
  | tup h t => cases e
theorem keys_of : ∀ {ys : List D} {vs : List V} {S : List Addr} {ks : List Key}, Trs H Z S vs ys → keysD ys = some ks → vs = ks.map kV
  | [], _, _, ks, h, e => by
    cases h
    cases e
    rfl
  | y :: ys, _, _, ks, h, e => by
    cases h with
    | cons t ts =>
      unfold keysD at e
      cases h1 : keyD y with
      | none => rw [h1] at e; cases e
      | some k =>
        rw [h1] at e
        cases h2 : keysD ys with
        | none => rw [h2] at e; cases e
        | some ks' =>
          rw [h2] at e
          cases e
          rw [List.map_cons, key_of t h1, keys_of ts h2]
end
/-- what a dict says of a key -/
def dgS (s : Sl) (y : D) : Option (Option D) := match s with
  | .dc m => (keyD y).map fun k => valM m k
  | .dt m => match y with
    | .tuple ys => (keysD ys).map fun ks => valM m ks
    | _ => none
  | _ => none
/-- the dict behind d[y] = d -/
def dpS (s : Sl) (y d : D) : Option Sl := match s with
  | .dc m => (keyD y).map fun k => .dc (putM m k d)
  | .dt m => match y with
    | .tuple ys => (keysD ys).map fun ks => .dt (putM m ks d)
    | _ => none
  | _ => none
def dlS : Sl → Nat
  | .dc m => m.length
  | .dt m => m.length
  | _ => 0
def isDc : Option Sl → Prop
  | some (.dc _) => True
  | some (.dt _) => True
  | _ => False
section
variable {C : Cn} {Z : Reg} {S1 S2 : List Addr} {γ : VSt} {Θ : List V} {σ : L2.St} {H H' : Hp} {sl tm : List Sl} {n n' : Int} {v : V} {s : Sl} {y d : D} {i : Nat}
theorem Rel.isDc (R : Rel C γ Θ σ H) (h : isDc γ.sl[i]?) : ∃ a, σ[i]? = some (some (.ref a)) := by
  obtain ⟨Z, S1, S2, X⟩ := R
  cases e : γ.sl[i]? with
  | none => rw [e] at h; exact h.elim
  | some s =>
    rw [e] at h
    obtain ⟨v, T, R, ev, en, _⟩ := X.es.at e
    cases en with
    | dc e t => exact ⟨_, ev⟩
    | dt e t => exact ⟨_, ev⟩
    | _ => exact h.elim
theorem Rel.dget {r : Option D} (R : Rel C ⟨sl, .fz y :: tm, n⟩ (v :: Θ) σ H) (e : sl[i]? = some s) (h : dgS s y = some r) : ∃ a o, σ[i]? = some (some (.ref a)) ∧ DGet H a v o ∧ o.isSome = r.isSome ∧ Rel C ⟨sl, tm, n⟩ Θ σ H ∧ ∀ d, r = some d → ∃ u, o = some u ∧ Rel C ⟨sl, .fz d :: tm, n⟩ (u :: Θ) σ H := by
  have R0 := R.pop
  obtain ⟨Z, S1, S2, X⟩ := R
  have et := X.et
  dsimp only at et
  obtain ⟨T, t⟩ : ∃ T, Tr H Z T v y := by
    cases et with
    | cons e1 e2 =>
      cases e1 with
      | fz t => exact ⟨_, t⟩
  obtain ⟨Z2, A1, A2, X2⟩ := R0
  obtain ⟨w, T2, Rr, ev, en, _⟩ := X2.es.at e
  have fin : ∀ {o : Option V}, ((o = none ∧ r = none) ∨ ∃ u d, o = some u ∧ r = some d ∧ Tr H Z2 [] u d) → o.isSome = r.isSome ∧ Rel C ⟨sl, tm, n⟩ Θ σ H ∧ ∀ d, r = some d → ∃ u, o = some u ∧ Rel C ⟨sl, .fz d :: tm, n⟩ (u :: Θ) σ H := fun {o} q => by
    refine ⟨?_, ⟨_, _, _, X2⟩, fun d ed => ?_⟩
    · rcases q with ⟨rfl, rfl⟩ | ⟨u, d, rfl, rfl, _⟩ <;> rfl
    · rcases q with ⟨rfl, rfl⟩ | ⟨u, d', rfl, rfl, t⟩
      · cases ed
      · cases ed
        exact ⟨u, rfl, Z2, _, _, X2.pushE (Z' := Z2) (.fz t) List.nodup_nil (fun a m => nomatch m) (fun i π z => nomatch z)⟩
  cases en with
  | @dc a kvs m ha dv =>
    cases hk : keyD y with
    | none => simp only [dgS, hk] at h; cases h
    | some k =>
      simp only [dgS, hk, Option.map_some, Option.some.injEq] at h
      subst h
      have ek := key_of t hk
      subst ek
      exact ⟨a, valV kvs k, ev, .inl ⟨kvs, k, .inl ha, rfl, rfl⟩, fin (dv.val k)⟩
  | @dt a kvs m ha dv =>
    cases t with
    | @tup b vs _ ys hb ts =>
      cases hk : keysD ys with
      | none => simp only [dgS, hk] at h; cases h
      | some ks =>
        simp only [dgS, hk, Option.map_some, Option.some.injEq] at h
        subst h
        have ek := keys_of ts hk
        subst ek
        exact ⟨a, valV kvs ks, ev, .inr ⟨kvs, ks, b, .inl ha, rfl, hb, rfl⟩, fin (dv.val ks)⟩
    | _ => cases h
  | _ => cases h
/-- a dict is written -/
theorem RelX.dcSet {a : Addr} {o o' : HO} (X : RelX C Z S1 S2 ⟨sl, tm, n⟩ Θ σ H) (e : sl[i]? = some s) (ev : σ[i]? = some (some (.ref a))) (en : ∀ T, Ent C Z H T (some (.ref a)) s → T = [a]) (ha : H a = some o) (no : ∀ vs, o ≠ .tup vs ∧ o ≠ .lst vs) (nd : datS s = none) (s' : Sl)
    (en' : Ent C Z (upd H a o') [a] (some (.ref a)) s') : Rel C ⟨sl.set i s', tm, n⟩ Θ σ (upd H a o') := by
  obtain ⟨v, T, Rr, ev2, en1, pm, k⟩ := X.es.at e
  have ev3 : v = some (.ref a) := by rw [ev] at ev2; cases ev2; rfl
  subst ev3
  have eT := en _ en1
  subst eT
  have ndS := (List.nodup_append.mp X.nd).1
  have aS : a ∈ S1 := pm.mem_iff.mpr (by simp)
  have kne : ∀ x, x ≠ a → ∀ o, H x = some o → upd H a o' x = some o := fun x hx o e => by rw [upd_ne hx]; exact e
  have kt : ∀ t vs, H t = some (.tup vs) → upd H a o' t = some (.tup vs) := fun t vs et => kne t (fun z => by subst z; rw [ha] at et; cases et; exact (no _).1 rfl) _ et
  have zne : ∀ x, C.tz Z x → x ≠ a := fun x z q => X.nz a (List.mem_append_left _ aS) (q ▸ z)
  have kz0 : ∀ x, C.tz Z x → ∀ o, H x = some o → upd H a o' x = some o := fun x z => kne x (zne x z)
  have kz : ∀ x, Z x → ∀ o, H x = some o → upd H a o' x = some o := fun x z => kz0 x (.inl z)
  have rne : ∀ x ∈ Rr, x ≠ a := fun x m q => by
    have := pm.nodup_iff.mp ndS
    subst q
    exact (List.nodup_append.mp this).2.2 x (by simp) x m rfl
  have s2ne : ∀ x ∈ S2, x ≠ a := fun x m q => (List.nodup_append.mp X.nd).2.2 a aS x m q.symm
  obtain ⟨S', es', pm'⟩ := k (upd H a o') Z [a] (some (.ref a)) s' kt (fun _ z => z) kz (fun x m => kne x (rne x m)) en'
  have eσ : σ.set i (some (.ref a)) = σ := by
    refine List.ext_getElem? fun j => ?_
    by_cases hj : i = j
    · subst hj
      rw [List.getElem?_set_self (List.getElem?_eq_some_iff.mp ev).1, ev]
    · rw [List.getElem?_set_ne hj]
  rw [eσ] at es'
  have pmS : (S' ++ S2).Perm (S1 ++ S2) := List.Perm.append_right S2 (pm'.trans pm.symm)
  refine ⟨Z, S', S2, fun x ox ex mx => ⟨(X.fr x ox ex mx).1, kz0 x (X.fr x ox ex mx).1 _ (X.fr x ox ex mx).2⟩, es', X.et.mono kt (fun _ z => z) kz (fun x m => kne x (s2ne x m)), pmS.nodup_iff.mpr X.nd, fun x m => X.nz x (pmS.mem_iff.mp m), fun p b q => ⟨?_, (X.pu p b q).2.1, fun m => (X.pu p b q).2.2 (pmS.mem_iff.mp m)⟩, fun x z => ?_, X.dj, fun j i' π v e' ev' => ?_⟩
  · exact (X.pu p b q).1.mono (kne p fun z => (X.pu p b q).2.2 (by rw [z]; exact List.mem_append_left _ aS))
  · obtain ⟨ox, ex⟩ := X.ex x z
    exact ⟨ox, kz0 x z _ ex⟩
  · obtain ⟨s0, d', e1, w', g1, g2, g3, g4, wk⟩ := X.al j i' π v e' ev'
    have hj : i ≠ i' := fun z => by
      subst z
      rw [show (⟨sl, tm, n⟩ : VSt).sl = sl from rfl, e] at g1
      cases g1
      rw [nd] at g2
      cases g2
    refine ⟨s0, d', e1, w', (List.getElem?_set_ne hj).trans g1, g2, g3, g4, ?_⟩
    obtain ⟨v0, T0, R0, ev0, en0, pm0, k0⟩ := X.es.at g1
    obtain ⟨w2, Tw, rfl, t0, sbw⟩ := en0.tr g2
    rw [show (⟨sl, tm, n⟩ : VSt).sl = sl from rfl] at g1
    have : w2 = w' := by rw [g4] at ev0; cases ev0; rfl
    subst this
    refine (Tr.part t0 g3 wk).2 _ kt fun x q => kne x ?_
    rcases q with q | q
    · exact zne x (.inl q)
    · intro hx
      subst hx
      obtain ⟨ys, q2⟩ := Tr.dom _ _ _ t0 x q
      rw [ha] at q2
      cases q2
      exact (no _).2 rfl
theorem Rel.dput {u : V} {Θ : List V} {s' : Sl} (R : Rel C ⟨sl, .fz y :: .fz d :: tm, n⟩ (v :: u :: Θ) σ H) (e : sl[i]? = some s) (h : dpS s y d = some s') (hl : dlS s < 10000000) : ∃ a H', σ[i]? = some (some (.ref a)) ∧ DPut H a v u H' ∧ Rel C ⟨sl.set i s', tm, n⟩ Θ σ H' := by
  obtain ⟨Z0, A1, A2, X0⟩ := R
  have et0 := X0.et
  dsimp only at et0
  obtain ⟨T0, t⟩ : ∃ T, Tr H Z0 T v y := by
    cases et0 with
    | cons e1 e2 =>
      cases e1 with
      | fz t => exact ⟨_, t⟩
  have R1 := (Rel.pop ⟨Z0, A1, A2, X0⟩ : Rel C ⟨sl, .fz d :: tm, n⟩ (u :: Θ) σ H)
  obtain ⟨Z, B1, B2, X1⟩ := R1
  obtain ⟨fr, es, et, nd, nz, pu, ex, dj, al⟩ := X1
  dsimp only at es et al pu
  cases et with
  | @cons S T _ _ _ _ e1 e2 =>
    cases e1 with
    | fz tu =>
      have X2 : RelX C Z B1 T ⟨sl, tm, n⟩ Θ σ H := ⟨fr, es, e2, by simpa using nd, fun a m => nz a (by simpa using m), fun p b q => ⟨(pu p b q).1, (pu p b q).2.1, fun m => (pu p b q).2.2 (by simpa using m)⟩, ex, dj, fun k j π u e ev => al (k + 1) j π u (by simpa using e) (by simpa using ev)⟩
      obtain ⟨w, T2, Rr, ev, en, pm, _⟩ := es.at e
      cases en with
      | @dc a kvs m ha dv =>
        cases hk : keyD y with
        | none => simp only [dpS, hk] at h; cases h
        | some k =>
          simp only [dpS, hk, Option.map_some, Option.some.injEq] at h
          subst h
          have ek := key_of t hk
          subst ek
          have hlen : kvs.length < sizeLine := by rw [dv.length]; exact szlt (Nat.le_of_lt hl)
          have aS : a ∈ B1 := pm.mem_iff.mpr (by simp)
          have kt : ∀ t vs, H t = some (.tup vs) → upd H a (.dK (putK kvs k u)) t = some (.tup vs) := fun t vs et => by
            rw [upd_ne (show t ≠ a from fun z => by subst z; rw [ha] at et; cases et)]
            exact et
          have kz : ∀ x, Z x → ∀ o, H x = some o → upd H a (.dK (putK kvs k u)) x = some o := fun x z o e => by
            rw [upd_ne (show x ≠ a from fun q => X2.nz a (List.mem_append_left _ aS) (.inl (q ▸ z)))]
            exact e
          exact ⟨a, _, ev, .inl ⟨kvs, k, ha, rfl, hlen, rfl⟩, X2.dcSet e ev (fun T q => by cases q; rfl) ha (fun vs => ⟨(fun z => nomatch z), (fun z => nomatch z)⟩) rfl _ (.dc upd_same ((dv.put tu).mono kt (fun _ z => z) kz))⟩
      | @dt a kvs m ha dv =>
        cases t with
        | @tup b vs _ ys hb ts =>
          cases hk : keysD ys with
          | none => simp only [dpS, hk] at h; cases h
          | some ks =>
            simp only [dpS, hk, Option.map_some, Option.some.injEq] at h
            subst h
            have ek := keys_of ts hk
            subst ek
            have hlen : kvs.length < sizeLine := by rw [dv.length]; exact szlt (Nat.le_of_lt hl)
            have aS : a ∈ B1 := pm.mem_iff.mpr (by simp)
            have kt : ∀ t vs, H t = some (.tup vs) → upd H a (.dT (putK kvs ks u)) t = some (.tup vs) := fun t vs et => by
              rw [upd_ne (show t ≠ a from fun z => by subst z; rw [ha] at et; cases et)]
              exact et
            have kz : ∀ x, Z x → ∀ o, H x = some o → upd H a (.dT (putK kvs ks u)) x = some o := fun x z o e => by
              rw [upd_ne (show x ≠ a from fun q => X2.nz a (List.mem_append_left _ aS) (.inl (q ▸ z)))]
              exact e
            exact ⟨a, _, ev, .inr ⟨kvs, ks, b, ha, rfl, hb, hlen, rfl⟩, X2.dcSet e ev (fun T q => by cases q; rfl) ha (fun vs => ⟨(fun z => nomatch z), (fun z => nomatch z)⟩) rfl _ (.dt upd_same ((dv.put tu).mono kt (fun _ z => z) kz))⟩
        | _ => cases h
      | _ => cases h
theorem Rel.dnew {p : Addr} {o : HO} (R : Rel C ⟨sl, tm, n⟩ Θ σ H) (hp : H p = none) (en : ∀ Z, Ent C Z (upd H p o) [p] (some (.ref p)) s) (na : ∀ i π, s ≠ .al i π) : Rel C ⟨sl, s :: tm, n⟩ (.ref p :: Θ) σ (upd H p o) := by
  have np : ∀ a, (∃ o, H a = some o) → a ≠ p := fun a ⟨o, e⟩ z => by rw [z, hp] at e; cases e
  obtain ⟨Z, S1, S2, X⟩ := R
  have sm := same_upd (o := o) hp
  have h1 : RelX C Z S1 S2 ⟨sl, tm, n⟩ Θ σ (upd H p o) := by
    refine ⟨fun a o e m => ⟨(X.fr a o e m).1, sm a o (X.fr a o e m).2⟩, X.es.mono (fun t vs e => sm t _ e) (fun _ z => z) (fun a _ o e => sm a o e) (fun a _ o e => sm a o e), X.et.mono (fun t vs e => sm t _ e) (fun _ z => z) (fun a _ o e => sm a o e) (fun a _ o e => sm a o e), X.nd, X.nz, fun q b e => ⟨(X.pu q b e).1.mono (sm q), (X.pu q b e).2⟩, fun a z => ?_, X.dj, fun k j π u e ev => ?_⟩
    · obtain ⟨o, e⟩ := X.ex a z
      exact ⟨o, sm a o e⟩
    · obtain ⟨s, d', e', w, g1, g2, g3, g4, wk⟩ := X.al k j π u e ev
      obtain ⟨w', T', ew, t, sub⟩ := X.slot g1 g2
      rw [g4] at ew
      cases ew
      exact ⟨s, d', e', w, g1, g2, g3, g4, (Tr.part t g3 wk).2 _ (fun t vs e => sm t _ e) fun a _ o e => sm a o e⟩
  refine ⟨Z, S1, _, h1.pushE (Z' := Z) (en Z) (by simp) (fun a m => ?_) na⟩
  cases List.mem_singleton.mp m
  refine ⟨fun q => ?_, fun z => np _ (X.ex _ z) rfl, fun q b e z => ?_⟩
  · rcases List.mem_append.mp q with q | q
    · exact np _ (X.es.dom _ q) rfl
    · exact np _ (X.et.dom _ q) rfl
  · obtain ⟨x, y, w, e2, _⟩ := (X.pu q b e).1
    exact np _ ⟨_, e2⟩ z.symm
end
section
variable {t ta tb : TE} {k ka kb : KE}
def kDNew : KE := fun γ q => q ⟨γ.sl, .dc [] :: γ.tm, γ.n⟩
def kDNewT : KE := fun γ q => q ⟨γ.sl, .dt [] :: γ.tm, γ.n⟩
theorem so_dnew : SoE xc tDNewK kDNew := fun γ Θ σ H Q q R hk w => fun p hp => w _ _ _ hk (R.dnew hp (fun Z => .dc upd_same .nil) fun i π z => nomatch z)
theorem so_dnewT : SoE xc tDNewT kDNewT := fun γ Θ σ H Q q R hk w => fun p hp => w _ _ _ hk (R.dnew hp (fun Z => .dt upd_same .nil) fun i π z => nomatch z)
theorem okS_dc {m : List (Key × D)} : okS (.dc m) = true := rfl
theorem okS_dt {m : List (List Key × D)} : okS (.dt m) = true := rfl
theorem noAl_dc {i : Nat} {m : List (Key × D)} {tm : List Sl} : noAl i (.dc m :: tm) = noAl i tm := by simp [noAl]
theorem noAl_dt {i : Nat} {m : List (List Key × D)} {tm : List Sl} : noAl i (.dt m :: tm) = noAl i tm := by simp [noAl]
def topK (γ : VSt) (q : D → VSt → Prop) : Prop := match γ.tm with
  | .fz y :: tm => q y ⟨γ.sl, tm, γ.n⟩
  | _ => False
/-- d[y] -/
def kDGet (i : Nat) (ky : KE) : KE := fun γ q => isDc γ.sl[i]? ∧ ky γ fun γ1 => topK γ1 fun y γ2 => (γ2.sl[i]?).elim False fun s => (dgS s y).elim False fun r => ∃ d, r = some d ∧ q ⟨γ2.sl, .fz d :: γ2.tm, γ2.n⟩
theorem so_dget {i : Nat} (h : SoE xc t k) : SoE xc (tDGet (tVar i) t) (kDGet i k) := fun γ Θ σ H Q q R hk w => by
  obtain ⟨hd, hk⟩ := hk
  obtain ⟨a, ea⟩ := R.isDc hd
  refine ⟨_, ea, h γ Θ σ H _ _ R hk fun γ1 v H1 hk1 R1 => ?_⟩
  obtain ⟨sl, tm, n⟩ := γ1
  unfold topK at hk1
  dsimp only at hk1
  split at hk1
  · rename_i y tm
    obtain ⟨s, es, hk2⟩ := elimF hk1
    obtain ⟨r, ed, d, er, hq⟩ := elimF hk2
    obtain ⟨a', o, e1, g, _, _, up⟩ := R1.dget es ed
    obtain ⟨u, rfl, R2⟩ := up d er
    rw [ea] at e1
    cases e1
    exact ⟨a, u, rfl, g, w _ _ _ hq R2⟩
  · exact hk1.elim
/-- y in d -/
def kDIn (neg : Bool) (ky : KE) (i : Nat) : KE := fun γ q => ky γ fun γ1 => topK γ1 fun y γ2 => (γ2.sl[i]?).elim False fun s => (dgS s y).elim False fun r => q ⟨γ2.sl, .fz (.bool (neg != r.isSome)) :: γ2.tm, γ2.n⟩
theorem din_core {C : Cn} {γ1 : VSt} {v : V} {Θ : List V} {σ : L2.St} {H1 : Hp} {i : Nat} {neg : Bool} {q : VSt → Prop} (R1 : Rel C γ1 (v :: Θ) σ H1) (hk1 : topK γ1 fun y γ2 => (γ2.sl[i]?).elim False fun s => (dgS s y).elim False fun r => q ⟨γ2.sl, .fz (.bool (neg != r.isSome)) :: γ2.tm, γ2.n⟩) :
    ∃ a o γ2, σ[i]? = some (some (.ref a)) ∧ DGet H1 a v o ∧ q γ2 ∧ Rel C γ2 (.bl (neg != o.isSome) :: Θ) σ H1 := by
  obtain ⟨sl, tm, n⟩ := γ1
  unfold topK at hk1
  dsimp only at hk1
  split at hk1
  · rename_i y tm
    obtain ⟨s, es, hk2⟩ := elimF hk1
    obtain ⟨r, er, hq⟩ := elimF hk2
    obtain ⟨a, o, e1, g, eo, R2, _⟩ := R1.dget es er
    rw [← eo] at hq
    exact ⟨a, o, _, e1, g, hq, R2.push fun Z => .bl _⟩
  · exact hk1.elim
theorem so_din {i : Nat} (h : SoE xc t k) : SoE xc (tDIn t (tVar i)) (kDIn false k i) := fun γ Θ σ H Q q R hk w => h γ Θ σ H _ _ R hk fun γ1 v H1 hk1 R1 => by
  obtain ⟨a, o, γ2, e1, g, hq, R2⟩ := din_core R1 hk1
  refine ⟨_, e1, a, o, rfl, g, w _ _ _ hq ?_⟩
  simpa using R2
theorem so_dnotin {i : Nat} (h : SoE xc t k) : SoE xc (tDNotIn t (tVar i)) (kDIn true k i) := fun γ Θ σ H Q q R hk w => h γ Θ σ H _ _ R hk fun γ1 v H1 hk1 R1 => by
  obtain ⟨a, o, γ2, e1, g, hq, R2⟩ := din_core R1 hk1
  refine ⟨_, e1, a, o, rfl, g, w _ _ _ hq ?_⟩
  have : (true != o.isSome) = !o.isSome := by cases o <;> rfl
  rw [← this]
  exact R2
/-- d[y] = v -/
def kDPut (i : Nat) (kv ky : KE) : KS := fun γ e => kv γ fun γ1 => match γ1.tm with
  | .fz d :: _ => isDc γ1.sl[i]? ∧ ky γ1 fun γ2 => match γ2.tm with
    | .fz y :: .fz d :: tm => (γ2.sl[i]?).elim False fun s => (dpS s y d).elim False fun s' => dlS s < 10000000 ∧ e.nx ⟨γ2.sl.set i s', tm, γ2.n⟩
    | _ => False
  | _ => False
theorem so_dput {i : Nat} (hv : SoE xc ta ka) (hy : SoE xc tb kb) : SoS xc (sDPut (tVar i) tb ta) (kDPut i ka kb) := fun γ Θ σ H De e R hk w => hv γ Θ σ H _ _ R hk fun γ1 u H1 hk1 R1 => by
  obtain ⟨sl, tm, n⟩ := γ1
  dsimp only at hk1
  split at hk1
  · obtain ⟨hd, hk1⟩ := hk1
    obtain ⟨a, ea⟩ := R1.isDc hd
    refine ⟨_, ea, hy _ _ σ H1 _ _ R1 hk1 fun γ2 v H2 hk2 R2 => ?_⟩
    obtain ⟨sl, tm, n⟩ := γ2
    dsimp only at hk2
    split at hk2
    · rename_i y d tm
      obtain ⟨s, es, hk3⟩ := elimF hk2
      obtain ⟨s', es', hl, hq⟩ := elimF hk3
      obtain ⟨a', H3, e1, dp, R3⟩ := R2.dput es es' hl
      rw [ea] at e1
      cases e1
      exact ⟨a, H3, rfl, dp, w.nx _ _ _ hq R3⟩
    · exact hk2.elim
  · exact hk1.elim
/-- a, b, c = x, y, z -/
def kPar3 (i j l : Nat) (ka : KE) : KS := fun γ e => ka γ fun γ1 => match γ1.tm with
  | s3 :: s2 :: s1 :: tm => (okS s3 = true ∧ okS s2 = true ∧ okS s1 = true ∧ noAl i tm = true ∧ noAl j tm = true ∧ noAl l tm = true) ∧ e.nx ⟨((γ1.sl.set i s1).set j s2).set l s3, tm, γ1.n⟩
  | _ => False
theorem noAl_ok {s : Sl} {tm : List Sl} {i : Nat} (h : okS s = true) (na : noAl i tm = true) : noAl i (s :: tm) = true := by
  unfold noAl at na ⊢
  rw [List.all_cons, na, Bool.and_true]
  cases s <;> first | rfl | cases h
theorem so_par3 {i j l : Nat} {ts : TA} (hij : i ≠ j) (hil : i ≠ l) (hjl : j ≠ l) (a : SoA xc 3 ts ka) : SoS xc (tPar3 i j l ts) (kPar3 i j l ka) := fun γ Θ σ H De e R hk w => a γ Θ σ H _ _ R hk fun γ1 vs H1 el hk1 R1 => by
  obtain ⟨sl, tm, n⟩ := γ1
  dsimp only at hk1
  match vs, el with
  | [v, u, x], _ =>
    split at hk1
    · rename_i s3 s2 s1 tm
      obtain ⟨⟨q1, q2, q3, q4, q5, q6⟩, hq⟩ := hk1
      have R2 : Rel C ⟨sl, s3 :: s2 :: s1 :: tm, n⟩ (x :: u :: v :: Θ) σ H1 := R1
      have R3 := ((R2.set (i := l) (okS_ne q1) (noAl_ok q2 (noAl_ok q3 q6))).set (i := j) (okS_ne q2) (noAl_ok q3 q5)).set (i := i) (okS_ne q3) q4
      have e1 : ∀ {α : Type} (L : List α) (a b c : α), ((L.set l a).set j b).set i c = ((L.set i c).set j b).set l a := fun L a b c => by
        rw [List.set_comm _ _ (Ne.symm hjl), List.set_comm _ _ (Ne.symm hil), List.set_comm _ _ (Ne.symm hij)]
      rw [e1, e1] at R3
      exact ⟨v, u, x, rfl, w.nx _ _ _ hq R3⟩
    · exact hk1.elim
end
end G
namespace G
open PySem PySem.Spec PyProof.Rows L2
variable {C : Cn} {xc : XC C}
section
variable {C : Cn} {Z : Reg} {S1 S2 : List Addr} {Θ : List V} {σ : L2.St} {H : Hp} {sl tm : List Sl} {n : Int} {v : V} {d : D} {i j : Nat} {b : Bool}
theorem Rel.sink (R : Rel C ⟨sl, tm, n⟩ Θ σ H) (e : sl[i]? = some (.ow b d)) (ej : tm[j]? = some (.al i [])) (na : noAl i (tm.set j .jk) = true) : Rel C ⟨sl.set i .jk, tm.set j (.ow b d), n⟩ Θ σ H := by
  obtain ⟨Z, S1, S2, h⟩ := R
  have et := h.et
  have es := h.es
  dsimp only at et es
  obtain ⟨v, T, Rs, ev, en, pm, k⟩ := es.at e
  obtain ⟨u, T0, Rt, eu, en0, pm0, k0⟩ := et.at ej
  have eT0 : T0 = [] := by cases en0; rfl
  subst eT0
  rw [List.getElem?_map] at eu
  obtain ⟨u', eu', rfl⟩ := Option.map_eq_some_iff.mp eu
  obtain ⟨s, d', e', w, g1, g2, g3, g4, wk⟩ := h.al j i [] u' ej eu'
  have : w = u' := by cases wk; rfl
  subst this
  have ev2 : v = some w := by rw [g4] at ev; cases ev; rfl
  subst ev2
  obtain ⟨S1', es', pm'⟩ := k H Z [] (some w) .jk (fun _ _ h => h) (fun _ z => z) (fun _ _ _ h => h) (fun _ _ _ h => h) (.jk _)
  obtain ⟨S2', et', pm2⟩ := k0 H Z T (some w) (.ow b d) (fun _ _ h => h) (fun _ z => z) (fun _ _ _ h => h) (fun _ _ _ h => h) en
  have eσ : σ.set i (some w) = σ := by
    refine List.ext_getElem? fun l => ?_
    by_cases hl : i = l
    · subst hl
      rw [List.getElem?_set_self (List.getElem?_eq_some_iff.mp ev).1, ev]
    · rw [List.getElem?_set_ne hl]
  have eΘ : (Θ.map some).set j (some w) = Θ.map some := by
    refine List.ext_getElem? fun l => ?_
    by_cases hl : j = l
    · subst hl
      rw [List.getElem?_set_self (by rw [List.length_map]; exact (List.getElem?_eq_some_iff.mp eu').1), List.getElem?_map, eu']
      rfl
    · rw [List.getElem?_set_ne hl]
  rw [eσ] at es'
  rw [eΘ] at et'
  have q1 : S1'.Perm Rs := by simpa using pm'
  have q0 : S2.Perm Rt := by simpa using pm0
  have pmA : (S1' ++ S2').Perm (S1 ++ S2) := by
    have a1 : (S1' ++ S2').Perm (Rs ++ (T ++ Rt)) := q1.append pm2
    have a2 : (S1 ++ S2).Perm ((T ++ Rs) ++ Rt) := pm.append q0
    refine a1.trans (List.Perm.trans ?_ a2.symm)
    rw [← List.append_assoc]
    exact List.Perm.append_right Rt List.perm_append_comm
  refine ⟨Z, S1', S2', h.fr, es', et', pmA.nodup_iff.mpr h.nd, fun a m => h.nz a (pmA.mem_iff.mp m), fun p b q => ⟨(h.pu p b q).1, (h.pu p b q).2.1, fun m => (h.pu p b q).2.2 (pmA.mem_iff.mp m)⟩, h.ex, h.dj, fun l i' π x e1 e2 => ?_⟩
  dsimp only at e1
  by_cases hl : j = l
  · subst hl
    rw [List.getElem?_set_self (List.getElem?_eq_some_iff.mp ej).1] at e1
    cases e1
  · rw [List.getElem?_set_ne hl] at e1
    obtain ⟨s1, d1, f1, w1, k1, k2, k3, k4, wk1⟩ := h.al l i' π x e1 e2
    have hne : i ≠ i' := al_set na (k := l) (π := π) (by rw [List.getElem?_set_ne hl]; exact e1)
    exact ⟨s1, d1, f1, w1, (List.getElem?_set_ne hne).trans k1, k2, k3, k4, wk1⟩
end
section
variable {ts : TA} {ka : KE} {n : Nat}
/-- the name i, read at depth j of the stack, is given away there -/
def kSink (j i : Nat) (ka : KE) : KE := fun γ q => ka γ fun γ1 => match γ1.sl[i]? with
  | some (.ow b d) => γ1.tm[j]? = some (.al i []) ∧ noAl i (γ1.tm.set j .jk) = true ∧ q ⟨γ1.sl.set i .jk, γ1.tm.set j (.ow b d), γ1.n⟩
  | some (.fz d) => γ1.tm[j]? = some (.fz d) ∧ q γ1
  | _ => False
theorem so_sink {j i : Nat} (h : SoA xc n ts ka) : SoA xc n ts (kSink j i ka) := fun γ Θ σ H Q q R hk w => h γ Θ σ H _ _ R hk fun γ1 vs H1 el hk1 R1 => by
  obtain ⟨sl, tm, m⟩ := γ1
  dsimp only at hk1
  split at hk1
  · rename_i b d e
    exact w _ _ _ el hk1.2.2 (R1.sink e hk1.1 hk1.2.1)
  · exact w _ _ _ el hk1.2 R1
  · exact hk1.elim
end
end G
namespace G
open PySem PySem.Spec PyProof.Rows L2
variable {C : Cn} {xc : XC C}
/-- a dict's entries, whatever its keys are -/
def DSz (h : Heap) (a : Addr) (n : Nat) : Prop := ∃ o es ep, h.get? a = some o ∧ o.ExactDict ∧ o.data = .dict es ep ∧ es.size = n
section
variable {prog : Program} {w : World} {A : Around} {E : Value → Shared → Prop} {s : Shared} {a : Addr} {n : Nat}
theorem meets_lenD (a : Addr) (hd : (a == sysModules) = false) : MeetsIn prog w (Builtin.«dict.__len__» ⟨[.ref a], []⟩) fun _ R s => ∃ n, DSz s.heap a n ∧ R (.ok (.ret (.int n s.toks))) { s with toks := s.toks + 1 } :=
  .of_wp fun A R s ⟨n, ⟨o, es, ep, e1, _, e2, e3⟩, h⟩ => by
    show wpAny _ _ (dictSize a >>= fun _ => _) _ _ s
    unfold dictSize
    refine wpAny_bind (wpAny_bind ?_)
    refine wpAny_dictEntries e1 e2 ?_
    refine wpAny_pure ?_
    refine wpAny_bind ?_
    refine wpAny_pendingCount_other hd ?_
    refine wpAny_ret_mkInt ?_
    rw [Nat.add_zero, e3]
    exact h
theorem DSz.ty (m : DSz s.heap a n) : s.TypeIs (.ref a) "dict" :=
  let ⟨o, _, _, e1, e2, _⟩ := m
  ⟨o, e1, e2.1⟩
theorem body_lenD {Q : Value → Shared → Prop} (hd : (a == sysModules) = false) (m : DSz s.heap a n) (hn : (n : Int) < 2 ^ 63) (h : Q (.int n (s.toks + 1)) { s with toks := s.toks + 1 + 1 }) :
    wpAny (model prog w) A (Builtin.«len» ⟨[.ref a], []⟩) (fun f s' => ∃ r, f = .done (.ret r) ∧ Q r s') E s := by
  unfold Builtin.«len»
  refine wpAny_bind (m := oneArg "len" _) ?_
  refine wpAny_pure ?_
  refine wpAny_bind (m := callSpecial? (.ref a) (Str.ofString "__len__")) ?_
  refine wpAny_callSpecial?_slot (name := Str.ofString "__len__") m.ty PySem.F.slot_dict_len ?_
  refine call_meetsIn PySem.F.slot_dict_len m.ty PySem.F.entry_dict_len ?_ (meets_lenD a hd) ⟨n, m, ?_⟩
  · exact PySem.F.args_dict_len_1 _
  show wpAny _ _ _ _ _ { s with toks := s.toks + 1 }
  refine wpAny_bind ?_
  refine wpAny_holding (wpAny_pure ?_)
  refine wpAny_bind ?_
  refine wpAny_letGo ?_
  show wpAny _ _ (if (n : Int) < 0 then _ else _) _ _ _
  rw [if_neg (by omega)]
  show wpAny _ _ (if (n : Int) ≥ 2 ^ 63 then _ else _) _ _ _
  rw [if_neg (by omega)]
  refine wpAny_bind ?_
  refine wpAny_mkInt ?_
  exact wpAny_pure ⟨_, rfl, h⟩
end
theorem dsz_dk {X : Cx} {pins : List (Addr × Obj)} {σ : L2.St} {H : Hp} {s : Shared} {a : Addr} {kvs : List (Key × V)} (I : Inv X pins σ H s) (e : H a = some (.dK kvs)) : DSz s.heap a kvs.length ∧ kvs.length ≤ sizeLine ∧ (a == sysModules) = false := by
  obtain ⟨z, hd, vs, rel, o, es, ep, e1, e2, e3, _, hp, _⟩ := dk_of I.hok e
  refine ⟨⟨o, es, ep, e1, e2, e3, ?_⟩, z, hd⟩
  rw [rel.length, ← hp.length]
  simp
theorem dsz_dt {X : Cx} {pins : List (Addr × Obj)} {σ : L2.St} {H : Hp} {s : Shared} {a : Addr} {kvs : List (List Key × V)} (I : Inv X pins σ H s) (e : H a = some (.dT kvs)) : DSz s.heap a kvs.length ∧ kvs.length ≤ sizeLine ∧ (a == sysModules) = false := by
  obtain ⟨z, hd, xs, rel, o, es, ep, e1, e2, e3, he, _⟩ := dt_of I.hok e
  refine ⟨⟨o, es, ep, e1, e2, e3, ?_⟩, z, hd⟩
  rw [size_of_entries he]
  exact (Paired.length rel).symm
def rLenD : List V → Hp → VK → Prop := fun xs H Q => ∃ a n, xs = [.ref a] ∧ ((∃ kvs : List (Key × V), H a = some (.dK kvs) ∧ kvs.length = n) ∨ ∃ kvs : List (List Key × V), H a = some (.dT kvs) ∧ kvs.length = n) ∧ Q (.int n) H
theorem call_lenDT {X : Cx} : CallR X (.builtin "len") rLenD := by
  intro pins s σ H xs us Q I r h
  obtain ⟨a, n, rfl, hq, q⟩ := h
  obtain ⟨u, rfl, rx⟩ := vals1 r
  cases rx
  have hn := line63
  obtain ⟨dz, z, hd⟩ : DSz s.heap a n ∧ n ≤ sizeLine ∧ (a == sysModules) = false := by
    rcases hq with ⟨kvs, e, rfl⟩ | ⟨kvs, e, rfl⟩
    · exact dsz_dk I e
    · exact dsz_dt I e
  refine Calls.call_function_entry kind_len plain_len entry_len (args_len1 _) ?_
  refine body_lenD hd dz (by omega) ?_
  exact ⟨.int n, H, I.tok _, ⟨s.toks + 1, rfl⟩, q⟩
section
variable {C : Cn} {Z : Reg} {S1 S2 : List Addr} {γ : VSt} {Θ : List V} {σ : L2.St} {H : Hp} {i : Nat}
def kLenD (i : Nat) : KE := fun γ q => match γ.sl[i]? with
  | some (.dc m) => q ⟨γ.sl, .fz (.int m.length) :: γ.tm, γ.n⟩
  | some (.dt m) => q ⟨γ.sl, .fz (.int m.length) :: γ.tm, γ.n⟩
  | _ => False
theorem so_lenD {i : Nat} : SoE xc (tCB rLenD (tCons (tVar i) tNil)) (kLenD i) := fun γ Θ σ H Q q R hk w => by
  have R0 := R
  obtain ⟨Z, S1, S2, X⟩ := R
  unfold kLenD at hk
  cases e : γ.sl[i]? with
  | none => rw [e] at hk; exact hk.elim
  | some s =>
    rw [e] at hk
    obtain ⟨v, T, R, ev, en, _⟩ := X.es.at e
    cases en with
    | dc ha dv => exact ⟨_, ev, _, _, rfl, .inl ⟨_, ha, dv.length⟩, w _ _ _ hk (R0.push fun Z => .int _)⟩
    | dt ha dv => exact ⟨_, ev, _, _, rfl, .inr ⟨_, ha, dv.length⟩, w _ _ _ hk (R0.push fun Z => .int _)⟩
    | _ => exact hk.elim
end
end G
namespace G
open PySem PySem.Spec PyProof.Rows L2
variable {C : Cn} {xc : XC C}
section
variable {C : Cn} {sl tm : List Sl} {n : Int} {v : V} {Θ : List V} {σ : L2.St} {H : Hp} {ds : List D}
/-- a whole list that is given away becomes a tuple -/
theorem Rel.tupO (R : Rel C ⟨sl, .ow true (.list ds) :: tm, n⟩ (v :: Θ) σ H) : ∃ a vs, v = .ref a ∧ H a = some (.lst vs) ∧ ∀ p, H p = none → Rel C ⟨sl, own (.tuple ds) :: tm, n⟩ (.ref p :: Θ) σ (upd H p (.tup vs)) := by
  have ⟨Z, S1, S2, X⟩ := R
  obtain ⟨A, B, es, r, f⟩ := RelX.popF (ss := [.ow true (.list ds)]) (us := [v]) X rfl
  cases es with
  | cons e1 e2 =>
    cases e2
    cases e1 with
    | ow t =>
      cases t with
      | @lst a vs S' _ ha ts =>
        refine ⟨a, vs, rfl, ha, fun p hp => ?_⟩
        have sm := same_upd (o := .tup vs) hp
        obtain ⟨Z', S1', S2', X'⟩ := R.same sm
        obtain ⟨A', B', es', r', f'⟩ := RelX.popF (ss := [.ow true (.list ds)]) (us := [.ref a]) X' rfl
        cases es' with
        | cons e1 e2 =>
          cases e2
          cases e1 with
          | ow t' =>
            cases t' with
            | @lst _ vs' S'' _ ha' ts' =>
              have := sm _ _ ha
              rw [ha'] at this
              cases this
              have en : Ent C Z' (upd H p (.tup vs)) S'' (some (.ref p)) (.ow true (.tuple ds)) := .ow (.tup upd_same ts')
              have R2 := r'.pushF f' (A' := S'') (Dr := [a]) (by simpa using (List.perm_append_comm (l₁ := [a]) (l₂ := S''))) en (fun i π z => nomatch z)
              unfold own
              cases hn : nolist (.tuple ds) with
              | false => exact ⟨_, _, _, R2⟩
              | true =>
                rw [nolist] at hn
                have q := Trs.nolist (Z' := Z') _ _ _ ts' hn
                exact ⟨_, _, _, r'.pushF f' (A' := []) (Dr := [a] ++ S'') (by simp) (.fz (.tup upd_same q.2)) (fun i π z => nomatch z)⟩
            | lstZ h0 _ _ => exact h0.elim
      | lstZ h0 _ _ => exact h0.elim
theorem Rel.tupS {Z : Reg} {S1 S2 : List Addr} {us : List V} {p : Addr} (h : RelX C Z S1 S2 ⟨sl, tm, n⟩ Θ σ H) (t : Trs H Z [] us ds) (hp : H p = none) : Rel C ⟨sl, .fz (.tuple ds) :: tm, n⟩ (.ref p :: Θ) σ (upd H p (.tup us)) := by
  have sm := same_upd (o := .tup us) hp
  have R1 : Rel C ⟨sl, .fz (.list []) :: tm, n⟩ (.ref p :: Θ) σ H → False → False := fun _ z => z
  have h1 : RelX C Z S1 S2 ⟨sl, tm, n⟩ Θ σ (upd H p (.tup us)) := by
    refine ⟨fun a o e m => ⟨(h.fr a o e m).1, sm a o (h.fr a o e m).2⟩, h.es.mono (fun t vs e => sm t _ e) (fun _ z => z) (fun a _ o e => sm a o e) (fun a _ o e => sm a o e), h.et.mono (fun t vs e => sm t _ e) (fun _ z => z) (fun a _ o e => sm a o e) (fun a _ o e => sm a o e), h.nd, h.nz, fun q b e => ⟨(h.pu q b e).1.mono (sm q), (h.pu q b e).2⟩, fun a z => ?_, h.dj, fun k j π u e ev => ?_⟩
    · obtain ⟨o, e⟩ := h.ex a z
      exact ⟨o, sm a o e⟩
    · obtain ⟨s, d', e', w, g1, g2, g3, g4, wk⟩ := h.al k j π u e ev
      obtain ⟨w', T', ew, t, sub⟩ := h.slot g1 g2
      rw [g4] at ew
      cases ew
      exact ⟨s, d', e', w, g1, g2, g3, g4, (Tr.part t g3 wk).2 _ (fun t vs e => sm t _ e) fun a _ o e => sm a o e⟩
  have t' : Trs (upd H p (.tup us)) Z [] us ds := Trs.mono (fun t vs e => sm t _ e) (fun _ z => z) (fun a _ o e => sm a o e) _ _ _ t fun a m => nomatch m
  exact ⟨_, _, _, h1.pushE (Z' := Z) (.fz (.tup upd_same t')) List.nodup_nil (fun a m => nomatch m) (fun i π z => nomatch z)⟩
end
section
variable {K : PySem.W.Frag} {ka : KE}
def kTupOf (ka : KE) : KE := fun γ q => ka γ fun γ1 => match γ1.tm with
  | .ow true (.list ds) :: tm => q ⟨γ1.sl, own (.tuple ds) :: tm, γ1.n⟩
  | s :: tm => (shr γ1.sl s true).elim False fun ds => q ⟨γ1.sl, .fz (.tuple ds) :: tm, γ1.n⟩
  | _ => False
theorem so_tupOf {ts : TA} (h : SoA xc 1 ts ka) : SoE xc (tCB (fun xs H Q => ∃ p ys, xs = [.ref p] ∧ ((SqL K H p ys ∧ ∀ l, H l = none → Q (.ref l) (upd H l (.tup ys))) ∨ (SqT K H p ys ∧ Q (.ref p) H))) ts) (kTupOf ka) := fun γ Θ σ H Q q R hk w => h γ Θ σ H _ _ R hk fun γ1 vs H1 el hk1 R1 => by
  match vs, el, R1 with
  | [v], _, R1 =>
    obtain ⟨sl, tm, j⟩ := γ1
    dsimp only at hk1
    split at hk1
    · rename_i ds tm
      obtain ⟨a, us, rfl, ha, k⟩ := Rel.tupO R1
      exact ⟨a, us, rfl, .inl ⟨SqL.of ha, fun p hp => w _ _ _ hk1 (k p hp)⟩⟩
    · rename_i s tm _
      obtain ⟨ds, e, hq⟩ := elimF hk1
      obtain ⟨a, us, Z, S1, S2, rfl, ha, X, ts⟩ := Rel.shr R1 (l := true) e
      exact ⟨a, us, rfl, .inl ⟨SqL.of ha, fun p hp => w _ _ _ hq (Rel.tupS X ts hp)⟩⟩
    · exact hk1.elim
theorem keysD_ints : ∀ ns : List Int, keysD (ns.map PyData.int) = some (ns.map Sum.inl)
  | [] => rfl
  | n :: ns => by
    rw [List.map_cons, keysD, keysD_ints ns]
    rfl
end
end G
namespace G
open PySem PySem.Spec PyProof.Rows L2
variable {C : Cn} {xc : XC C}
abbrev tame (d : D) : Prop := SeqAt.shaped d = true ∧ d.depth ≤ 60
def vInD (neg : Bool) : D → D → (D → Prop) → Prop := fun d1 d2 q => match d2 with
  | .list es => tame d1 ∧ PyData.canLayAll0 es = true ∧ q (.bool (neg ^^ es.any fun e => PyData.eqv e d1))
  | .tuple es => tame d1 ∧ PyData.canLayAll0 es = true ∧ q (.bool (neg ^^ es.any fun e => PyData.eqv e d1))
  | _ => False
def vIdxD : List D → (D → Prop) → Prop := fun ds q => match ds with
  | [.list es, d] => ∃ j : Nat, tame d ∧ PyData.canLayAll0 es = true ∧ (∃ e, es[j]? = some e ∧ PyData.eqv e d = true) ∧ (∀ (m : Nat) (e : D), m < j → es[m]? = some e → PyData.eqv e d = false) ∧ j < 10000000 ∧ q (.int (j : Nat))
  | _ => False
end G
namespace G
open PySem PySem.Spec PyProof.Rows L2
variable {C : Cn} {xc : XC C}
theorem vals_ints : ∀ {ns : List Int} {us : List Value}, Vals (ns.map V.int) us → IntsAre us ns
  | [], _, h => by cases h; exact .nil
  | n :: ns, _, h => by
    cases h with
    | cons r t =>
      obtain ⟨k, rfl⟩ := r
      exact .cons n k (vals_ints t)
section
variable {K : PySem.W.Frag} {t : TE} {k : KE}
/-- len(set(..)) of numbers -/
def kLenSet (ke : KE) : KE := fun γ q => ke γ fun γ1 => (datN γ1.sl 1 γ1.tm).elim False fun x => match x.1 with
  | [.list es] => (intsOf es).elim False fun ns => ns.length ≤ 4000 ∧ ∀ out : List Int, out.Nodup → (∀ k, k ∈ out ↔ k ∈ ns) → q ⟨γ1.sl, .fz (.int (out.length : Nat)) :: x.2, γ1.n⟩
  | _ => False
end
section
variable {ta tb : TE} {ka kb : KE}
/-- a list of numbers, so many times -/
def kRepN (ka kb : KE) : KE := fun γ q => ka γ fun γ1 => kb γ1 fun γ2 => match γ2.tm with
  | .fz (.int j) :: s :: tm => (shr γ2.sl s true).elim False fun ds => (intsOf ds).elim False fun ns => (-1000000 ≤ j ∧ j ≤ 1000000 ∧ ns.length ≤ 1) ∧ q ⟨γ2.sl, .ow true (dI (List.replicate j.toNat ns).flatten) :: tm, γ2.n⟩
  | _ => False
theorem flat_map (ns : List Int) : ∀ m : Nat, (List.replicate m (ns.map V.int)).flatten = (List.replicate m ns).flatten.map V.int
  | 0 => rfl
  | m + 1 => by
    rw [List.replicate_succ, List.replicate_succ, List.flatten_cons, List.flatten_cons, List.map_append, flat_map ns m]
theorem so_repN (a : SoE xc ta ka) (b : SoE xc tb kb) : SoE xc (tOp rRep ta tb) (kRepN ka kb) := fun γ Θ σ H Q q R hk w => a γ Θ σ H _ _ R hk fun γ1 v1 H1 hk1 R1 => b γ1 _ σ H1 _ _ R1 hk1 fun γ2 v2 H2 hk2 R2 => by
  obtain ⟨sl, tm, n⟩ := γ2
  dsimp only at hk2
  split at hk2
  · rename_i j s tm
    obtain ⟨ds, e1, hk3⟩ := elimF hk2
    obtain ⟨ns, e2, ⟨h1, h2, h3⟩, hq⟩ := elimF hk3
    obtain rfl := intsOf_eq e2
    obtain ⟨T, r, _⟩ := R2.read (d := .int j) rfl
    cases r
    obtain ⟨a', us, Z, S1, S2, rfl, ha, X, ts⟩ := Rel.shr R2.pop e1
    have eu : us = ns.map V.int := by
      obtain ⟨T', rp, _⟩ := Trs.rep _ _ _ ts
      exact rp.intsInv.2
    subst eu
    refine ⟨a', j, ns.map V.int, rfl, rfl, ha, by omega, by omega, ?_, fun p hp => ?_⟩
    · rw [List.length_map]
      have := Nat.mul_le_mul h3 (show j.toNat ≤ 1000000 by omega)
      have := sizeLine_eq
      omega
    · rw [flat_map]
      exact w _ _ _ hq (Rel.ints ⟨Z, S1, S2, X⟩ hp _)
  · exact hk2.elim
end
end G
namespace G
open PySem PySem.Spec PyProof.Rows L2
variable {C : Cn} {xc : XC C}
def kCallTM (W : Tw) (ix : List Nat) (n : Nat) (ka kb : KE) : KE := fun γ q => ka γ fun γ1 => kb γ1 fun γ2 => (datN γ2.sl n γ2.tm).elim False fun x => W (ix.filterMap fun i => x.1[i]?) fun d => q ⟨γ2.sl, own d :: x.2, γ2.n⟩
end G
namespace G
open PySem PySem.Spec PyProof.Rows L2
variable {C : Cn} {xc : XC C}
section
variable {ka : KE}
def kDivmod (ka : KE) : KE := fun γ q => ka γ fun γ1 => (datN γ1.sl 2 γ1.tm).elim False fun x => match x.1 with
  | [.int i, .int j] => CDiv i j ∧ q ⟨γ1.sl, .fz (.tuple [.int (i / j), .int (i % j)]) :: x.2, γ1.n⟩
  | _ => False
theorem so_divmod {ts : TA} (h : SoA xc 2 ts ka) : SoE xc (tCB (fun xs H Q => ∃ i j, xs = [.int i, .int j] ∧ CDiv i j ∧ ∀ p, H p = none → Q (.ref p) (upd H p (.tup [.int (i / j), .int (i % j)]))) ts) (kDivmod ka) := fun γ Θ σ H Q q R hk w => h γ Θ σ H _ _ R hk fun γ1 vs H1 el hk1 R1 => by
  obtain ⟨⟨ds, rr⟩, e, hf⟩ := elimF hk1
  obtain ⟨R3, T, rp, _⟩ := Rel.pops (Θ := Θ) R1 el e
  dsimp only at hf
  split at hf
  · rename_i i j
    obtain ⟨hc, hq⟩ := hf
    obtain ⟨v, u, T1, T2, rfl, r1, r2⟩ := rp.c2
    cases r1
    cases r2
    refine ⟨i, j, rfl, hc, fun p hp => ?_⟩
    have nw : New H1 (upd H1 p (.tup [.int (i / j), .int (i % j)])) (.ref p) (.tuple [.int (i / j), .int (i % j)]) := ⟨[], .tup upd_same (.cons (S := []) (.int _) (.cons (S := []) (.int _) .nil)), List.nodup_nil, fun _ z => nomatch z⟩
    have R4 := R3.newR (same_upd (o := .tup [.int (i / j), .int (i % j)]) hp) nw
    exact w _ _ _ hq R4
  · exact hf.elim
end
end G
namespace G
open PySem PySem.Spec PyProof.Rows L2 PySem.W
variable {C : Cn} {xc : XC C}
section
variable {K : PySem.W.Frag} {ts tk : TA} {ka kb : KE}
def kMaxDef (ka kb : KE) : KE := fun γ q => ka γ fun γ1 => kb γ1 fun γ2 => (datN γ2.sl 2 γ2.tm).elim False fun x => match x.1 with
  | [.list es, .int i] => (intsOf es).elim False fun ns => (ns = [] → q ⟨γ2.sl, .fz (.int i) :: x.2, γ2.n⟩) ∧ ∀ m, m ∈ ns → (∀ y, y ∈ ns → y ≤ m) → q ⟨γ2.sl, .fz (.int m) :: x.2, γ2.n⟩
  | _ => False
/-- repr([..]) of things that go on to be held -/
def kReprL (n : Nat) (ka : KE) : KE := fun γ q => ka γ fun γ1 => (datN γ1.sl n γ1.tm).elim False fun x => vRepr [.list x.1] fun d => q ⟨γ1.sl, .fz d :: x.2, γ1.n⟩
end
end G
namespace G
open PySem PySem.Spec PyProof.Rows L2
variable {C : Cn} {xc : XC C}
def lcL2 (i j : Nat) (kt : KT) (ke : KE) : List D → VSt → (VSt → Prop) → Prop
  | [], γ, q => q γ
  | .tuple [d1, d2] :: ds, γ, q => (noAl i γ.tm = true ∧ noAl j γ.tm = true) ∧ kt ⟨(γ.sl.set i (.fz d1)).set j (.fz d2), γ.tm, γ.n⟩ fun b γ1 => γ1.tm = γ.tm ∧ if b = true then ke γ1 fun γ2 => match γ2.tm with
      | s :: .ow b0 (.list es) :: tm => (con s).elim False fun c => ((noAl i tm = true ∧ noAl j tm = true) ∧ tm = γ.tm.tail ∧ es.length < 10000000) ∧ lcL2 i j kt ke ds ⟨(γ2.sl.set j .jk).set i .jk, .ow (b0 && c.1) (.list (es ++ [c.2])) :: tm, γ2.n⟩ q
      | _ => False
    else lcL2 i j kt ke ds ⟨(γ1.sl.set j .jk).set i .jk, γ1.tm, γ1.n⟩ q
  | _ :: _, _, _ => False
def kLc2 (ki : KI) (i j : Nat) (kt : KT) (ke : KE) : KE := fun γ q => ki γ fun ds γ1 => (noAl i γ1.tm = true ∧ noAl j γ1.tm = true) ∧ lcL2 i j kt ke ds ⟨(γ1.sl.set j .jk).set i .jk, .ow true (.list []) :: γ1.tm, γ1.n⟩ fun γ2 => match γ2.tm with
  | s :: tm => (okS s = true ∧ tm = γ1.tm) ∧ q ⟨γ2.sl, s :: γ.tm, γ2.n⟩
  | _ => False
end G
namespace G
open PySem PySem.Spec PyProof.Rows L2
variable {C : Cn} {xc : XC C}
def chgS : Sl → List Nat → Option (D × (D → Sl))
  | .ow true (.tuple ds), [k] => (ds[k]?).map fun d => (d, fun e => .ow true (.tuple (ds.set k e)))
  | .ow true (.list ds), [k] => (ds[k]?).map fun d => (d, fun e => .ow true (.list (ds.set k e)))
  | .sh d, [k] => if k < 3 then some (d, fun e => .sh e) else none
  | _, _ => none
section
variable {C : Cn} {Z : Reg} {H : Hp} {T0 : List Addr} {w0 v : V} {s : Sl} {d : D} {g : D → Sl} {π : List Nat}
theorem Ent.uniq {A B : List Addr} (h : Ent C Z H A (some w0) s) (k : Ent C Z H B (some w0) s) (e : chgS s π = some (d, g)) : A = B := by
  cases h with
  | ow t => cases k with
    | ow t' => exact repU _ _ _ _ (Tr.repO _ _ _ t) (Tr.repO _ _ _ t')
  | @sh a u S d0 ha t => cases k with
    | @sh _ u' S' _ ha' t' =>
      rw [ha] at ha'
      cases ha'
      exact repU _ _ _ _ (Tr.repO _ _ _ t) (Tr.repO _ _ _ t')
  | jk _ => cases e
  | fz _ => cases e
  | sp _ _ => cases e
  | al _ _ _ => cases e
  | pu _ => cases e
  | io _ _ => cases e
  | dc _ _ => cases e
  | dt _ _ => cases e
  | xv _ _ => cases e
  | ho _ _ _ => cases e
  | xw _ => cases e
def kCallIA (W : TwI) (n : Nat) (ka : KE) : KE := fun γ q => ka γ fun γ1 => (datN γ1.sl n γ1.tm).elim False fun x => match x.2 with
  | .al i π :: r => (nolists x.1 = true ∧ noAl i r = true) ∧ ((γ1.sl[i]?).bind fun s => chgS s π).elim False fun s => W (s.1 :: x.1) fun d e => q ⟨γ1.sl.set i (s.2 e), own d :: r, γ1.n⟩
  | _ => False
end
def itL : Sl → Option (List Sl)
  | .fz (.list ds) => some (ds.map .fz)
  | .ow true (.list ds) => some (ds.map own)
  | _ => none
def kgUnl (n : Nat) (a : KG) : KG := fun γ q => match γ.tm with
  | s :: tm => (itL s).elim False fun ss => ss.length = n ∧ a ⟨γ.sl, ss ++ tm, γ.n⟩ q
  | _ => False
/-- a, b = thrice(purse, frozen, owned) -/
def kThr (ka : KE) (i j : Nat) : KS := fun γ e => ka γ fun γ1 => match γ1.tm with
  | .ow true (.tuple gs) :: .fz (.tuple ts) :: .pu :: r => (1 ≤ γ1.n ∧ ts.length = 3 ∧ gs.length = 3 ∧ i ≠ j ∧ noAl i r = true ∧ noAl j r = true) ∧
      e.nx ⟨(γ1.sl.set i (.fz (.tuple ts))).set j (.ow true (.tuple gs)), r, γ1.n - 1⟩ ∧
      e.nx ⟨(γ1.sl.set i (.fz (.tuple [ts.getD 1 .none, ts.getD 1 .none, ts.getD 1 .none]))).set j (.sh (gs.getD 1 .none)), r, γ1.n - 1⟩
  | _ => False
/-- what is made is frozen -/
def kFz (ke : KE) : KE := fun γ q => ke γ fun γ1 => match γ1.tm with
  | .fz d :: r => q ⟨γ1.sl, .fz d :: r, γ1.n⟩
  | .ow _ d :: r => q ⟨γ1.sl, .fz d :: r, γ1.n⟩
  | _ => False
def kCallW (ka : KE) : KE := fun γ q => ka γ fun γ1 => match γ1.tm with
  | .fz d2 :: .fz (.tuple [.int n, .list es]) :: r => (intsOf es).elim False fun gs => (n ≤ 6 ∧ gs.length ≤ 8 → q ⟨γ1.sl, .fz (dE (n, gs)) :: r, γ1.n⟩) ∧ (¬ (n ≤ 6 ∧ gs.length ≤ 8) → q ⟨γ1.sl, .fz d2 :: r, γ1.n⟩)
  | _ => False
theorem datS_sh {d : D} : datS (.sh d) = some (.tuple [d, d, d]) := rfl
theorem chg_sh {d : D} {k : Nat} : chgS (.sh d) [k] = if k < 3 then some (d, fun e => .sh e) else none := rfl
theorem chg_tup {ds : List D} {k : Nat} : chgS (.ow true (.tuple ds)) [k] = (ds[k]?).map fun d => (d, fun e => .ow true (.tuple (ds.set k e))) := rfl
theorem chg_lst {ds : List D} {k : Nat} : chgS (.ow true (.list ds)) [k] = (ds[k]?).map fun d => (d, fun e => .ow true (.list (ds.set k e))) := rfl
end G
namespace G
open PySem PySem.Spec PyProof.Rows L2
end G
namespace G
open PySem PySem.Spec PyProof.Rows L2
end G
namespace G
open PySem PySem.Spec PyProof.Rows L2
section
variable {P : Program} {w : World} {K : PySem.W.Frag} {mg : Str → Option Value} {base : Heap} {k : Nat} {f : Addr} {fd : FuncData} {ps : List Str} {sp : Sp}
/-- a def that may raise -/
theorem okGX {x qual : Str} {st : Stmt} {N : List Str} (F : Fun K x qual st f fd) (S : FnScope N ps (defScope st)) (len : ∀ vs H Q E, sp vs H Q E → vs.length = ps.length)
    (hb : ∀ (cdv : Value) (A : Around) (outer : List Env) (s : Shared) (H : Hp) (vs : List V) (Q : VK) (E : XK), Bare (A.deeper (envOfC qual (defScope st) s.heap.objs.size f cdv)) → Room k (A.deeper (envOfC qual (defScope st) s.heap.objs.size f cdv)) → sp vs H Q E →
      ∃ t, PSs (cxOf (L2.CX P w) P w K mg base N qual (defScope st) f cdv A outer s H E) (defBody st) t ∧ t ⟨fun _ H' => Q .non H', Q, fun _ _ => False, fun _ _ => False⟩ (start N vs) H) : FnG P w K mg base (L2.CX P w) (k + 1) f fd ps sp := by
  obtain ⟨oc, od, kV, doc, pm, an, cdv, ct, osl, rfl, lk, hcd⟩ := F.ex
  exact fn_ofG lk hcd S len fun A outer s H vs Q E hg hr q => hb cdv A outer s H vs Q E hg hr q
end
section
variable {X : Cx} {CX : CXT} {k : Nat} {f : Addr} {fd : FuncData} {ps : List Str} {sp : Sp} {E : L2.St → XK} {x : Str} {p pos : Pos} {e : Expr} {es : List Expr} {t : TA}
/-- f(e, ..) of a def that may raise, where what it lets out is taken -/
theorem pe_callSG (F : FnG X.prog X.w X.K X.mg X.base CX k f fd ps sp) (hb : Bare X.A) (hr : Room k X.A) (hg : Gl X x) (hm : X.mg x = some (.ref f)) (hk : PySem.W.keepIn X.K (.ref f) = true) (bd : Binds X.K fd ps []) (hx : ∀ σ, PassesAt CX X σ (E σ))
    (ha : PA X (e :: es) t) (hdb : (x == ("__debug__" : Str)) = false := by decide) (he : starEach (e :: es) X.env = (false, eval e X.env) :: starEach es X.env := by rfl) (hpl : (backTo pos (starEach es X.env)).any (·.1) = false := by rfl) :
    PE X (.Call (.Name x p) (e :: es) [] pos) (tCallS sp E t) := by
  refine ⟨fun pins s σ H Q I h => wpAny_Call_Name_kw (ld_glob I hg hm (PySem.W.callWith_K (h₀ := X.base) I.ok.mod.kin hk (thn (ha.run pos pins s σ H _ I h) fun us s1 ⟨vs, H1, I1, r, q⟩ => ⟨I1.kIn, ?_⟩) he hpl) hdb)⟩
  have hl : us.length = ps.length := by rw [← r.length]; exact F.len _ _ _ _ q
  have b := bd s1 us I1.kIn (by rw [List.append_nil]; exact hl)
  rw [List.append_nil] at b
  refine wpAny_call (codeAny_mono (F.run X.A X.stack s1 H1 ⟨us, []⟩ us vs Q (E σ) hb hr I1.env0 b r q) fun r s' hq => ?_)
  cases r with
  | error e => exact hx σ pins H1 s1 e s' I1 hq
  | ok fl =>
    cases fl with
    | ret u => exact I1.after hq
    | next => exact False.elim hq
    | brk => exact False.elim hq
    | cont => exact False.elim hq
end
theorem FnG.imp {P : Program} {w : World} {K : PySem.W.Frag} {mg : Str → Option Value} {base : Heap} {CX : CXT} {k : Nat} {f : Addr} {fd : FuncData} {ps : List Str} {sp sp' : Sp} (F : FnG P w K mg base CX k f fd ps sp) (h : ∀ vs H Q E, sp' vs H Q E → sp vs H Q E) : FnG P w K mg base CX k f fd ps sp' :=
  ⟨fun vs H Q E q => F.len vs H Q E (h _ _ _ _ q), fun A o s H args us vs Q E hg hr e0 bt r q => F.run A o s H args us vs Q E hg hr e0 bt r (h _ _ _ _ q)⟩
structure ErrAt (K : PySem.W.Frag) (mg : Str → Option Value) (x : Str) (st : Stmt) (C fI : Addr) (fd : FuncData) : Prop where
  gl : mg x = some (.ref C)
  T : OexC K C
  nv : PySem.W.findIn K (.ref C) "value" = some none
  iC : PySem.W.findIn K (.ref C) "__init__" = some (some (.ref fI))
  tI : PySem.W.typeIn K (.ref fI) = some (.type "function")
  F : Fun K "__init__" "PileError.__init__" st fI fd
  bd : Binds K fd ["self", "value"] []
  ex : PySem.W.exmOne K (.ref C) (.ref C) = some true
  gV : mg "ValueError" = none
  vV : PySem.W.findCls K (.type "ValueError") (.type "type") "__init__" = some (.val (.builtin "ValueError.__init__"))
  xf : XfC K C
theorem oex_mk {K : PySem.W.Frag} {C : Addr} {nm q N bs bm sn sub ab col dd k0 k1 k2 k3 k5} (h : K.lookup C = some (PySem.excClassObj nm q C N bs bm true sn sub ab col dd k0 k1 k2 k3 k5 "ValueError.__new__")) (r : PySem.HandSPX.refsVE bm = true)
    (sa : PySem.W.findIn K (.ref C) "__setattr__" = some (some (.builtin "object.__setattr__"))) (exC : PySem.W.subIn K (.ref C) (.type "BaseException") = some true) (tyC : PySem.W.typeIn K (.ref C) = some (.type "type")) (kC : PySem.W.keepIn K (.ref C) = true) : OexC K C :=
  ⟨⟨nm, q, N, bs, bm, sn, sub, ab, col, dd, k0, k1, k2, k3, k5, h, r⟩, sa, exC, tyC, kC⟩
def spVE (C : Addr) : Sp := fun vs H Q _ => ∃ (a : Addr) (v : V), vs = [.ref a, v] ∧ H a = some (exo a C none) ∧ ∀ dx, H dx = none → dx ≠ a → Q .non (upd (upd H dx (exd dx [("value", v)])) a (exo a C (some dx)))
def tVE (K : PySem.W.Frag) : TS := tSeq (tDrop (tVeI K (tCons (tVar 0) (tCons (tVar 1) tNil)))) (tOst K "value" (tVar 0) (tVar 1))
theorem run_VE {K : PySem.W.Frag} {mg : Str → Option Value} {x : Str} {st : Stmt} {C fI : Addr} {fd : FuncData} (T : ErrAt K mg x st C fI fd) {vs : List V} {H : Hp} {Q : VK} {E : XK} (h : spVE C vs H Q E) : tVE K ⟨fun _ H' => Q .non H', Q, fun _ _ => False, fun _ _ => False⟩ (start ["self", "value"] vs) H := by
  obtain ⟨a, v, rfl, ha, q⟩ := h
  unfold tVE
  exact ⟨_, rfl, _, rfl, a, C, [v], rfl, by simp, T.T, ha, _, rfl, _, rfl, a, C, rfl, T.T, T.nv, .inl ⟨ha, fun dx h1 h2 => q dx h1 h2⟩⟩
/-- raise C(v): what is left -/
theorem mkO_of {C : Addr} {H1 : Hp} {Q : XK} {v : V} (h : ∀ d H', (∀ a o, H1 a = some o → H' a = some o) → H1 d = none → H' d = some (.xd [("value", v)]) → Q (.ref C) (some d) H') : [v].length ≤ 1000 ∧ ∀ a, H1 a = none → spVE C (.ref a :: ([v] ++ [])) (upd H1 a (exo a C none))
  (fun u H2 => u = .non ∧ ∃ (d : Addr) (fs : List (Str × V)), H2 a = some (exo a C (some d)) ∧ H2 d = some (exd d fs) ∧ H1 d = none ∧ Q (.ref C) (some d) (upd (del H2 a) d (.xd fs))) (fun _ _ _ => False) := by
  refine ⟨by simp, fun a ha => ⟨a, v, rfl, upd_same, fun dx h1 h2 => ⟨rfl, dx, [("value", v)], upd_same, ?_, ?_, ?_⟩⟩⟩
  · rw [upd_ne h2]
    exact upd_same
  · rw [upd_ne h2] at h1
    exact h1
  · have hd : H1 dx = none := by rw [upd_ne h2] at h1; exact h1
    refine h dx _ (fun b o e => ?_) hd upd_same
    have n1 : b ≠ dx := fun z => by rw [z, hd] at e; cases e
    have n2 : b ≠ a := fun z => by rw [z, ha] at e; cases e
    rw [upd_ne n1, del_ne n2, upd_ne n2, upd_ne n1, upd_ne n2]
    exact e
end G
namespace G
open PySem PySem.Spec PyProof.Rows L2
variable {C : Cn} {xc : XC C}
section
variable {Z : Reg} {S1 S2 : List Addr} {Θ : List V} {σ : L2.St} {H H' : Hp} {sl tm : List Sl} {n n' : Int} {v : V} {s : Sl} {d : D} {i : Nat}
/-- the heap grows: the same regions -/
theorem RelX.heapX (h0 : RelX C Z S1 S2 ⟨sl, tm, n⟩ Θ σ H) (k : ∀ a o, H a = some o → (∀ p b, C.pu = some (p, b) → a ≠ p) → H' a = some o) (kp : ∀ p b, C.pu = some (p, b) → PuAt H' p (b - n')) : RelX C Z S1 S2 ⟨sl, tm, n'⟩ Θ σ H' := by
  have kt : ∀ t vs, H t = some (.tup vs) → H' t = some (.tup vs) := fun t vs e => k t _ e fun p b q z => by
    subst z
    obtain ⟨x, y, z, e2, _⟩ := (h0.pu t b q).1
    rw [e] at e2
    cases e2
  have kz0 : ∀ a, C.tz Z a → ∀ o, H a = some o → H' a = some o := fun a z o e => k a o e fun p b q y => (h0.pu p b q).2.1 (y ▸ z)
  have kz : ∀ a, Z a → ∀ o, H a = some o → H' a = some o := fun a z => kz0 a (.inl z)
  have ks : ∀ a ∈ S1 ++ S2, ∀ o, H a = some o → H' a = some o := fun a m o e => k a o e fun p b q y => (h0.pu p b q).2.2 (y ▸ m)
  exact ⟨fun a o e m => ⟨(h0.fr a o e m).1, kz0 a (h0.fr a o e m).1 o (h0.fr a o e m).2⟩, h0.es.mono kt (fun _ z => z) kz fun a m => ks a (List.mem_append_left _ m), h0.et.mono kt (fun _ z => z) kz fun a m => ks a (List.mem_append_right _ m), h0.nd, h0.nz, fun p b q => ⟨kp p b q, (h0.pu p b q).2⟩, fun a z => by
      obtain ⟨o, e⟩ := h0.ex a z
      exact ⟨o, kz0 a z o e⟩, h0.dj, fun j i π v e ev => by
      obtain ⟨s, d', e', w, e1, e2, e3, e4, wk⟩ := h0.al j i π v e ev
      obtain ⟨w', T', ew, t, sub⟩ := h0.slot e1 e2
      rw [e4] at ew
      cases ew
      exact ⟨s, d', e', w, e1, e2, e3, e4, (Tr.part t e3 wk).2 H' kt fun a z => z.elim (kz a) fun m => ks a (List.mem_append_left _ (sub a m))⟩⟩
theorem RelX.sameX (h0 : RelX C Z S1 S2 ⟨sl, tm, n⟩ Θ σ H) (k : Same H H') : RelX C Z S1 S2 ⟨sl, tm, n⟩ Θ σ H' :=
  h0.heapX (fun a o e _ => k a o e) fun p b q => (h0.pu p b q).1.mono (k p)
/-- what is new lies nowhere -/
theorem RelX.fresh (h0 : RelX C Z S1 S2 ⟨sl, tm, n⟩ Θ σ H) {a : Addr} (e : H a = none) : a ∉ S1 ++ S2 ∧ ¬ C.tz Z a ∧ ∀ p b, C.pu = some (p, b) → a ≠ p := by
  refine ⟨fun z => ?_, fun z => ?_, fun p b q z => ?_⟩
  · rcases List.mem_append.mp z with z | z
    · obtain ⟨xs, e1⟩ := h0.es.dom a z
      rw [e] at e1
      cases e1
    · obtain ⟨xs, e1⟩ := h0.et.dom a z
      rw [e] at e1
      cases e1
  · obtain ⟨o, e1⟩ := h0.ex a z
    rw [e] at e1
    cases e1
  · obtain ⟨x, y, w, e1, _⟩ := (h0.pu p b q).1
    rw [← z, e] at e1
    cases e1
/-- an error with a new value -/
theorem Rel.newX {dd : Addr} (R : Rel C ⟨sl, tm, n⟩ Θ σ H) (sm : Same H H') (hd : H dd = none) (hx : H' dd = some (.xd [("value", v)])) (nw : New H H' v d) : Rel C ⟨sl, .xv dd dd d :: tm, n⟩ (.ref dd :: Θ) σ H' := by
  obtain ⟨Z, S1, S2, h⟩ := R
  obtain ⟨S, rp, nd, fr⟩ := nw
  have t : Tr H' noReg S v d := Rep.tr _ _ _ rp
  have h1 := h.sameX sm
  refine ⟨Z, S1, _, h1.pushE (Z' := Z) (.xv hx t) (List.nodup_cons.mpr ⟨fun m => ?_, nd⟩) (fun a m => ?_) (fun i π z => nomatch z)⟩
  · obtain ⟨vs, e⟩ := Tr.dom _ _ _ t dd m
    rw [hx] at e
    cases e
  · rcases List.mem_cons.mp m with rfl | m
    · exact h.fresh hd
    · exact h.fresh (fr a m)
/-- the top is what an error holds -/
theorem Rel.toX {dd : Addr} (R : Rel C ⟨sl, own d :: tm, n⟩ (v :: Θ) σ H) (sm : Same H H') (hd : H dd = none) (hx : H' dd = some (.xd [("value", v)])) : Rel C ⟨sl, .xv dd dd d :: tm, n⟩ (.ref dd :: Θ) σ H' := by
  obtain ⟨Z, S1, S2, h⟩ := R
  obtain ⟨A, B, e, h2, f⟩ := h.popF (ss := [own d]) (us := [v]) rfl
  have fr := h2.fresh hd
  have h3 := h2.sameX sm
  have t0 : Tr H noReg A v d := by
    cases e with
    | cons e1 e2 =>
      cases e2
      rw [List.append_nil]
      revert e1
      unfold own
      by_cases hn : nolist d = true
      · rw [if_pos hn]
        intro e1
        cases e1 with
        | fz t => exact (Tr.nolist d _ v t hn).2
      · rw [if_neg hn]
        intro e1
        cases e1 with
        | ow t => exact t
  have t : Tr H' noReg A v d := Tr.mono (fun _ _ h => sm _ _ h) (fun _ z => z) (fun _ z => z.elim) _ _ _ t0 fun _ _ _ h => sm _ _ h
  refine ⟨Z, S1, _, h3.pushE (Z' := Z) (.xv hx t) (List.nodup_cons.mpr ⟨fun m => ?_, (List.nodup_append.mp f.nd).1⟩) (fun a m => ?_) (fun i π z => nomatch z)⟩
  · obtain ⟨vs, e⟩ := Tr.dom _ _ _ t dd m
    rw [hx] at e
    cases e
  · rcases List.mem_cons.mp m with rfl | m
    · exact fr
    · exact ⟨fun z => (List.nodup_append.mp f.nd).2.2 a m a z rfl, (f.ok a m).1, (f.ok a m).2.1⟩
theorem Rel.popAll (R : Rel C ⟨sl, tm, n⟩ Θ σ H) : Rel C ⟨sl, [], n⟩ [] σ H := by
  induction tm generalizing Θ with
  | nil =>
    obtain ⟨Z, S1, S2, h⟩ := R
    have : Θ = [] := by
      have := h.et.length
      simpa using this
    subst this
    exact ⟨Z, S1, S2, h⟩
  | cons s tm ih =>
    match Θ with
    | [] =>
      obtain ⟨Z, S1, S2, h⟩ := R
      have := h.et.length
      simp at this
    | v :: Θ => exact ih R.pop
/-- a caught error -/
theorem Rel.caught {a dd : Addr} (R : Rel C ⟨sl, .xv dd dd d :: tm, n⟩ (.ref dd :: Θ) σ H) (na : noAl i tm = true) : Rel C ⟨sl.set i (.xv a dd d), [], n⟩ [] (σ.set i (some (.ref a))) H := by
  have R2 : Rel C ⟨sl, .xv a dd d :: tm, n⟩ (.ref a :: Θ) σ H := by
    obtain ⟨Z, S1, S2, h⟩ := R
    obtain ⟨fr, es, et, nd, nz, pu, ex, dj, al⟩ := h
    dsimp only at es et al pu
    cases et with
    | cons e1 e2 =>
      cases e1 with
      | xv h1 t => exact ⟨Z, S1, _, fr, es, .cons (.xv h1 t) e2, nd, nz, pu, ex, dj, fun k j π u e ev => by
          cases k with
          | zero => simp at e
          | succ k => exact al (k + 1) j π u (by simpa using e) (by simpa using ev)⟩
  exact (R2.set (fun i π z => nomatch z) na).popAll
end
abbrev TwX := List D → (D → Prop) → (Addr → D → Prop) → Prop
abbrev XH := Addr → D → VSt → Prop
def spX (W : TwX) : Sp := fun vs H Q E => ∃ S ds G X, Reps H S vs ds ∧ W ds G X ∧ (∀ d v H', G d → Same H H' → New H H' v d → Q v H') ∧ ∀ c d dd v H', X c d → Same H H' → H dd = none → H' dd = some (.xd [("value", v)]) → New H H' v d → E (.ref c) (some dd) H'
/-- right arguments, or wrong ones -/
def twX (W : Tw) (x : List D → Addr → D → Prop) : TwX := fun ds G X => W ds G ∨ ∃ c d, x ds c d ∧ X c d
section
variable {K : PySem.W.Frag} {P : Program} {w : World} {mg : Str → Option Value} {base : Heap} {kl : Nat} {f : Addr} {fd : FuncData} {ps : List Str}
/-- what a def lets out -/
def ownXC {H : Hp} {E : XK} {X : Addr → D → Prop} (h : ∀ c d dd v H', X c d → Same H H' → H dd = none → H' dd = some (.xd [("value", v)]) → New H H' v d → E (.ref c) (some dd) H') :
    XC ⟨H, fun a => ∃ b, (none : Option (Addr × Int)) = some (a, b), none, fun _ _ z => (nomatch z), none, noReg⟩ where
  E := fun _ => E
  X := fun c d _ => X c d
  ok := fun {c dd d γ Θ σ H'} hx R => by
    obtain ⟨Z, S1, S2, R⟩ := R
    have sm : Same H H' := fun a o e => (R.fr a o e (fun ⟨b, z⟩ => nomatch z)).2
    obtain ⟨A, B, e, h2, f⟩ := R.popF (ss := [.xv dd dd d]) (us := [.ref dd]) rfl
    cases e with
    | cons e1 e2 =>
      cases e2
      cases e1 with
      | @xv _ _ w S _ h1 t =>
        have none_of : ∀ a ∈ dd :: S, H a = none := fun a m => by
          cases e : H a with
          | none => rfl
          | some o => exact absurd (R.fr a o e (fun ⟨b, z⟩ => nomatch z)).1 (f.ok a (by simpa using m)).1
        refine h c d dd w H' hx sm (none_of _ List.mem_cons_self) h1 ⟨S, Tr.repO _ _ _ t, ?_, fun a m => none_of a (List.mem_cons_of_mem _ m)⟩
        have := (List.nodup_append.mp f.nd).1
        rw [List.append_nil] at this
        exact (List.nodup_cons.mp this).2
theorem run_own {N : List Str} {kb : KS} {t : TS} {S : List Addr} {vs : List V} {ds : List D} {H : Hp} {Q : VK} {E : XK} {G : D → Prop} {X : Addr → D → Prop} (hN : ps.length ≤ N.length) (r : Reps H S vs ds) (ea : ds.length = ps.length)
    (hq : ∀ d v H', G d → Same H H' → New H H' v d → Q v H') (hx : ∀ c d dd v H', X c d → Same H H' → H dd = none → H' dd = some (.xd [("value", v)]) → New H H' v d → E (.ref c) (some dd) H')
    (so : SoS (ownXC hx) t kb) (val : kb ⟨ds.map Sl.fz ++ List.replicate (N.length - ps.length) .jk, [], 0⟩ (edT G)) : t ⟨fun _ H' => Q .non H', Q, fun _ _ => False, fun _ _ => False⟩ (start N vs) H := by
  have el := r.length
  refine so _ [] _ H _ (edT G) (by simpa using Rel.start (N := N) r none (fun _ _ z => nomatch z) 0 (fun _ _ z => nomatch z) [] [] (.inl ⟨rfl, rfl⟩) (by simp; omega)) (by rw [el, ea]; exact val) ⟨fun γ' σ' H' hn R => ?_, fun s γ' v Θ' σ' H' hr R => ?_, fun _ _ _ z _ => z.elim, fun _ _ _ z _ => z.elim⟩
  · obtain ⟨Z, S1, S2, X⟩ := R
    exact hq _ _ _ hn (fun a o e => (X.fr a o e (fun ⟨b, z⟩ => nomatch z)).2) ⟨[], .non, List.nodup_nil, fun a m => nomatch m⟩
  · obtain ⟨d, hG, nw⟩ := R.outN hr (fun a m => m)
    obtain ⟨Z, S1, S2, X⟩ := R
    exact hq _ _ _ hG (fun a o e => (X.fr a o e (fun ⟨b, z⟩ => nomatch z)).2) nw
/-- a def that may raise -/
theorem okX {x qual : Str} {st : Stmt} {N : List Str} {W : TwX} {kb : XH → KS} (F : Fun K x qual st f fd) (S : FnScope N ps (defScope st)) (hN : ps.length ≤ N.length) (har : ∀ ds G X, W ds G X → ds.length = ps.length)
    (hb : ∀ (cdv : Value) (A : Around) (outer : List Env) (s : Shared) (H : Hp) (E : XK), Bare (A.deeper (envOfC qual (defScope st) s.heap.objs.size f cdv)) → Room kl (A.deeper (envOfC qual (defScope st) s.heap.objs.size f cdv)) →
      ∃ t, PSs (cxOf (L2.CX P w) P w K mg base N qual (defScope st) f cdv A outer s H E) (defBody st) t ∧ ∀ (C : Cn) (xc : XC C), (xc.E = fun _ => E) → SoS xc t (kb xc.X))
    (val : ∀ ds G X, W ds G X → kb (fun c d _ => X c d) ⟨ds.map Sl.fz ++ List.replicate (N.length - ps.length) .jk, [], 0⟩ (edT G)) : FnG P w K mg base (L2.CX P w) (kl + 1) f fd ps (spX W) := by
  refine okGX F S (fun vs H Q E h => ?_) (fun cdv A outer s H vs Q E hg hr h => ?_)
  · obtain ⟨S, ds, G, X, r, hw, _⟩ := h
    rw [r.length]
    exact har _ _ _ hw
  · obtain ⟨t, hp, so⟩ := hb cdv A outer s H E hg hr
    obtain ⟨S, ds, G, X, r, hw, hq, hx⟩ := h
    exact ⟨t, hp, run_own hN r (har _ _ _ hw) hq hx (so _ _ rfl) (val ds G X hw)⟩
/-- .. told apart: right arguments, wrong ones -/
theorem okF {x qual : Str} {st : Stmt} {N : List Str} {W : Tw} {kb : KS} {kx : XH → KS} {X : List D → Addr → D → Prop} (F : Fun K x qual st f fd) (S : FnScope N ps (defScope st)) (hN : ps.length ≤ N.length) (har : ∀ ds G, W ds G → ds.length = ps.length) (harX : ∀ ds c d, X ds c d → ds.length = ps.length)
    (hb : ∀ (cdv : Value) (A : Around) (outer : List Env) (s : Shared) (H : Hp) (E : XK), Bare (A.deeper (envOfC qual (defScope st) s.heap.objs.size f cdv)) → Room kl (A.deeper (envOfC qual (defScope st) s.heap.objs.size f cdv)) →
      ∃ t, PSs (cxOf (L2.CX P w) P w K mg base N qual (defScope st) f cdv A outer s H E) (defBody st) t ∧ (∀ (C : Cn) (xc : XC C), SoS xc t kb) ∧ ∀ (C : Cn) (xc : XC C), (xc.E = fun _ => E) → SoS xc t (kx xc.X))
    (val : ∀ ds G, W ds G → kb ⟨ds.map Sl.fz ++ List.replicate (N.length - ps.length) .jk, [], 0⟩ (edT G))
    (valx : ∀ ds c d, X ds c d → kx (fun c' d' _ => c' = c ∧ d' = d) ⟨ds.map Sl.fz ++ List.replicate (N.length - ps.length) .jk, [], 0⟩ (edT fun _ => False)) : FnG P w K mg base (L2.CX P w) (kl + 1) f fd ps (spX (twX W X)) := by
  refine okGX F S (fun vs H Q E h => ?_) (fun cdv A outer s H vs Q E hg hr h => ?_)
  · obtain ⟨S, ds, G, X', r, hw | ⟨c, d, hw, _⟩, _⟩ := h
    · rw [r.length]
      exact har _ _ hw
    · rw [r.length]
      exact harX _ _ _ hw
  · obtain ⟨t, hp, so, sx⟩ := hb cdv A outer s H E hg hr
    obtain ⟨S, ds, G, X', r, hw | ⟨c, d, hw, hX⟩, hq, hx⟩ := h
    · exact ⟨t, hp, run_own hN r (har _ _ hw) hq hx (so _ _) (val ds G hw)⟩
    · exact ⟨t, hp, run_own (G := fun _ => False) (X := fun c' d' => c' = c ∧ d' = d) hN r (harX _ _ _ hw) (fun _ _ _ z => z.elim) (fun c' d' dd v H' ⟨e1, e2⟩ => hx c' d' dd v H' (by rw [e1, e2]; exact hX)) (sx _ _ rfl) (valx ds c d hw)⟩
end
section
variable {ts : TA} {ka : KE} {n : Nat} {W : Tw} {WX : TwX} {X : List D → Addr → D → Prop} {ix : List Nat}
theorem callF_core {γ1 : VSt} {vs Θ : List V} {σ : L2.St} {H1 : Hp} {q : VSt → Prop} {Q : VK} {E : XK} (R1 : Rel C γ1 (vs.reverse ++ Θ) σ H1) (el : vs.length = n) (hk1 : (datN γ1.sl n γ1.tm).elim False fun x => W x.1 fun d => q ⟨γ1.sl, own d :: x.2, γ1.n⟩)
    (w : ∀ γ' v H', q γ' → Rel C γ' (v :: Θ) σ H' → Q v H') : spX (twX W X) vs H1 Q E := by
  obtain ⟨⟨ds, rr⟩, e, hf⟩ := elimF hk1
  obtain ⟨R3, T, rp, _⟩ := Rel.pops (Θ := Θ) R1 el e
  exact ⟨T, ds, _, fun _ _ => False, rp, .inl hf, fun d v H' hq sm nw => w _ v H' hq (R3.newR sm nw), fun _ _ _ _ _ z => z.elim⟩
/-- right arguments -/
theorem so_callF {E : XK} (h : SoA xc n ts ka) : SoE xc (tCall (spX (twX W X)) [] E ts) (kCallT W n ka) := fun γ Θ σ H Q q R hk w => h γ Θ σ H _ _ R hk fun γ1 vs H1 el hk1 R1 => by
  rw [List.append_nil]
  exact callF_core R1 el hk1 w
/-- any arguments -/
def kCallX (x : XH) (W : TwX) (n : Nat) (ka : KE) : KE := fun γ q => ka γ fun γ1 => (datN γ1.sl n γ1.tm).elim False fun y => W y.1 (fun d => q ⟨γ1.sl, own d :: y.2, γ1.n⟩) fun c d => x c d ⟨γ1.sl, y.2, γ1.n⟩
def kCallXK (x : XH) (W : TwX) (ix : List Nat) (n : Nat) (ka : KE) : KE := fun γ q => ka γ fun γ1 => (datN γ1.sl n γ1.tm).elim False fun y => W (ix.filterMap fun i => y.1[i]?) (fun d => q ⟨γ1.sl, own d :: y.2, γ1.n⟩) fun c d => x c d ⟨γ1.sl, y.2, γ1.n⟩
theorem callX_core {γ1 : VSt} {vs Θ : List V} {σ : L2.St} {H1 : Hp} {q : VSt → Prop} {Q : VK} (R1 : Rel C γ1 (vs.reverse ++ Θ) σ H1) (el : vs.length = n) (hk1 : (datN γ1.sl n γ1.tm).elim False fun y => WX y.1 (fun d => q ⟨γ1.sl, own d :: y.2, γ1.n⟩) fun c d => xc.X c d ⟨γ1.sl, y.2, γ1.n⟩)
    (w : ∀ γ' v H', q γ' → Rel C γ' (v :: Θ) σ H' → Q v H') : spX WX vs H1 Q (xc.E σ) := by
  obtain ⟨⟨ds, rr⟩, e, hf⟩ := elimF hk1
  obtain ⟨R3, T, rp, _⟩ := Rel.pops (Θ := Θ) R1 el e
  exact ⟨T, ds, _, _, rp, hf, fun d v H' hq sm nw => w _ v H' hq (R3.newR sm nw), fun c d dd v H' hx sm hd he nw => xc.ok hx (R3.newX sm hd he nw)⟩
theorem callXK_core {γ1 : VSt} {vs Θ : List V} {σ : L2.St} {H1 : Hp} {q : VSt → Prop} {Q : VK} (R1 : Rel C γ1 (vs.reverse ++ Θ) σ H1) (el : vs.length = n) (hk1 : (datN γ1.sl n γ1.tm).elim False fun y => WX (ix.filterMap fun i => y.1[i]?) (fun d => q ⟨γ1.sl, own d :: y.2, γ1.n⟩) fun c d => xc.X c d ⟨γ1.sl, y.2, γ1.n⟩)
    (w : ∀ γ' v H', q γ' → Rel C γ' (v :: Θ) σ H' → Q v H') : spX WX (ix.filterMap fun i => vs[i]?) H1 Q (xc.E σ) := by
  obtain ⟨⟨ds, rr⟩, e, hf⟩ := elimF hk1
  obtain ⟨R3, T, rp, _⟩ := Rel.pops (Θ := Θ) R1 el e
  obtain ⟨T', rp', _⟩ := rp.pickI ix
  exact ⟨T', _, _, _, rp', hf, fun d v H' hq sm nw => w _ v H' hq (R3.newR sm nw), fun c d dd v H' hx sm hd he nw => xc.ok hx (R3.newX sm hd he nw)⟩
theorem so_callX {E : XK} (hE : xc.E = fun _ => E) (h : SoA xc n ts ka) : SoE xc (tCall (spX WX) [] E ts) (kCallX xc.X WX n ka) := fun γ Θ σ H Q q R hk w => h γ Θ σ H _ _ R hk fun γ1 vs H1 el hk1 R1 => by
  rw [List.append_nil]
  have := callX_core (WX := WX) R1 el hk1 w
  rw [hE] at this
  exact this
theorem so_callXS {E : L2.St → XK} (hE : xc.E = E) (h : SoA xc n ts ka) : SoE xc (tCallS (spX WX) E ts) (kCallX xc.X WX n ka) := fun γ Θ σ H Q q R hk w => h γ Θ σ H _ _ R hk fun γ1 vs H1 el hk1 R1 => by
  have := callX_core (WX := WX) R1 el hk1 w
  rw [hE] at this
  exact this
theorem so_callXK {E : XK} (hE : xc.E = fun _ => E) (h : SoA xc n ts ka) : SoE xc (tCallK (spX WX) (gKwV ix) E tNil ts) (kCallXK xc.X WX ix n ka) := fun γ Θ σ H Q q R hk w => h γ Θ σ H _ _ R hk fun γ1 vs H1 el hk1 R1 => by
  have := callXK_core (WX := WX) R1 el hk1 w
  rw [hE] at this
  exact this
theorem so_neverA {t : TS} : SoS xc t kNever := fun γ Θ σ H De e R hk w => hk.elim
def kRaise (x : XH) (c : Addr) (ka : KE) : KS := fun γ _ => ka γ fun γ1 => match γ1.tm with
  | .ow true d :: tm => nolist d = false ∧ x c d ⟨γ1.sl, tm, γ1.n⟩
  | .fz d :: tm => nolist d = true ∧ x c d ⟨γ1.sl, tm, γ1.n⟩
  | _ => False
theorem so_raise {c : Addr} {t : TE} {k : KE} {E : XK} (hE : xc.E = fun _ => E) (h : SoA xc 1 (tCons t tNil) k) : SoS xc (fun _ σ H => tMkO c (spVE c) [] (tCons t tNil) σ H fun cls d H' => E cls d H') (kRaise xc.X c k) := fun γ Θ σ H De e R hk w =>
  h γ Θ σ H _ _ R hk fun γ1 vs H1 el hk1 R1 => by
    match vs, el with
    | [v], _ =>
      have R2 : Rel C γ1 (v :: Θ) σ H1 := R1
      obtain ⟨d, tm, hx, R3⟩ : ∃ d tm, xc.X c d ⟨γ1.sl, tm, γ1.n⟩ ∧ Rel C ⟨γ1.sl, own d :: tm, γ1.n⟩ (v :: Θ) σ H1 := by
        obtain ⟨sl, tm, n⟩ := γ1
        dsimp only at hk1
        split at hk1
        · rename_i d tm'
          refine ⟨d, tm', hk1.2, ?_⟩
          unfold own
          rw [if_neg (by simp [hk1.1])]
          exact R2
        · rename_i d tm'
          refine ⟨d, tm', hk1.2, ?_⟩
          unfold own
          rw [if_pos hk1.1]
          exact R2
        · exact hk1.elim
      have go := mkO_of (C := c) (H1 := H1) (Q := fun cls d H' => E cls d H') (v := v) fun dd H' sm hd he => by
        have := xc.ok hx (R3.toX sm hd he)
        rw [hE] at this
        exact this
      exact go
end
def wManyA (K : PySem.W.Frag) (i : Nat) (Wout : WX) (D : Ends) : List (Value × (Addr → Value → Option Addr → TS)) → WX
  | [] => Wout
  | (c, ts) :: r => fun cls d σ H => ∃ b, PySem.W.exmOne K cls c = some b ∧ (b = true → ∀ a, H a = none → ts a cls d { nx := fun σ' H' => D.nx (σ'.set i none) H', rt := D.rt, bk := fun σ' H' => D.bk (σ'.set i none) H', ct := fun σ' H' => D.ct (σ'.set i none) H' } (σ.set i (some (.ref a))) H) ∧ (b = false → wManyA K i Wout D r cls d σ H)
def tTryA (K : PySem.W.Frag) (i : Nat) (Wout : WX) (l : List (Value × (Addr → Value → Option Addr → TS))) (tb : WX → TS) : TS := fun D σ H => tb (wManyA K i Wout D l) D σ H
inductive HdsA (X : Cx) (n : Str) : List ExceptHandler → List (Value × (Addr → Value → Option Addr → TS)) → Prop
  | nil : HdsA X n [] []
  | cons {x : Str} {c : Value} {ts : Addr → Value → Option Addr → TS} {b₀ : Stmt} {suite : List Stmt} {np pos' : Pos} {hds : List ExceptHandler} {l : List (Value × (Addr → Value → Option Addr → TS))} (hc : Names X x c)
      (hsu : ∀ (a : Addr) (oe : Obj) (cls : Value) (d : Option Addr) (pn : List (Addr × Obj)), Zc cls d oe → (∃ vs, oe.data = .fields vs) → PSs (X.suite a ((a, oe) :: pn)) (b₀ :: suite) (ts a cls d)) (r : HdsA X n hds l) :
      HdsA X n (.ExceptHandler (some (.Name x np)) (some n) (b₀ :: suite) pos' :: hds) ((c, ts) :: l)
section
variable {X : Cx} {n : Str} {i : Nat} {body : List Stmt} {h₀ : ExceptHandler} {hds : List ExceptHandler} {l : List (Value × (Addr → Value → Option Addr → TS))} {pos : Pos} {tb : WX → TS} {Wout : WX}
theorem ps_try_manyA (hs : X.stack = X.env :: X.outer) (hf : X.env.frame = some X.env.locals) (hN : X.N.Nodup) (hi : X.N[i]? = some n) (hln : X.env.kindOf n = some .local) (tk : L2.Takes X Wout)
    (hb : ∀ (W : WX) (pn : List (Addr × Obj)) (xe : Value → Shared → Prop), L2.Takes (X.tr pn xe) W → PassesOwn (model X.prog X.w) X.A X.env xe → PSs (X.tr pn xe) body (tb W))
    (hh : HdsA X n (h₀ :: hds) l) : PS X (.Try body (h₀ :: hds) [] [] pos) (tTryA X.K i Wout l tb) := by
  refine ⟨fun pins s σ H D I h => ?_⟩
  have ok := I.ok
  have hfr : X.A.frames = some (X.env :: X.outer) := by rw [ok.frames, hs]
  have hloc : Loc X.env.scope n := .inl hln
  refine wpAny_Try_except ?_
  refine wpAny_mono ((hb (wManyA X.K i Wout D l) (X.pn ++ pins) (fun e s₁ => wpAny (model X.prog X.w) X.A (noteFrame e X.env) (fun _ s₂ => wpAny (model X.prog X.w) X.A (setFlight e none) (fun _ s₃ =>
    wpAny (model X.prog X.w) X.A (handleBy e X.env (h₀ :: hds)) (SP X pins D) X.xe s₃) X.xe s₂) X.xe s₁) (fun u s' xx => ?_) PassesOwn.looking).run [] s σ H D (I.toTry _) h) (fun f s1 hsp => ?_) (fun e s1 he => he)
  · -- the catch
    obtain ⟨a, B, sI, pins', σ', H', cls, d, rfl, J', nb, up, sky, na, os, ag, w⟩ := xx
    have J : Inv X pins σ' H' sI := J'.ofTry ok
    have sky' : Sky B (X.env :: X.outer) a (Zc cls d) X.env.locals s'.heap := by rw [← hs]; exact sky
    show wpAny (model X.prog X.w) X.A (noteFrame (.ref a) X.env) _ _ _
    refine Sky.land Zc.steady hfr hf sky' fun h3 fl3 up3 => ?_
    have J3 : Inv X pins σ' H' { s' with heap := h3 } := J.landed nb fl3.1 (up.trans up3) os ag
    obtain ⟨oe3, vs3, he3, hz3, hd3⟩ := fl3.there
    have notFr : ∀ {h : Heap} {o : Obj} {vs : Array Value}, h.FunFrames B (X.env :: X.outer) → h.get? a = some o → o.data = .fields vs → a ∉ frs (X.env :: X.outer) := fun {h o vs} ff e dd hm => by
      obtain ⟨_, o', e', hnf⟩ := ff.mem hm
      rw [e] at e'; cases e'
      exact hnf _ dd
    have nfr := notFr fl3.2.2.1 he3 hd3
    have nL : a ≠ X.env.locals := fun z => nfr (List.mem_filterMap.mpr ⟨X.env, List.mem_cons_self, by rw [hf, z]⟩)
    have nF : a ∉ X.fs := fun hm => by
      obtain ⟨e, he, q⟩ := List.mem_filterMap.mp hm
      exact nfr (List.mem_filterMap.mpr ⟨e, List.mem_cons_of_mem _ he, q⟩)
    have S3 := J3.suite he3 hd3 na nL nF
    have go : ∀ {hds' : List ExceptHandler} {l' : List (Value × (Addr → Value → Option Addr → TS))}, HdsA X n hds' l' → wManyA X.K i Wout D l' cls d σ' H' →
        wpAny (model X.prog X.w) X.A (handleBy (.ref a) X.env hds') (SP X pins D) X.xe { s' with heap := h3 } := by
      intro hds' l' hk
      induction hk with
      | nil =>
        intro w
        refine wpAny_handleBy_nil ?_
        obtain ⟨k1, k2, k3, oe, vs, T, oT, ts', he, hz, hd, h1, hr⟩ := id fl3
        unfold PySem.passOn
        refine wpAny_bind (wpAny_field he hd h1 ?_)
        rw [if_neg (show ¬ ((Value.ref T == Value.none) = true) from by simp)]
        have fin : wpAny (model X.prog X.w) X.A (setFlight (.ref a) X.env.frame) (fun _ s4 => wpAny (model X.prog X.w) X.A (throw (.ref a) : Sem Flow) (SP X pins D) X.xe s4) X.xe { s' with heap := h3 } := by
          rw [hf]
          refine HandSPX.setFlight_upZ fl3 fun h4 hh4 up4 => wpAny_throw (tk _ _ ?_)
          exact ⟨a, B, sI, pins, σ', H', cls, d, rfl, J, nb, (up.trans up3).trans up4, .inr (.inr (by rw [hs]; exact hh4)), na, os, ag, w⟩
        first
          | exact wpAny_bind (wpAny_pure (wpAny_bind fin))
          | exact wpAny_bind fin
      | @cons x c ts b₀ suite np pos' hds2 l2 hc hsu r ih =>
        intro w
        obtain ⟨b, hb1, hyes, hno⟩ := w
        refine wpAny_handleBy_cons (codeAny_handlers_test ?_) (by intro q; cases q)
        have LT : PySem.W.Looks (model X.prog X.w) h3 (typeOf (.ref a)) cls := fun A Q E s k q => wpAny_typeOf_ref (k _ _ he3) (by rw [hz3.1]; exact q)
        have LM := PySem.W.exm_one (M := model X.prog X.w) (J3.kIn) LT hb1
        have test : ∀ {Q : Value → Shared → Prop} {E : Value → Shared → Prop}, Q c { s' with heap := h3 } → wpAny (model X.prog X.w) (X.A.mark (some (.ref a))) (eval (.Name x np) X.env) Q E { s' with heap := h3 } := fun {Q E} q => by
          obtain ⟨hg, hdbg, hm | ⟨hm, hv, hnn⟩⟩ := hc
          · exact ld_glob (X := X.suite a ((a, oe3) :: (X.pn ++ pins))) S3 hg hm q hdbg
          · exact ld_blt (X := X.suite a ((a, oe3) :: (X.pn ++ pins))) S3 hg hm hv q hnn hdbg
        refine test (LM.here ?_)
        cases b with
        | true =>
          refine codeAny_handlers_suite_as ?_
          refine HandSPX.lands_againZ fl3 fun h4 fl4 up4 => ?_
          have J4 : Inv X pins σ' H' { s' with heap := h4 } := J.landed nb fl4.1 ((up.trans up3).trans up4) os ag
          obtain ⟨oe4, vs4, he4, hz4, hd4⟩ := fl4.there
          have S4 := J4.suite he4 hd4 na nL nF
          refine store_ok (X := X.suite a ((a, oe4) :: (X.pn ++ pins))) (v := .ref a) S4 hN hi hloc rfl (fun s5 S5 => ?_) (.inr hln)
          refine wpAny_mono ((hsu a oe4 cls d (X.pn ++ pins) hz4 ⟨_, hd4⟩).run [] s5 _ H' _ S5 (hyes rfl a na)) (fun f s6 hsp => ?_) (fun _ _ z => False.elim z)
          have end_ : ∀ {σ6 : L2.St} {H6 : Hp} {Q : Shared → Prop}, Inv (X.suite a ((a, oe4) :: (X.pn ++ pins))) [] σ6 H6 s6 → (∀ s7, Inv X pins (σ6.set i none) H6 s7 → Q s7) →
              wpAny (model X.prog X.w) X.A (do bindName X.env n .none; unbindBehindTheSuite X.env n pos') (fun _ s7 => Q s7) X.xe s6 := fun {σ6 H6 Q} S6 hq => gone_ok (S6.unsuite ok) hN hi hln hq
          cases f with
          | next =>
            obtain ⟨σ6, H6, S6, q6⟩ := hsp
            exact end_ S6 fun s7 J7 => ⟨_, _, J7, q6⟩
          | brk =>
            obtain ⟨σ6, H6, S6, q6⟩ := hsp
            exact end_ S6 fun s7 J7 => ⟨_, _, J7, q6⟩
          | cont =>
            obtain ⟨σ6, H6, S6, q6⟩ := hsp
            exact end_ S6 fun s7 J7 => ⟨_, _, J7, q6⟩
          | ret u =>
            obtain ⟨v6, σ6, H6, S6, r6, q6⟩ := hsp
            exact end_ S6 fun s7 J7 => ⟨_, _, _, J7, r6, q6⟩
        | false =>
          show wpAny _ X.A (handleBy (.ref a) X.env hds2) _ _ _
          exact ih (hno rfl)
    exact go hh w
  · cases f with
    | next =>
      obtain ⟨σ', H', J', q⟩ := hsp
      exact wpAny_execs_nil ⟨σ', H', J'.ofTry ok, q⟩
    | brk =>
      obtain ⟨σ', H', J', q⟩ := hsp
      exact ⟨σ', H', J'.ofTry ok, q⟩
    | cont =>
      obtain ⟨σ', H', J', q⟩ := hsp
      exact ⟨σ', H', J'.ofTry ok, q⟩
    | ret u =>
      obtain ⟨v, σ', H', J', r, q⟩ := hsp
      exact ⟨v, σ', H', J'.ofTry ok, r, q⟩
end
def hdE (i : Nat) (e : KEd) : KEd := ⟨fun γ => noAl i γ.tm = true ∧ e.nx ⟨γ.sl.set i .jk, γ.tm, γ.n⟩, e.rt, fun γ => noAl i γ.tm = true ∧ e.bk ⟨γ.sl.set i .jk, γ.tm, γ.n⟩, fun γ => noAl i γ.tm = true ∧ e.ct ⟨γ.sl.set i .jk, γ.tm, γ.n⟩⟩
def hdX (K : PySem.W.Frag) (i : Nat) (e : KEd) : List (Value × (Addr → Addr → Addr → KS)) → XH
  | [] => fun _ _ _ => False
  | (c, h) :: r => fun cls d γ => ∃ b, PySem.W.exmOne K (.ref cls) c = some b ∧ (b = true → noAl i γ.tm = true ∧ ∀ a dd, h a cls dd ⟨γ.sl.set i (.xv a dd d), [], γ.n⟩ (hdE i e)) ∧ (b = false → hdX K i e r cls d γ)
def kTry (K : PySem.W.Frag) (i : Nat) (kb : XH → KS) (hs : List (Value × (Addr → Addr → Addr → KS))) : KS := fun γ e => γ.tm = [] ∧ kb (hdX K i e hs) γ e
inductive HdsSo {C : Cn} (xc : XC C) : List (Value × (Addr → Value → Option Addr → TS)) → List (Value × (Addr → Addr → Addr → KS)) → Prop
  | nil : HdsSo xc [] []
  | cons {c : Value} {ts : Addr → Value → Option Addr → TS} {h : Addr → Addr → Addr → KS} {l : List (Value × (Addr → Value → Option Addr → TS))} {hs : List (Value × (Addr → Addr → Addr → KS))} : (∀ a cls dd, SoS xc (ts a (.ref cls) (some dd)) (h a cls dd)) → HdsSo xc l hs → HdsSo xc ((c, ts) :: l) ((c, h) :: hs)
theorem so_try {K : PySem.W.Frag} {i : Nat} {tb : WX → TS} {kb : XH → KS} {l : List (Value × (Addr → Value → Option Addr → TS))} {hs : List (Value × (Addr → Addr → Addr → KS))} (hb : ∀ (W : WX) (xc' : XC C), xc'.E = WE W → SoS xc' (tb W) (kb xc'.X)) (hh : HdsSo xc l hs) :
    SoS xc (tTryA K i (fun _ _ _ _ => False) l tb) (kTry K i kb hs) := fun γ Θ σ H De e R hk w => by
  obtain ⟨etm, hk⟩ := hk
  have eΘ : Θ = [] := by
    obtain ⟨Z, S1, S2, h⟩ := R
    have := h.et.length
    rw [etm] at this
    simpa using this
  subst eΘ
  have w' : SoD C [] (hdE i e) { nx := fun σ' H' => De.nx (σ'.set i none) H', rt := De.rt, bk := fun σ' H' => De.bk (σ'.set i none) H', ct := fun σ' H' => De.ct (σ'.set i none) H' } :=
    ⟨fun γ' σ' H' h R' => w.nx _ _ _ h.2 (R'.jk h.1 none), w.rt, fun γ' σ' H' h R' => w.bk _ _ _ h.2 (R'.jk h.1 none), fun γ' σ' H' h R' => w.ct _ _ _ h.2 (R'.jk h.1 none)⟩
  have disp : ∀ {l : List (Value × (Addr → Value → Option Addr → TS))} {hs : List (Value × (Addr → Addr → Addr → KS))}, HdsSo xc l hs → ∀ {c dd : Addr} {d : D} {γ : VSt} {Θ : List V} {σ : L2.St} {H : Hp}, hdX K i e hs c d γ → Rel C ⟨γ.sl, .xv dd dd d :: γ.tm, γ.n⟩ (.ref dd :: Θ) σ H → wManyA K i (fun _ _ _ _ => False) De l (.ref c) (some dd) σ H := by
    intro l hs hh
    induction hh with
    | nil => exact fun h _ => h
    | @cons c0 ts h0 l hs h1 _ ih =>
      intro c dd d γ Θ σ H hx R1
      obtain ⟨b, e1, hy, hn⟩ := hx
      refine ⟨b, e1, fun eb a _ => ?_, fun eb => ih (hn eb) R1⟩
      obtain ⟨na, hy⟩ := hy eb
      exact h1 a c dd _ [] _ H _ _ (R1.caught na) (hy a dd) w'
  exact hb (wManyA K i (fun _ _ _ _ => False) De l) ⟨WE (wManyA K i (fun _ _ _ _ => False) De l), hdX K i e hs, fun hx R1 => disp hh hx R1⟩ rfl γ [] σ H De e R hk w
/-- e.value in a clause: taken out -/
def kXval (c a dd : Addr) (cls : Addr) (i : Nat) : KE := fun γ q => cls = c ∧ noAl i γ.tm = true ∧ match γ.sl[i]? with
  | some (.xv a' dd' d) => (a' = a ∧ dd' = dd) ∧ q ⟨γ.sl.set i (.xw a dd), own d :: γ.tm, γ.n⟩
  | _ => False
theorem Rel.xval {a dd : Addr} {d : D} {sl tm : List Sl} {n : Int} {Θ : List V} {σ : L2.St} {H : Hp} {i : Nat} (R : Rel C ⟨sl, tm, n⟩ Θ σ H) (e : sl[i]? = some (.xv a dd d)) (na : noAl i tm = true) :
    σ[i]? = some (some (.ref a)) ∧ ∃ w, H dd = some (.xd [("value", w)]) ∧ Rel C ⟨sl.set i (.xw a dd), own d :: tm, n⟩ (w :: Θ) σ H := by
  obtain ⟨Z, S1, S2, h⟩ := R
  obtain ⟨v, T, R', ev, en, pm, k⟩ := h.es.at e
  cases en with
  | @xv _ _ w S _ h1 t =>
    refine ⟨ev, w, h1, ?_⟩
    obtain ⟨S', es', pm'⟩ := k H Z [dd] (some (.ref a)) (.xw a dd) (fun _ _ h => h) (fun _ z => z) (fun _ _ _ h => h) (fun _ _ _ h => h) (.xw h1)
    have eσ : σ.set i (some (.ref a)) = σ := by
      refine List.ext_getElem? fun j => ?_
      by_cases hj : i = j
      · subst hj
        rw [List.getElem?_set_self (List.getElem?_eq_some_iff.mp ev).1, ev]
      · rw [List.getElem?_set_ne hj]
    rw [eσ] at es'
    have pm2 : (S ++ (S' ++ S2)).Perm (S1 ++ S2) := by
      rw [← List.append_assoc]
      refine List.Perm.append_right S2 ((List.Perm.append_left S pm').trans (List.Perm.trans ?_ pm.symm))
      show (S ++ dd :: R').Perm (dd :: (S ++ R'))
      exact List.perm_middle
    have nd2 := pm2.nodup_iff.mpr h.nd
    have sub : ∀ x ∈ S ++ (S' ++ S2), x ∈ S1 ++ S2 := fun x m => pm2.mem_iff.mp m
    have h2 : RelX C Z S' S2 ⟨sl.set i (.xw a dd), tm, n⟩ Θ σ H := ⟨h.fr, es', h.et, (List.nodup_append.mp nd2).2.1, fun x m => h.nz x (sub x (List.mem_append_right _ m)), fun p b q => ⟨(h.pu p b q).1, (h.pu p b q).2.1, fun m => (h.pu p b q).2.2 (sub p (List.mem_append_right _ m))⟩, h.ex, h.dj, fun j i' π v e' ev' => by
      obtain ⟨s, d', e1, w', g1, g2, g3, g4, wk⟩ := h.al j i' π v e' ev'
      exact ⟨s, d', e1, w', (List.getElem?_set_ne (al_set na e')).trans g1, g2, g3, g4, wk⟩⟩
    unfold own
    by_cases hn : nolist d = true
    · rw [if_pos hn]
      obtain ⟨rfl, t'⟩ := Tr.nolist (Z' := Z) d _ w t hn
      exact ⟨Z, S', _, h2.pushE (Z' := Z) (.fz t') List.nodup_nil (fun x m => nomatch m) (fun i π z => nomatch z)⟩
    · rw [if_neg hn]
      exact ⟨Z, S', _, h2.pushE (Z' := Z) (.ow t) (List.nodup_append.mp nd2).1 (fun x m => ⟨fun z => (List.nodup_append.mp nd2).2.2 x m x z rfl, h.nz x (sub x (List.mem_append_left _ m)), fun p b q z => (h.pu p b q).2.2 (z ▸ sub x (List.mem_append_left _ m))⟩) (fun i π z => nomatch z)⟩
theorem so_xval {a dd c cls : Addr} {i : Nat} : SoE xc (tXf a (.ref cls) (some dd) c "value" (tVar i)) (kXval c a dd cls i) := fun γ Θ σ H Q q R hk w => by
  obtain ⟨rfl, na, hk⟩ := hk
  obtain ⟨sl, tm, n⟩ := γ
  dsimp only at hk na
  split at hk
  · rename_i a' dd' d e
    obtain ⟨⟨rfl, rfl⟩, hk⟩ := hk
    obtain ⟨ev, w0, hd, R2⟩ := R.xval e na
    exact ⟨_, ev, rfl, rfl, dd', _, w0, rfl, hd, rfl, w _ _ H hk R2⟩
  · exact hk.elim
/-- what a callee lets out goes on as the def's own -/
theorem passOwn {P : Program} {w : World} {K : PySem.W.Frag} {mg : Str → Option Value} {base : Heap} {N : List Str} {qual : Str} {scope : Scope} {f : Addr} {cd : Value} {A : Around} {outer : List Env} {s : Shared} {H : Hp} {E : XK} :
    Passes (L2.CX P w) (cxOf (L2.CX P w) P w K mg base N qual scope f cd A outer s H E) E :=
  fun pins σ H1 s1 e s' I c => passes_call (takes_of rfl rfl rfl rfl) (fun _ _ _ _ h => h) pins σ H1 s1 e s' I c
end G
namespace G
open PySem PySem.Spec PyProof.Rows L2
variable {C : Cn} {xc : XC C}
section
variable {t ta tb : TE} {ko ka kb : KE}
def rIns : V → List V → Hp → VK → Prop := fun x vs H Q => ∃ (l : Addr) (xs : List V) (i : Int) (y : V), x = .ref l ∧ vs = [.int i, y] ∧ H l = some (.lst xs) ∧ xs.length < sizeLine ∧ 0 ≤ i ∧ i < 2 ^ 63 ∧
    Q .non (upd H l (.lst (xs.take i.toNat ++ [y] ++ xs.drop i.toNat)))
def kIns (ko ki ke : KE) : KE := fun γ q => ko γ fun γ1 => isLst γ1 ∧ ki γ1 fun γ2 => ke γ2 fun γ3 => match γ3.tm with
  | .fz (.int y) :: .fz (.int k) :: .al i π :: tm => noAl i tm = true ∧ wrL γ3.sl i π fun b d es => ((b = true ∨ π = []) ∧ ioOk γ3.sl i b) ∧ (nolists es = true ∧ es.length < 10000000 ∧ 0 ≤ k ∧ k < 10000000) ∧ q ⟨putS γ3.sl i b (setP d π (.list (es.take k.toNat ++ [.int y] ++ es.drop k.toNat))), .fz .none :: tm, γ3.n⟩
  | _ => False
theorem so_ins {K : PySem.W.Frag} (ho : SoE xc t ko) (hi : SoE xc ta ka) (he : SoE xc tb kb) : SoE xc (tBM K "list" rIns t (tCons ta (tCons tb tNil))) (kIns ko ka kb) := fun γ Θ σ H Q q R hk w => ho γ Θ σ H _ _ R hk fun γ1 v H1 hk1 R1 =>
  ⟨tyV_of R1 hk1.1, hi γ1 _ σ H1 _ _ R1 hk1.2 fun γ2 u1 H2 hk2 R2 => he γ2 _ σ H2 _ _ R2 hk2 fun γ3 u2 H3 hk3 R3 => by
    obtain ⟨sl, tm, j⟩ := γ3
    dsimp only at hk3
    split at hk3
    · rename_i y k i π tm
      obtain ⟨na, hw⟩ := hk3
      obtain ⟨s0, b, d, es, e1, hs, eds, e2, ⟨hb, hio⟩, ⟨hn, hl, k0, k1⟩, hq⟩ := wrL_inv hw
      rw [putS_eq e1] at hq
      obtain ⟨Z, S1, S2, X⟩ := R3
      obtain ⟨w0, ew, wk⟩ := X.walk (j := 2) rfl rfl
      obtain ⟨A, B, en, X1, f⟩ := RelX.popF (ss := [.fz (.int y), .fz (.int k), .al i π]) (us := [u2, u1, v]) X rfl
      obtain ⟨rfl, rfl, rfl⟩ : A = [] ∧ u2 = .int y ∧ u1 = .int k := by
        cases en with
        | cons e1 e2 =>
          cases e2 with
          | cons e2 e3 =>
            cases e3 with
            | cons e3 e4 =>
              cases e4
              cases e3
              cases e1 with
              | fz t1 => cases e2 with
                | fz t2 =>
                  cases t1
                  cases t2
                  exact ⟨rfl, rfl, rfl⟩
      obtain ⟨a, vs, T, rfl, ha, ts, aA, aZ, aT, put⟩ := X1.putF f e1 hs na ew wk e2 hb
      have el := ts.length
      obtain ⟨eT, ts0⟩ := Trs.nolist (Z' := rgn b Z) es T vs ts hn
      subst eT
      have t0 : Trs (upd H3 a (.lst (vs.take k.toNat ++ [V.int y] ++ vs.drop k.toNat))) (rgn b Z) [] vs es := ts0.upd ha aZ fun x m => nomatch m
      have t1 : Trs (upd H3 a (.lst (vs.take k.toNat ++ [V.int y] ++ vs.drop k.toNat))) (rgn b Z) [] (vs.take k.toNat ++ [V.int y] ++ vs.drop k.toNat) (es.take k.toNat ++ [.int y] ++ es.drop k.toNat) :=
        ((t0.take rfl k.toNat).append (.cons (S := []) (.int y) .nil)).append (t0.drop rfl k.toNat)
      obtain ⟨S1', X2, _⟩ := put (vs.take k.toNat ++ [V.int y] ++ vs.drop k.toNat) (es.take k.toNat ++ [.int y] ++ es.drop k.toNat) b [] [] (.inl rfl) (ioOk_at hio e1) t1 (by simp)
      have R4 : Rel C ⟨_, tm, j⟩ Θ σ (upd H3 a (.lst (vs.take k.toNat ++ [V.int y] ++ vs.drop k.toNat))) := ⟨_, _, _, X2⟩
      exact ⟨a, vs, k, .int y, rfl, rfl, ha, szlt (by omega), k0, by omega, w _ _ _ hq (R4.push fun Z => .non)⟩
    · exact hk3.elim⟩
end
end G
namespace PySem
open Sem (wp)
open AutoSeq1 (wpAny_loadPart')
open PySem.W (KdxIt kdx_alive)
section
variable {prog : Program} {w : World} {A : Around} {E : Value → Shared → Prop} {s : Shared}
/-- a zip, whatever became of the tuple that it gave out -/
def ZipAny (h : Heap) (z TI TO : Addr) : Prop := IsZip h z TI TO .none ∨ ∃ (T : Addr) (f : Bool), IsZipHeld h z TI TO T f
theorem ZipAny.at {h h' : Heap} {z TI TO : Addr} (x : ZipAny h z TI TO) (k : ∀ o, h.get? z = some o → h'.get? z = some o) : ZipAny h' z TI TO := by
  rcases x with x | ⟨T, f, x⟩
  · exact .inl (k _ x)
  · exact .inr ⟨T, f, k _ x⟩
theorem ZipAny.there {h : Heap} {z TI TO : Addr} (x : ZipAny h z TI TO) : ∃ vs, h.get? z = some { cls := .type "zip", dict := none, data := .fields vs, slots := #[] } := by
  rcases x with x | ⟨T, f, x⟩
  · exact ⟨_, x⟩
  · exact ⟨_, x⟩
end
end PySem
namespace L2
open PySem PySem.Spec PyProof.Rows
end L2
namespace G
open PySem PySem.Spec PyProof.Rows L2
variable {C : Cn} {xc : XC C}
section
variable {K : PySem.W.Frag} {ta tb : TE} {ka kb : KE}
def kEz (ka kb : KE) : KI := fun γ q => kZip ka kb γ fun ds γ1 => q (enumD 0 ds) γ1
end
end G
namespace G
open PySem PySem.Spec PyProof.Rows L2
variable {C : Cn} {xc : XC C}
def vSumT : List D → (D → Prop) → Prop := fun ds q => match ds with
  | [.tuple es] => (intsOf es).elim False fun ns => q (.int ns.sum)
  | _ => False
end G
namespace G
open PySem PySem.Spec PyProof.Rows L2
variable {C : Cn} {xc : XC C}
/-- tuple(xs) of a name whose list stays its own -/
def kTupV (i : Nat) : KE := fun γ q => match γ.sl[i]? with
  | some (.ow false (.list ds)) => q ⟨γ.sl, .fz (.tuple ds) :: γ.tm, γ.n⟩
  | _ => False
end G
namespace G
open PySem PySem.Spec PyProof.Rows L2
def vMaxL : List D → (D → Prop) → Prop := fun ds q => match ds with
  | [.list es] => (intsOf es).elim False fun ns => 0 < ns.length ∧ ∀ m, m ∈ ns → (∀ y, y ∈ ns → y ≤ m) → q (.int m)
  | _ => False
end G
namespace G
open PySem PySem.Spec PyProof.Rows L2
variable {C : Cn} {xc : XC C}
section
variable {K : PySem.W.Frag}
/-- xs[k] of names: the item goes out of the list -/
def kIxTake (r k : Nat) : KE := fun γ q => match γ.sl[r]?, γ.sl[k]? with
  | some (.ow true (.list ds)), some (.fz (.int i)) => (noAl r γ.tm = true ∧ 0 ≤ i ∧ i < ds.length) ∧ (ds[i.toNat]?).elim False fun d => q ⟨γ.sl.set r (.ho ds i.toNat), own d :: γ.tm, γ.n⟩
  | _, _ => False
/-- xs[k] = e of names: the place that was left is filled -/
def kgFill (r k : Nat) : KG := fun γ q => match γ.tm, γ.sl[r]?, γ.sl[k]? with
  | s :: tm, some (.ho ds i), some (.fz (.int j)) => (con s).elim False fun c => (c.1 = true ∧ noAl r (s :: tm) = true ∧ j = (i : Int) ∧ i < ds.length) ∧ q ⟨γ.sl.set r (.ow true (.list (ds.set i c.2))), tm, γ.n⟩
  | _, _, _ => False
/-- list(t) of a whole tuple that is given away -/
def kListMv (ka : KE) : KE := fun γ q => ka γ fun γ1 => match γ1.tm with
  | .ow true (.tuple ds) :: tm => q ⟨γ1.sl, .ow true (.list ds) :: tm, γ1.n⟩
  | _ => False
end
end G
namespace G
open PySem PySem.Spec PyProof.Rows L2
section
variable {C : Cn} {Z : Reg} {S1 S2 A : List Addr} {γ : VSt} {Θ : List V} {σ : L2.St} {H H' : Hp} {sl tm : List Sl} {n n' : Int} {v : V} {s : Sl} {d : D} {i : Nat}
/-- a temp that may be frozen -/
def fzD : Sl → Option D
  | .fz d => some d
  | .ow _ d => some d
  | _ => none
def fzA : Nat → List Sl → Option (List D × List Sl)
  | 0, tm => some ([], tm)
  | _ + 1, [] => none
  | n + 1, s :: tm => (fzD s).bind fun d => (fzA n tm).bind fun x => some (x.1 ++ [d], x.2)
end
section
variable {C : Cn} {xc : XC C} {k n : Nat} {ka kb : KE}
def kCallS (W : Tw) (n : Nat) (ka : KE) : KE := fun γ q => ka γ fun γ1 => (fzA n γ1.tm).elim False fun x => W x.1 fun d => q ⟨γ1.sl, .fz d :: x.2, γ1.n⟩
def kCallSK (W : Tw) (ix : List Nat) (n : Nat) (ka : KE) : KE := fun γ q => ka γ fun γ1 => (fzA n γ1.tm).elim False fun x => W (ix.filterMap fun i => x.1[i]?) fun d => q ⟨γ1.sl, .fz d :: x.2, γ1.n⟩
def kCallPS (c : Int) (W : Tw) (n : Nat) (ka : KE) : KE := fun γ q => ka γ fun γ1 => (fzA n γ1.tm).elim False fun x => match x.2 with
  | .pu :: r => (0 ≤ c ∧ c ≤ γ1.n) ∧ W x.1 fun d => q ⟨γ1.sl, .fz d :: r, γ1.n - c⟩
  | _ => False
end
end G
namespace PySem
open Sem (wp)
end PySem
namespace G
open PySem PySem.Spec PyProof.Rows L2
def v4I (g : Int → Int → Int → Int → Int) : List D → (D → Prop) → Prop := fun ds q => match ds with
  | [.int i, .int j, .int k, .int l] => q (.int (g i j k l))
  | _ => False
end G
namespace G
open PySem PySem.Spec PyProof.Rows L2
section
variable {P : Program} {w : World} {H : Hp} {h : Heap}
mutual
/-- a tree reads as its data -/
theorem Rep.reads (ok : HOk P w H h) : ∀ (d : D) (S : List Addr) (v : V) (u : Value), Rep H S v d → RelV v u → ∃ as, Reads h u d as
  | .none, _, _, _, r, q => by cases r; cases q; exact ⟨_, .none⟩
  | .bool b, _, _, _, r, q => by cases r; cases q; exact ⟨_, .bool b⟩
  | .int i, _, _, _, r, q => by cases r; obtain ⟨t, rfl⟩ := q; exact ⟨_, .int i t⟩
  | .str x, _, _, _, r, q => by cases r; obtain ⟨t, rfl⟩ := q; exact ⟨_, .str x t⟩
  | .list ds, _, _, _, r, q => by
    cases r with
    | lst e rs =>
      cases q
      obtain ⟨z, its, n, rv, ho⟩ := ok _ _ e
      obtain ⟨as, ra⟩ := Reps.readsA ok ds _ _ its rs rv
      exact ⟨_, .list ho rfl rfl ra⟩
  | .tuple ds, _, _, _, r, q => by
    cases r with
    | tup e rs =>
      cases q
      obtain ⟨z, its, rv, ob, ho, hc, n, hd⟩ := ok _ _ e
      obtain ⟨as, ra⟩ := Reps.readsA ok ds _ _ its rs rv
      exact ⟨_, .tuple ho hc hd ra⟩
  | .dict _, _, _, _, r, _ => by cases r
theorem Reps.readsA (ok : HOk P w H h) : ∀ (ds : List D) (S : List Addr) (vs : List V) (us : List Value), Reps H S vs ds → Vals vs us → ∃ as, ReadsAll h us ds as
  | [], _, _, _, r, q => by cases r; cases q; exact ⟨_, .nil⟩
  | d :: ds, _, _, _, r, q => by
    cases r with
    | cons r1 r2 =>
      cases q with
      | cons q1 q2 =>
        obtain ⟨as, h1⟩ := Rep.reads ok d _ _ _ r1 q1
        obtain ⟨bs, h2⟩ := Reps.readsA ok ds _ _ _ r2 q2
        exact ⟨_, .cons h1 h2⟩
end
end
/-- what may be sorted -/
structure SortOk (ds : List D) : Prop where
  len : ds.length ≤ 10000000
  al : PySem.W.AllAlike ds
  so : PySem.W.Sortable ds
  dp : ∀ d ∈ ds, d.depth ≤ 50
def sortD (ds : List D) : List D := ds.mergeSort (PySem.W.dataLe false id)
section
variable {C : Cn} {xc : XC C} {K : PySem.W.Frag} {ts : TA} {ka kb : KE} {n : Nat}
def kSortD (ka : KE) : KE := fun γ q => ka γ fun γ1 => match γ1.tm with
  | s :: tm => (shr γ1.sl s true).elim False fun ds => SortOk ds ∧ q ⟨γ1.sl, newL (sortD ds) :: tm, γ1.n⟩
  | [] => False
/-- what is given an owned tree, and tells True -/
def kCallE (ka : KE) : KE := fun γ q => ka γ fun γ1 => match γ1.tm with
  | .ow true d :: tm => Sh 7 1000000 d ∧ nl d ≤ 10000 ∧ q ⟨γ1.sl, .fz (.bool true) :: tm, γ1.n⟩
  | _ => False
end
end G
namespace G
open PySem PySem.Spec PyProof.Rows L2
section
variable {K : PySem.W.Frag} {C : Cn} {xc : XC C}
/-- xs[c] of a name whose spine is owned: a frozen item -/
def kIxF (r : Nat) (c : Int) : KE := fun γ q => match γ.sl[r]? with
  | some (.ow false (.list ds)) => ixD ds c fun _ d => q ⟨γ.sl, .fz d :: γ.tm, γ.n⟩
  | _ => False
/-- o[-1] = e -/
def kgSubN (ko ki : KE) : KG := fun γ q => ko γ fun γ1 => ki γ1 fun γ2 => match γ2.tm with
  | .fz (.int kk) :: .al i π :: s :: tm => (con s).elim False fun c => noAl i tm = true ∧ wrL γ2.sl i π fun b d es => (((b && c.1) = true ∨ π = []) ∧ ioOk γ2.sl i (b && c.1)) ∧ (kk < 0 ∧ 0 ≤ kk + es.length) ∧ q ⟨putS γ2.sl i (b && c.1) (setP d π (.list (es.set (kk + es.length).toNat c.2))), tm, γ2.n⟩
  | _ => False
/-- a list of ints, some times -/
def kRepM (ka kb : KE) : KE := fun γ q => ka γ fun γ1 => kb γ1 fun γ2 => match γ2.tm with
  | .fz (.int j) :: s :: tm => (shr γ2.sl s true).elim False fun ds => (intsOf ds).elim False fun ns => (-1000000 ≤ j ∧ j ≤ 1000 ∧ ns.length ≤ 1000) ∧ q ⟨γ2.sl, .ow true (dI (List.replicate j.toNat ns).flatten) :: tm, γ2.n⟩
  | _ => False
end
end G
namespace G
open PySem PySem.Spec PyProof.Rows L2
def rIsX (K : PySem.W.Frag) (D a : Addr) (cls : Value) (d : Option Addr) : List V → Hp → VK → Prop := fun xs H Q => ∃ (dd : Addr) (fs : List (Str × V)) (c : Addr) (b : Bool), cls = .ref D ∧ d = some dd ∧ H dd = some (.xd fs) ∧ xs = [.ref a, .ref c] ∧ PySem.W.kitOne K (.ref D) (.ref c) = some b ∧ Q (.bl b) H
def rIsXT (K : PySem.W.Frag) (D a : Addr) (cls : Value) (d : Option Addr) : List V → Hp → VK → Prop := fun xs H Q => ∃ (dd tp : Addr) (fs : List (Str × V)) (cs : List Addr) (b : Bool), cls = .ref D ∧ d = some dd ∧ H dd = some (.xd fs) ∧ xs = [.ref a, .ref tp] ∧ H tp = some (.tup (cs.map V.ref)) ∧ PySem.W.kitAny K (.ref D) (cs.map Value.ref) = some b ∧ Q (.bl b) H
theorem refs_of : ∀ {cs : List Addr} {us : List Value}, Vals (cs.map V.ref) us → us = cs.map Value.ref
  | [], _, h => by cases h; rfl
  | c :: cs, _, h => by
    cases h with
    | cons r t =>
      rw [refs_of t]
      cases r
      rfl
section
variable {X : Cx} {a D : Addr} {oe : Obj} {cls : Value} {d : Option Addr} {pn : List (Addr × Obj)}
theorem isX_at (T : ExcC X.K D) (hz : Zc cls d oe) (hf : ∃ vs, oe.data = .fields vs) {pins : List (Addr × Obj)} {σ : L2.St} {H : Hp} {s : Shared} (I : Inv (X.suite a ((a, oe) :: pn)) pins σ H s) {dd : Addr} {fs : List (Str × V)} (ec : cls = .ref D) (ed : d = some dd) (ex : H dd = some (.xd fs)) :
    ∃ od, PySem.W.KitX X.K (.ref a) (.ref D) (fun h => PySem.W.InstAt h a oe D (some od)) ∧ PySem.W.InstAt s.heap a oe D (some od) := by
  subst ec ed
  obtain ⟨mA, hns, _⟩ := (show ObjOk X.prog X.w H s.heap dd (.xd fs) from I.hok dd _ ex)
  obtain ⟨od, ho, _⟩ := lookIn_ns hns
  obtain ⟨ha, _⟩ := I.pin (a, oe) (List.mem_append_left _ List.mem_cons_self)
  obtain ⟨vs, hv⟩ := hf
  obtain ⟨cd, hc, _⟩ := PySem.W.any_some T.hd
  refine ⟨od, PySem.W.kitx_exc (by rw [hc]; rfl) T.hg T.hk T.hs T.ha T.hn T.ht T.hm, ha, hz.1, ?_, ?_⟩
  · unfold PySem.W.notCls
    rw [hv]
  · rw [hz.2]
    exact ho
theorem call_isX (T : ExcC X.K D) (hz : Zc cls d oe) (hf : ∃ vs, oe.data = .fields vs) : CallR (X.suite a ((a, oe) :: pn)) (.builtin "isinstance") (rIsX X.K D a cls d) := by
  intro pins s σ H xs us Q I r ⟨dd, fs, c, b, ec, ed, ex, exs, e, q⟩
  subst exs
  cases r with
  | cons rx rr =>
    cases rr with
    | cons rt rr =>
      cases rr
      cases rx
      cases rt
      obtain ⟨od, Z, J⟩ := isX_at T hz hf I ec ed ex
      exact PySem.W.kia_one Z I.kIn J e (fun z => nomatch z) fun tk => ⟨.bl b, H, I.kept (t' := tk) fun _ _ z => z, rfl, q⟩
theorem call_isXT (T : ExcC X.K D) (hz : Zc cls d oe) (hf : ∃ vs, oe.data = .fields vs) : CallR (X.suite a ((a, oe) :: pn)) (.builtin "isinstance") (rIsXT X.K D a cls d) := by
  intro pins s σ H xs us Q I r ⟨dd, tp, fs, cs, b, ec, ed, ex, exs, et, e, q⟩
  subst exs
  cases r with
  | cons rx rr =>
    cases rr with
    | cons rt rr =>
      cases rr
      cases rx
      cases rt
      obtain ⟨od, Z, J⟩ := isX_at T hz hf I ec ed ex
      obtain ⟨_, its, rv, ot, h1, h2, h3⟩ := (show ObjOk X.prog X.w H s.heap tp (.tup (cs.map V.ref)) from I.hok tp _ et)
      have ei := refs_of rv
      subst ei
      obtain ⟨oc, od2, oda, osl⟩ := ot
      dsimp only at h2 h3
      subst h2
      obtain ⟨n, h3⟩ : ∃ n, oda = .seq (cs.map Value.ref).toArray n := by first | exact ⟨_, h3⟩ | exact h3
      subst h3
      exact PySem.W.kia_tup Z I.kIn J h1 e (fun z => nomatch z) fun tk => ⟨.bl b, H, I.kept (t' := tk) fun _ _ z => z, rfl, q⟩
end
/-- the class names of a display -/
def tCs : List Addr → TA
  | [] => tNil
  | c :: cs => tCons (tC (.ref c)) (tCs cs)
theorem tCs_run {cs : List Addr} {σ : L2.St} {H : Hp} {Q : List V → Hp → Prop} (h : Q (cs.map V.ref) H) : tCs cs σ H Q := by
  induction cs generalizing Q with
  | nil => exact h
  | cons c cs ih => exact ih (Q := fun vs H2 => Q (.ref c :: vs) H2) h
variable {C : Cn} {xc : XC C}
def kIsX (K : PySem.W.Frag) (D c a dd cls : Addr) (i : Nat) : KE := fun γ q => cls = D ∧ ∃ b, PySem.W.kitOne K (.ref D) (.ref c) = some b ∧ match γ.sl[i]? with
  | some (.xw a' dd') => (a' = a ∧ dd' = dd) ∧ q ⟨γ.sl, .fz (.bool b) :: γ.tm, γ.n⟩
  | _ => False
def kIsXT (K : PySem.W.Frag) (D : Addr) (cs : List Addr) (a dd cls : Addr) (i : Nat) : KE := fun γ q => cls = D ∧ ∃ b, PySem.W.kitAny K (.ref D) (cs.map Value.ref) = some b ∧ match γ.sl[i]? with
  | some (.xw a' dd') => (a' = a ∧ dd' = dd) ∧ q ⟨γ.sl, .fz (.bool b) :: γ.tm, γ.n⟩
  | _ => False
theorem Rel.xwAt {γ : VSt} {Θ : List V} {σ : L2.St} {H : Hp} {i : Nat} {a dd : Addr} (R : Rel C γ Θ σ H) (e : γ.sl[i]? = some (.xw a dd)) : σ[i]? = some (some (.ref a)) ∧ ∃ fs, H dd = some (.xd fs) := by
  obtain ⟨Z, S1, S2, h⟩ := R
  obtain ⟨v, T, R', ev, en, pm, k⟩ := h.es.at e
  cases en with
  | xw h1 => exact ⟨ev, _, h1⟩
theorem so_isX {K : PySem.W.Frag} {D c a dd cls : Addr} {i : Nat} : SoE xc (tCB (rIsX K D a (.ref cls) (some dd)) (tCons (tVar i) (tCons (tC (.ref c)) tNil))) (kIsX K D c a dd cls i) := fun γ Θ σ H Q q R hk w => by
  obtain ⟨rfl, b, e, hk⟩ := hk
  split at hk
  · rename_i a' dd' es
    obtain ⟨⟨rfl, rfl⟩, hk⟩ := hk
    obtain ⟨ev, fs, hd⟩ := R.xwAt es
    exact ⟨_, ev, dd', fs, c, b, rfl, rfl, hd, rfl, e, w _ _ H hk (R.push fun Z => .bl b)⟩
  · exact hk.elim
theorem so_isXT {K : PySem.W.Frag} {D : Addr} {cs : List Addr} {a dd cls : Addr} {i : Nat} (hl : cs.length ≤ 100) : SoE xc (tCB (rIsXT K D a (.ref cls) (some dd)) (tCons (tVar i) (tCons (tTup (tCs cs)) tNil))) (kIsXT K D cs a dd cls i) := fun γ Θ σ H Q q R hk w => by
  obtain ⟨rfl, b, e, hk⟩ := hk
  split at hk
  · rename_i a' dd' es
    obtain ⟨⟨rfl, rfl⟩, hk⟩ := hk
    obtain ⟨ev, fs, hd⟩ := R.xwAt es
    refine ⟨_, ev, tCs_run ⟨szle (by rw [List.length_map]; omega), fun p hp => ?_⟩⟩
    have sm : Same H (upd H p (.tup (cs.map V.ref))) := fun x o ex => by rw [upd_ne (ne_of_none ex hp)]; exact ex
    exact ⟨dd', p, fs, cs, b, rfl, rfl, sm _ _ hd, rfl, upd_same, e, w _ _ _ hk ((R.same sm).push fun Z => .bl b)⟩
  · exact hk.elim
end G
namespace G
open PySem PySem.Spec PyProof.Rows L2
variable {C : Cn} {xc : XC C}
theorem Trs.rev {H : Hp} {Z : Reg} : ∀ {ds : List D} {S : List Addr} {vs : List V}, Trs H Z S vs ds → ∃ S', S'.Perm S ∧ Trs H Z S' vs.reverse ds.reverse
  | [], _, _, h => by
    cases h
    exact ⟨_, .refl _, .nil⟩
  | d :: ds, _, _, h => by
    cases h with
    | @cons A B _ _ _ _ h1 h2 =>
      obtain ⟨S', p, q⟩ := Trs.rev h2
      have := Trs.append q (.cons h1 .nil)
      rw [List.append_nil] at this
      rw [List.reverse_cons, List.reverse_cons]
      exact ⟨_, List.perm_append_comm.trans (List.Perm.append_left A p), this⟩
section
variable {t : TE} {ko : KE}
def kClear (ko : KE) : KE := fun γ q => ko γ fun γ1 => isLst γ1 ∧ match γ1.tm with
  | .al i π :: tm => noAl i tm = true ∧ wrL γ1.sl i π fun b d _ => ((b = true ∨ π = []) ∧ ioOk γ1.sl i b) ∧ q ⟨putS γ1.sl i b (setP d π (.list [])), .fz .none :: tm, γ1.n⟩
  | _ => False
theorem so_clear {K : PySem.W.Frag} (ho : SoE xc t ko) : SoE xc (tBM0 K "list" rClear t) (kClear ko) := fun γ Θ σ H Q q R hk w => ho γ Θ σ H _ _ R hk fun γ1 v H1 hk1 R1 =>
  ⟨tyV_of R1 hk1.1, by
    obtain ⟨sl, tm, j⟩ := γ1
    obtain ⟨hL, hk1⟩ := hk1
    dsimp only at hk1
    split at hk1
    · rename_i i π tm
      obtain ⟨na, hw⟩ := hk1
      obtain ⟨s0, b, d, es, e1, hs, eds, e2, ⟨hb, hio⟩, hq⟩ := wrL_inv hw
      rw [putS_eq e1] at hq
      obtain ⟨Z, S1, S2, X⟩ := R1
      obtain ⟨w0, ew, wk⟩ := X.walk (j := 0) rfl rfl
      obtain ⟨A, B, en, X1, f⟩ := RelX.popF (ss := [.al i π]) (us := [v]) X rfl
      obtain ⟨a, vs, T, rfl, ha, ts, aA, aZ, aT, put⟩ := X1.putF f e1 hs na ew wk e2 hb
      obtain ⟨S1', X2, _⟩ := put [] [] b [] (T ++ A) (.inl rfl) (ioOk_at hio e1) .nil (by simp)
      have R4 : Rel C ⟨_, tm, j⟩ Θ σ (upd H1 a (.lst [])) := ⟨_, _, _, X2⟩
      exact ⟨a, vs, rfl, rfl, ha, w _ _ _ hq (R4.push fun Z => .non)⟩
    · exact hk1.elim⟩
def kReverse (ko : KE) : KE := fun γ q => ko γ fun γ1 => isLst γ1 ∧ match γ1.tm with
  | .al i π :: tm => noAl i tm = true ∧ wrL γ1.sl i π fun b d es => ((b = true ∨ π = []) ∧ ioOk γ1.sl i b) ∧ q ⟨putS γ1.sl i b (setP d π (.list es.reverse)), .fz .none :: tm, γ1.n⟩
  | _ => False
end
end G
local macro_rules | `(tactic| walk_at "mem") => `(tactic| (repeat (first | exact List.Mem.head _ | apply List.Mem.tail)))
local macro_rules | `(tactic| walk_at "pick") => `(tactic| (repeat (first | exact G.Pick.hd | apply G.Pick.tl)))
local macro_rules | `(tactic| walk_at "lit") => `(tactic| (repeat (first | exact G.lit_int | exact G.litA_nil | exact G.lit_bool | exact G.lit_none | exact G.lit_str | refine G.lit_tup ?_ | refine G.lit_lst ?_ | refine G.litA_cons ?_ ?_)))
local macro_rules | `(tactic| walk_at "up") => `(tactic| (repeat (first | assumption | exact G.Rdb.int _ | apply G.Rdb.upO | apply G.Rdb.upT | apply G.Rdb.upF)))
local macro_rules | `(tactic| walk_at "memu") => `(tactic| (repeat (first | exact List.Mem.head _ | assumption | apply List.Mem.tail)))
local macro_rules | `(tactic| walk_at "picku") => `(tactic| (repeat (first | exact G.Pick.hd | assumption | apply G.Pick.tl)))
local macro_rules | `(tactic| walk_at "ev") => `(tactic| try simp (config := { maxSteps := 2000000 }) only [G.kC, G.kCallS, G.kCallSK, G.kCallPS, G.fzA, G.fzD, G.v4I, G.kSortD, G.kIxF, G.kRepM, G.kgSubN, G.kCallE, G.kEz, G.kIns, G.kClear, G.kReverse, G.kCallX, G.kCallXK, G.kRaise, G.kTry, G.hdX, G.hdE, G.kXval, G.kFz, G.kCallW, G.kCallIA, G.kgUnl, G.itL, G.kThr, G.datS_sh, G.chg_sh, G.chg_tup, G.chg_lst, G.kSink, G.kLenD, G.kLenSet, G.kRepN, G.kCallTM, G.kDivmod, G.kMaxDef, G.kReprL, G.kLc2, G.vInD, G.vIdxD, G.kTupOf, G.kTupV, G.kIxTake, G.kgFill, G.kListMv, G.kDNew, G.kDNewT, G.topK, G.kDGet, G.kDIn, G.kDPut, G.dgS, G.dpS, G.dlS, G.isDc, G.keyD, G.keysD, G.valM_nil, Option.map_some, Option.isSome_none, Option.isSome_some, G.okS_dc, G.okS_dt, G.noAl_dc, G.noAl_dt, G.kVar, G.kFrz, G.kMov, G.kNil, G.kCons, G.kOp, G.vI, G.vB, G.noC, G.vEq, G.vIn, G.vIsN, G.vEqD, G.kChain, G.kUn, G.vNeg, G.kF, G.vLen, G.v2I, G.v1I, G.v3I, G.vInt, G.vAll, G.vSum, G.vSumT, G.vMaxL, G.vRepr, G.kTest, G.kTAnd, G.kTOr, G.kTNot, G.kYes, G.popB, G.pushB, G.kAndV, G.kOrV, G.kNotV, G.kIf, G.popC, G.kMk, G.look_mkL, G.okS_mkL, G.mkS_lt, G.mkS_lf, G.mkS_tt, G.mkS_tf, G.own_int, G.own_bool, G.own_str, G.own_none, G.own_list, G.own_tup, G.con_own, G.okS_own, G.look_own, G.dq, G.kIx, G.seqD, G.subS_fz, G.subS_ow, G.subS_of, G.subS_al, G.kListOf, G.shr, G.kNo, G.popI, G.kPart, G.kSl, G.kCat, G.kRg2, G.kRg1, G.kListRg, G.kCallT, G.kCallTK, G.kCallP, G.isLst, G.kM, G.vCnt, G.vIdx, G.kApp, G.wrL, G.atP, G.setP, G.kPop, G.kPopAt, G.popK, G.kgSub, G.frzSeq, G.kIt, G.kRng1, G.kRng2, G.kgName, G.okS_fz, G.okS_ow, G.okS_pu, G.okS_al, G.noAl_nil, G.noAl_fz, G.noAl_ow, G.noAl_pu, G.noAl_al, G.noAl_own, G.con_fz, G.con_ow, G.kgNil, G.kgCons, G.kgTup, G.itS, G.kAsg, G.kPar, G.kPar3, G.kAug, G.kDrop, G.kRet, G.kRetN, G.kNever, G.kNext, G.kBreak, G.kCont, G.kSeq, G.kIfS, G.kFor, G.kLc, G.kEnum, G.kZip, G.look_fz, G.look_ow, G.look_al, G.datS_fz, G.datS_ow, G.datS_own, G.datN, G.nolist, G.nolists, G.nolists_ints, G.kLit, G.kRngD, G.kCallI, G.kCallV, G.vBits, G.reS_io, G.reS_ow, G.putS_set, G.datS_io, G.ownF_ow, G.ownF_io, G.edI_rt, G.edI_nx, G.ioD_c, G.giv_ow, G.giv_fz, G.giv_own, G.ioOk, G.cutD_lastI, G.cutD_initI, G.inV_intsD, G.allflat_ints, Option.getD_some, G.edT_rt, G.edP_rt, G.edT_nx, G.edP_nx, G.rtN_fz, G.rtN_ow, G.rtN_own, G.ixD_0, G.ixD_1, G.ixD_2, G.intsOf_map, G.boolsOf_map, G.newL, G.nolists_app, G.flatD, G.vOf,
  List.map_cons, List.map_nil, List.cons_append, List.nil_append, List.append_nil, List.getElem?_cons_zero, List.getElem?_cons_succ, List.getElem?_nil, List.set_cons_zero, List.set_cons_succ, List.getD_cons_zero, List.getD_cons_succ, List.length_cons, List.length_nil, List.length_map, List.all_cons, List.all_nil, List.tail_cons, List.filterMap_cons_some, List.filterMap_nil, Option.elim, Option.bind_some, Option.bind_none, Option.orElse, Option.map_some, Bool.and_true, Bool.true_and, Bool.and_false, Bool.false_and, Bool.not_true, decide_true, Bool.not_false, Bool.false_xor, Bool.true_xor, if_true, if_false, true_and, and_true, true_or, or_true, eq_self, reduceIte, ite_true, ite_false, Bool.false_eq_true, Nat.zero_add, Nat.reduceAdd, implies_true, bne_self_eq_false])
namespace My
open PySem PySem.Spec PyProof.Rows L2 G
theorem bits_of {i : Int} {n : Nat} (h0 : 0 < n) (h : i.natAbs < 2 ^ n) : Builtin.Int.intBits i ≤ n := by
  have := PySem.Flt.log2_lt_of h0 h
  unfold Builtin.Int.intBits
  split <;> omega
/-- how many places are left, and how many things are needed, if straight places at the end are cut -/
def trim (gs : List Int) : Nat → Int → Nat × Int
  | 0, n => (0, n)
  | k + 1, n => if gs[k]? = some n ∧ (∀ x ∈ gs.take k, x < n) then trim gs k (n - 1) else (k + 1, n)
def leastE (n : Int) (gs : List Int) : Int × List Int := ((trim gs gs.length n).2, gs.take (trim gs gs.length n).1)
theorem trim_le (gs : List Int) : ∀ (k : Nat) (n : Int), (trim gs k n).1 ≤ k
  | 0, _ => Nat.le_refl _
  | k + 1, n => by
    unfold trim
    split
    · exact Nat.le_succ_of_le (trim_le gs k _)
    · exact Nat.le_refl _
/-- an effect, told in its least way or not -/
structure Eff (e : Int × List Int) : Prop where
  nn : 0 ≤ e.1
  ge : ∀ x ∈ e.2, 1 ≤ x
  le : ∀ x ∈ e.2, x ≤ e.1
/-- the greatest of a list and zero -/
def top (gs : List Int) : Int := gs.foldl (fun a x => max a x) 0
theorem top_app (gs : List Int) (x : Int) : top (gs ++ [x]) = max (top gs) x := by unfold top; simp [List.foldl_append]
theorem top_lt {gs : List Int} {n : Int} (h : 0 < n) : top gs < n ↔ ∀ x ∈ gs, x < n := by
  have aux : ∀ (l : List Int) (a : Int), l.foldl (fun a x => max a x) a < n ↔ a < n ∧ ∀ x ∈ l, x < n := by
    intro l
    induction l with
    | nil => intro a; simp
    | cons y l ih =>
      intro a
      rw [List.foldl_cons, ih]
      constructor
      · rintro ⟨h1, h2⟩
        refine ⟨by omega, fun x hx => ?_⟩
        rcases List.mem_cons.mp hx with rfl | hx
        · omega
        · exact h2 x hx
      · rintro ⟨h1, h2⟩
        have := h2 y List.mem_cons_self
        exact ⟨by omega, fun x hx => h2 x (List.mem_cons_of_mem _ hx)⟩
  unfold top
  rw [aux]
  exact ⟨fun z => z.2, fun z => ⟨h, z⟩⟩
/-- the tops of all beginnings -/
def tops (gs : List Int) : List Int := (List.range (gs.length + 1)).map fun k => top (gs.take k)
theorem tops_app (gs : List Int) (x : Int) : tops (gs ++ [x]) = tops gs ++ [max (top gs) x] := by
  unfold tops
  rw [List.length_append, List.length_singleton, List.range_succ, List.map_append]
  congr 1
  · refine List.map_congr_left fun k hk => ?_
    rw [List.mem_range] at hk
    rw [List.take_append_of_le_length (by omega)]
  · rw [List.map_singleton]
    have e : (gs ++ [x]).take (gs.length + 1) = gs ++ [x] := List.take_of_length_le (by simp)
    rw [e, top_app]
theorem tops_len (gs : List Int) : (tops gs).length = gs.length + 1 := by unfold tops; simp
theorem tops_at {gs : List Int} {k : Nat} (h : k ≤ gs.length) : (tops gs)[k]? = some (top (gs.take k)) := by
  unfold tops
  rw [List.getElem?_map, List.getElem?_range (by omega)]
  rfl
theorem trim_pre (gs es : List Int) : ∀ (k : Nat) (n : Int), k ≤ gs.length → trim (gs ++ es) k n = trim gs k n
  | 0, _, _ => rfl
  | k + 1, n, h => by
    unfold trim
    rw [List.getElem?_append_left (by omega), List.take_append_of_le_length (by omega), trim_pre gs es k (n - 1) (by omega)]
theorem leastE_step {n : Int} {gs : List Int} (h : ∀ x ∈ gs, x ≤ n) : leastE (n + 1) (gs ++ [n + 1]) = leastE n gs := by
  have e : trim (gs ++ [n + 1]) (gs ++ [n + 1]).length (n + 1) = trim gs gs.length n := by
    rw [List.length_append, List.length_singleton]
    conv => lhs; unfold trim
    have c : (gs ++ [n + 1])[gs.length]? = some (n + 1) ∧ ∀ x ∈ (gs ++ [n + 1]).take gs.length, x < n + 1 := by
      refine ⟨by simp, fun x hx => ?_⟩
      rw [List.take_left] at hx
      have := h x hx
      omega
    rw [if_pos c]
    have e1 : n + 1 - 1 = n := by omega
    rw [e1]
    exact trim_pre gs [n + 1] _ _ (Nat.le_refl _)
  unfold leastE
  rw [e, List.take_append_of_le_length (trim_le gs _ _)]
theorem rg_nil {a b : Int} (h : b ≤ a) : rg a b = [] := by
  unfold rg
  have e : (b - a).toNat = 0 := by omega
  rw [e]
  rfl
/-- what cutting leaves -/
theorem trim_end (gs : List Int) : ∀ (k : Nat) (n : Int), trim gs (trim gs k n).1 (trim gs k n).2 = trim gs k n
  | 0, _ => rfl
  | k + 1, n => by
    by_cases c : gs[k]? = some n ∧ ∀ x ∈ gs.take k, x < n
    · have e : trim gs (k + 1) n = trim gs k (n - 1) := by
        conv => lhs; unfold trim
        rw [if_pos c]
      rw [e]
      exact trim_end gs k (n - 1)
    · have e : trim gs (k + 1) n = (k + 1, n) := by
        conv => lhs; unfold trim
        rw [if_neg c]
      rw [e]
      exact e
theorem trim_take (gs : List Int) (j : Nat) : ∀ (k : Nat) (n : Int), k ≤ j → k ≤ gs.length → trim (gs.take j) k n = trim gs k n := fun k n h1 h2 => by
  have e : gs = gs.take j ++ gs.drop j := (List.take_append_drop j gs).symm
  conv => rhs; rw [e]
  exact (trim_pre _ _ k n (by rw [List.length_take]; omega)).symm
theorem leastE_idem (n : Int) (gs : List Int) : leastE (leastE n gs).1 (leastE n gs).2 = leastE n gs := by
  have h1 := trim_le gs gs.length n
  have e1 : ((leastE n gs).2).length = (trim gs gs.length n).1 := by
    show (gs.take _).length = _
    rw [List.length_take]
    omega
  have e2 : trim (leastE n gs).2 (leastE n gs).2.length (leastE n gs).1 = trim gs gs.length n := by
    rw [e1]
    show trim (gs.take _) _ (trim gs gs.length n).2 = _
    rw [trim_take gs _ _ _ (Nat.le_refl _) h1, trim_end]
  show ((trim (leastE n gs).2 (leastE n gs).2.length (leastE n gs).1).2, (leastE n gs).2.take (trim (leastE n gs).2 (leastE n gs).2.length (leastE n gs).1).1) = _
  rw [e2]
  show ((trim gs gs.length n).2, (gs.take (trim gs gs.length n).1).take (trim gs gs.length n).1) = _
  rw [List.take_take, Nat.min_self]
  rfl
theorem trim_eff (gs : List Int) (hg : ∀ x ∈ gs, 1 ≤ x) : ∀ (k : Nat) (n : Int), k ≤ gs.length → 0 ≤ n → (∀ x ∈ gs.take k, x ≤ n) → 0 ≤ (trim gs k n).2 ∧ (trim gs k n).2 ≤ n ∧ ∀ x ∈ gs.take (trim gs k n).1, x ≤ (trim gs k n).2
  | 0, n, _, h0, _ => ⟨h0, Int.le_refl _, by
    intro x hx
    change x ∈ gs.take 0 at hx
    simp at hx⟩
  | k + 1, n, hk, h0, hl => by
    by_cases c : gs[k]? = some n ∧ ∀ x ∈ gs.take k, x < n
    · have e : trim gs (k + 1) n = trim gs k (n - 1) := by
        conv => lhs; unfold trim
        rw [if_pos c]
      rw [e]
      have n1 := hg n (List.mem_of_getElem? c.1)
      obtain ⟨a, b, d⟩ := trim_eff gs hg k (n - 1) (by omega) (by omega) (fun x hx => by have := c.2 x hx; omega)
      exact ⟨a, by omega, d⟩
    · have e : trim gs (k + 1) n = (k + 1, n) := by
        conv => lhs; unfold trim
        rw [if_neg c]
      rw [e]
      exact ⟨h0, Int.le_refl _, hl⟩
/-- told in its least way -/
def Lst (e : Int × List Int) : Prop := leastE e.1 e.2 = e
structure LE (n : Int) (gs : List Int) (e : Int × List Int) : Prop where
  eff : Eff e
  lst : Lst e
  le : e.1 ≤ n
  len : e.2.length ≤ gs.length
theorem leastE_ok {n : Int} {gs : List Int} (h : Eff (n, gs)) : LE n gs (leastE n gs) := by
  obtain ⟨a, b, c⟩ := trim_eff gs h.ge gs.length n (Nat.le_refl _) h.nn (by rw [List.take_length]; exact h.le)
  refine ⟨⟨a, fun x hx => h.ge x (List.mem_of_mem_take hx), c⟩, leastE_idem n gs, b, ?_⟩
  show (gs.take _).length ≤ _
  rw [List.length_take]
  omega
theorem sh_effE {e : Int × List Int} (h : Eff e) (h1 : e.1 ≤ 100000) (h2 : e.2.length ≤ 4000) : Sh 3 1700000 (dE e) := sh_eff (by have := h.nn; omega) (fun x hx => by
  have a1 := h.ge x hx
  have a2 := h.le x hx
  omega) h2
def doE (e : Int × List Int) (h : List Int) : List Int := e.2.map (fun x => h.getD (x - 1).toNat 0) ++ h.drop e.1.toNat
theorem rg_at {a b : Int} {k : Nat} (h : a + k < b) : (rg a b)[k]? = some (a + k) := by
  unfold rg
  rw [List.getElem?_map, List.getElem?_range (by omega)]
  rfl
def fromE (e : Int × List Int) (r : Int) : Int := if r ≤ (e.2.length : Nat) then e.2.getD (r - 1).toNat 0 else r + e.1 - (e.2.length : Nat)
def upE (e : Int × List Int) (m : Int) : List Int := e.2 ++ rg (e.1 + 1) (e.1 + m + 1)
def moreE (e : Int × List Int) (d : Int) : Int := if 0 < d - (e.2.length : Nat) then d - (e.2.length : Nat) else 0
def cE (e f : Int × List Int) (m : Int) : Int × List Int := (e.1 + m, doE f (upE e m))
def joinE (e f : Int × List Int) : Int × List Int := leastE (cE e f (moreE e f.1)).1 (cE e f (moreE e f.1)).2
theorem from_trim {gs : List Int} {r : Int} : ∀ (k : Nat) (n : Int), k ≤ gs.length → 1 ≤ r → fromE ((trim gs k n).2, gs.take (trim gs k n).1) r = fromE (n, gs.take k) r
  | 0, n, _, _ => rfl
  | k + 1, n, hk, hr => by
    by_cases q : gs[k]? = some n ∧ ∀ x ∈ gs.take k, x < n
    · have e : trim gs (k + 1) n = trim gs k (n - 1) := by
        conv => lhs; unfold trim
        rw [if_pos q]
      rw [e, from_trim k (n - 1) (by omega) hr]
      unfold fromE
      dsimp only
      rw [List.length_take, List.length_take, Nat.min_eq_left (by omega), Nat.min_eq_left (by omega)]
      by_cases h1 : r ≤ (k : Nat)
      · rw [if_pos h1, if_pos (by omega), List.getD_eq_getElem?_getD, List.getD_eq_getElem?_getD, List.getElem?_take_of_lt (by omega), List.getElem?_take_of_lt (by omega)]
      · rw [if_neg h1]
        by_cases h2 : r ≤ ((k + 1 : Nat) : Int)
        · have e2 : (r - 1).toNat = k := by omega
          rw [if_pos h2, List.getD_eq_getElem?_getD, e2, List.getElem?_take_of_lt (by omega), q.1]
          show _ = n
          omega
        · rw [if_neg h2]
          omega
    · have e : trim gs (k + 1) n = (k + 1, n) := by
        conv => lhs; unfold trim
        rw [if_neg q]
      rw [e]
theorem from_least {n r : Int} {gs : List Int} (hr : 1 ≤ r) : fromE (leastE n gs) r = fromE (n, gs) r := by
  have := from_trim (gs := gs) gs.length n (Nat.le_refl _) hr
  rw [List.take_length] at this
  exact this
theorem from_up {e : Int × List Int} {m : Int} {k : Nat} (h : k < e.2.length + m) (hm : 0 ≤ m) : (upE e m).getD k 0 = fromE e (k + 1) := by
  unfold upE fromE
  have lr := rg_length (e.1 + 1) (e.1 + m + 1)
  rw [List.getD_eq_getElem?_getD]
  by_cases h1 : k < e.2.length
  · have e1 : (((k : Nat) : Int) + 1 - 1).toNat = k := by omega
    rw [List.getElem?_append_left h1, if_pos (by omega), e1, List.getD_eq_getElem?_getD]
  · rw [List.getElem?_append_right (by omega), rg_at (by omega), if_neg (by omega)]
    show _ + _ = _
    omega
theorem up_len {e : Int × List Int} {m : Int} (hm : 0 ≤ m) : (((upE e m).length : Nat) : Int) = e.2.length + m := by
  unfold upE
  have lr := rg_length (e.1 + 1) (e.1 + m + 1)
  rw [List.length_append]
  omega
theorem cE_len {e f : Int × List Int} {m : Int} (hf : Eff f) (hm : 0 ≤ m) (hd : f.1 ≤ e.2.length + m) : (((cE e f m).2.length : Nat) : Int) = f.2.length + (e.2.length + m - f.1) := by
  have ul := up_len (e := e) hm
  have := hf.nn
  show ((doE f (upE e m)).length : Int) = _
  unfold doE
  rw [List.length_append, List.length_map, List.length_drop]
  omega
theorem from_c {e f : Int × List Int} {m r : Int} (hf : Eff f) (hm : 0 ≤ m) (hd : f.1 ≤ e.2.length + m) (hr : 1 ≤ r) : fromE (cE e f m) r = fromE e (fromE f r) := by
  have ul := up_len (e := e) hm
  have cl := cE_len (e := e) hf hm hd
  have hf0 := hf.nn
  have key : ∀ s : Int, 1 ≤ s → s ≤ e.2.length + m → (upE e m).getD (s - 1).toNat 0 = fromE e s := fun s h1 h2 => by
    rw [from_up (k := (s - 1).toNat) (by omega) hm]
    congr 1
    omega
  conv => lhs; unfold fromE
  by_cases h1 : r ≤ (f.2.length : Nat)
  · have e1 : fromE f r = f.2.getD (r - 1).toNat 0 := by unfold fromE; rw [if_pos h1]
    have hi : (r - 1).toNat < f.2.length := by omega
    have em : f.2[(r - 1).toNat]? = some f.2[(r - 1).toNat] := List.getElem?_eq_getElem hi
    have e2 : f.2.getD (r - 1).toNat 0 = f.2[(r - 1).toNat] := by rw [List.getD_eq_getElem?_getD, em]; rfl
    have mm := List.mem_of_getElem? em
    have a1 := hf.ge _ mm
    have a2 := hf.le _ mm
    rw [e1, e2, if_pos (by omega), ← key _ a1 (by omega)]
    show (doE f (upE e m)).getD _ _ = _
    unfold doE
    rw [List.getD_eq_getElem?_getD, List.getElem?_append_left (by rw [List.length_map]; exact hi), List.getElem?_map, em]
    rfl
  · have e1 : fromE f r = r + f.1 - (f.2.length : Nat) := by unfold fromE; rw [if_neg h1]
    rw [e1]
    by_cases h2 : r ≤ ((cE e f m).2.length : Nat)
    · rw [if_pos h2, ← key _ (by omega) (by omega)]
      show (doE f (upE e m)).getD _ _ = _
      unfold doE
      rw [List.getD_eq_getElem?_getD, List.getElem?_append_right (by rw [List.length_map]; omega), List.getElem?_drop, List.length_map, List.getD_eq_getElem?_getD]
      congr 2
      omega
    · rw [if_neg h2]
      unfold fromE
      rw [if_neg (by omega)]
      show r + (e.1 + m) - _ = _
      omega
theorem more_ok {e : Int × List Int} {d : Int} : 0 ≤ moreE e d ∧ d ≤ e.2.length + moreE e d := by
  unfold moreE
  split <;> omega
theorem up_mem {e : Int × List Int} {m x : Int} (he : Eff e) (hx : x ∈ upE e m) : 1 ≤ x ∧ x ≤ e.1 + (if 0 < m then m else 0) := by
  have := he.nn
  rcases List.mem_append.mp hx with hx | hx
  · have a1 := he.ge x hx
    have a2 := he.le x hx
    split <;> omega
  · have a := mem_rg.mp hx
    split <;> omega
theorem cE_eff {e f : Int × List Int} {m : Int} (he : Eff e) (hf : Eff f) (hm : 0 ≤ m) (hd : f.1 ≤ e.2.length + m) : Eff (cE e f m) := by
  have hen := he.nn
  have ul := up_len (e := e) hm
  have all : ∀ x ∈ (cE e f m).2, 1 ≤ x ∧ x ≤ e.1 + m := fun x hx => by
    rcases List.mem_append.mp hx with hx | hx
    · obtain ⟨y, hy, rfl⟩ := List.mem_map.mp hx
      have a1 := hf.ge y hy
      have a2 := hf.le y hy
      have em : (upE e m)[(y - 1).toNat]? = some (upE e m)[(y - 1).toNat] := List.getElem?_eq_getElem (by omega)
      have := up_mem he (List.mem_of_getElem? em)
      rw [List.getD_eq_getElem?_getD, em]
      show _ ≤ (upE e m)[(y - 1).toNat] ∧ (upE e m)[(y - 1).toNat] ≤ _
      revert this
      split <;> omega
    · have := up_mem he (List.mem_of_mem_drop hx)
      revert this
      split <;> omega
  exact ⟨by show 0 ≤ e.1 + m; omega, fun x hx => (all x hx).1, fun x hx => (all x hx).2⟩
theorem join_eff {e f : Int × List Int} (he : Eff e) (hf : Eff f) : Eff (joinE e f) := (leastE_ok (cE_eff he hf more_ok.1 more_ok.2)).eff
theorem join_lst {e f : Int × List Int} : Lst (joinE e f) := leastE_idem _ _
theorem from_join {e f : Int × List Int} {r : Int} (hf : Eff f) (hr : 1 ≤ r) : fromE (joinE e f) r = fromE e (fromE f r) := by
  unfold joinE
  rw [from_least hr]
  exact from_c hf more_ok.1 more_ok.2 hr
theorem from_ge {e : Int × List Int} {r : Int} (he : Eff e) (hr : 1 ≤ r) : 1 ≤ fromE e r := by
  have := he.nn
  unfold fromE
  split
  · have em : e.2[(r - 1).toNat]? = some e.2[(r - 1).toNat] := List.getElem?_eq_getElem (by omega)
    rw [List.getD_eq_getElem?_getD, em]
    exact he.ge _ (List.mem_of_getElem? em)
  · omega
theorem from_le {e : Int × List Int} {r : Int} (he : Eff e) (hr : 1 ≤ r) : fromE e r ≤ r + e.1 := by
  have := he.nn
  unfold fromE
  split
  · have em : e.2[(r - 1).toNat]? = some e.2[(r - 1).toNat] := List.getElem?_eq_getElem (by omega)
    have := he.le _ (List.mem_of_getElem? em)
    rw [List.getD_eq_getElem?_getD, em]
    show e.2[(r - 1).toNat] ≤ _
    omega
  · omega
/-- two least ways of the same shift are one -/
theorem canon_lt {e f : Int × List Int} (he : Eff e) (hf : Eff f) (lf : Lst f) (h : ∀ r, 1 ≤ r → fromE e r = fromE f r) : f.2.length ≤ e.2.length := by
  by_cases c : f.2.length ≤ e.2.length
  · exact c
  exfalso
  have big := h (e.2.length + f.2.length + 1) (by omega)
  unfold fromE at big
  rw [if_neg (by omega), if_neg (by omega)] at big
  have at_ : ∀ j : Nat, j < f.2.length → e.2.length ≤ j → f.2[j]? = some ((j : Int) + 1 + e.1 - (e.2.length : Nat)) := fun j hj hk => by
    have q := h (j + 1) (by omega)
    unfold fromE at q
    have e1 : ((j : Int) + 1 - 1).toNat = j := by omega
    rw [if_neg (by omega), if_pos (by omega), e1, List.getD_eq_getElem?_getD] at q
    have em : f.2[j]? = some f.2[j] := List.getElem?_eq_getElem hj
    rw [em] at q ⊢
    have q2 : _ = f.2[j] := q
    rw [← q2]
  obtain ⟨k, ek⟩ : ∃ k, f.2.length = k + 1 := ⟨f.2.length - 1, by omega⟩
  have cut : trim f.2 (k + 1) f.1 = trim f.2 k (f.1 - 1) := by
    conv => lhs; unfold trim
    rw [if_pos]
    refine ⟨?_, fun x hx => ?_⟩
    · rw [at_ k (by omega) (by omega)]
      congr 1
      omega
    · obtain ⟨j, hj, rfl⟩ := List.getElem_of_mem hx
      rw [List.length_take] at hj
      rw [List.getElem_take]
      have em : f.2[j]? = some f.2[j] := List.getElem?_eq_getElem (by omega)
      by_cases hk : e.2.length ≤ j
      · have q := at_ j (by omega) hk
        rw [em] at q
        have q2 := Option.some.inj q
        omega
      · have q := h (j + 1) (by omega)
        unfold fromE at q
        have e1 : ((j : Int) + 1 - 1).toNat = j := by omega
        have em2 : e.2[j]? = some e.2[j] := List.getElem?_eq_getElem (by omega)
        rw [if_pos (by omega), if_pos (by omega), e1, List.getD_eq_getElem?_getD, List.getD_eq_getElem?_getD, em, em2] at q
        have q2 : e.2[j] = f.2[j] := q
        have := he.le _ (List.mem_of_getElem? em2)
        omega
  have l1 := trim_le f.2 k (f.1 - 1)
  have l2 : (leastE f.1 f.2).2.length = f.2.length := by rw [show leastE f.1 f.2 = f from lf]
  unfold leastE at l2
  dsimp only at l2
  rw [List.length_take, ek, cut] at l2
  omega
theorem canon {e f : Int × List Int} (he : Eff e) (hf : Eff f) (le : Lst e) (lf : Lst f) (h : ∀ r, 1 ≤ r → fromE e r = fromE f r) : e = f := by
  have a1 := canon_lt he hf lf h
  have a2 := canon_lt hf he le fun r hr => (h r hr).symm
  have big := h (e.2.length + f.2.length + 1) (by omega)
  unfold fromE at big
  rw [if_neg (by omega), if_neg (by omega)] at big
  obtain ⟨n, gs⟩ := e
  obtain ⟨d, ls⟩ := f
  dsimp only at *
  have en : n = d := by omega
  subst en
  congr 1
  refine List.ext_getElem? fun j => ?_
  by_cases hj : j < gs.length
  · have q := h (j + 1) (by omega)
    unfold fromE at q
    dsimp only at q
    have e1 : ((j : Int) + 1 - 1).toNat = j := by omega
    have em : gs[j]? = some gs[j] := List.getElem?_eq_getElem hj
    have em2 : ls[j]? = some ls[j] := List.getElem?_eq_getElem (by omega)
    rw [if_pos (by omega), if_pos (by omega), e1, List.getD_eq_getElem?_getD, List.getD_eq_getElem?_getD, em, em2] at q
    rw [em, em2]
    exact congrArg some q
  · rw [List.getElem?_eq_none (by omega), List.getElem?_eq_none (by omega)]
def powE (e : Int × List Int) : Nat → Int × List Int
  | 0 => (0, [])
  | k + 1 => joinE (powE e k) e
theorem eff0 : Eff ((0, []) : Int × List Int) := ⟨by decide, by simp, by simp⟩
theorem lst0 : Lst ((0, []) : Int × List Int) := rfl
theorem pow_eff {e : Int × List Int} (h : Eff e) : ∀ k, Eff (powE e k)
  | 0 => eff0
  | k + 1 => join_eff (pow_eff h k) h
theorem pow_lst {e : Int × List Int} : ∀ k, Lst (powE e k)
  | 0 => lst0
  | k + 1 => join_lst
theorem from0 {r : Int} (hr : 1 ≤ r) : fromE (0, []) r = r := by
  unfold fromE
  rw [if_neg (by simp; omega)]
  simp
/-- the place function, so many times -/
def itE (e : Int × List Int) : Nat → Int → Int
  | 0, r => r
  | k + 1, r => itE e k (fromE e r)
theorem it_ge {e : Int × List Int} (h : Eff e) : ∀ (k : Nat) {r : Int}, 1 ≤ r → 1 ≤ itE e k r
  | 0, r, hr => hr
  | k + 1, r, hr => it_ge h k (from_ge h hr)
theorem it_add {e : Int × List Int} : ∀ (j k : Nat) (r : Int), itE e (j + k) r = itE e j (itE e k r)
  | j, 0, r => rfl
  | j, k + 1, r => by
    show itE e (j + k) (fromE e r) = itE e j (itE e k (fromE e r))
    exact it_add j k _
theorem from_pow {e : Int × List Int} (h : Eff e) : ∀ (k : Nat) {r : Int}, 1 ≤ r → fromE (powE e k) r = itE e k r
  | 0, r, hr => from0 hr
  | k + 1, r, hr => by
    show fromE (joinE (powE e k) e) r = itE e k (fromE e r)
    rw [from_join h hr, from_pow h k (from_ge h hr)]
/-- the power is known by its places -/
theorem pow_of {e f : Int × List Int} {k : Nat} (h : Eff e) (hf : Eff f) (lf : Lst f) (hp : ∀ r, 1 ≤ r → fromE f r = itE e k r) : f = powE e k :=
  canon hf (pow_eff h k) lf (pow_lst k) fun r hr => (hp r hr).trans (from_pow h k hr).symm
theorem pow_add {e : Int × List Int} (h : Eff e) (j k : Nat) : joinE (powE e j) (powE e k) = powE e (j + k) :=
  pow_of h (join_eff (pow_eff h j) (pow_eff h k)) join_lst fun r hr => by
    rw [from_join (pow_eff h k) hr, from_pow h k hr, from_pow h j (it_ge h k hr), it_add]
theorem join_bd {e f : Int × List Int} (he : Eff e) (hf : Eff f) : (joinE e f).1 ≤ e.1 + f.1 ∧ (joinE e f).2.length ≤ f.2.length + e.2.length := by
  have c := cE_eff (m := moreE e f.1) he hf more_ok.1 more_ok.2
  have l := leastE_ok c
  have h1 := l.le
  have h2 := l.len
  have h3 := cE_len (e := e) (f := f) (m := moreE e f.1) hf more_ok.1 more_ok.2
  have hm : moreE e f.1 ≤ f.1 := by
    have := hf.nn
    unfold moreE
    split <;> omega
  have g1 : (joinE e f).1 ≤ (cE e f (moreE e f.1)).1 := h1
  have g2 : (joinE e f).2.length ≤ (cE e f (moreE e f.1)).2.length := h2
  have g3 : (cE e f (moreE e f.1)).1 = e.1 + moreE e f.1 := rfl
  exact ⟨by omega, by omega⟩
theorem pow_bd {e : Int × List Int} (h : Eff e) : ∀ k : Nat, (powE e k).1 ≤ k * e.1 ∧ (powE e k).2.length ≤ k * e.2.length
  | 0 => ⟨by simp [powE], by simp [powE]⟩
  | k + 1 => by
    have ih := pow_bd h k
    have jb := join_bd (pow_eff h k) h
    refine ⟨?_, ?_⟩
    · show (joinE (powE e k) e).1 ≤ _
      have : ((k + 1 : Nat) : Int) * e.1 = k * e.1 + e.1 := by rw [Int.natCast_add, Int.add_mul]; simp
      omega
    · show (joinE (powE e k) e).2.length ≤ _
      have : (k + 1) * e.2.length = k * e.2.length + e.2.length := by rw [Nat.add_mul, Nat.one_mul]
      omega
theorem it_least {n : Int} {gs : List Int} (ef : Eff (n, gs)) : ∀ (k : Nat) {r : Int}, 1 ≤ r → itE (leastE n gs) k r = itE (n, gs) k r
  | 0, r, hr => rfl
  | k + 1, r, hr => by
    show itE (leastE n gs) k (fromE (leastE n gs) r) = itE (n, gs) k (fromE (n, gs) r)
    rw [from_least hr, it_least ef k (from_ge ef hr)]
theorem cmulB_of {i j : Int} (h1 : i.natAbs < 2 ^ 200) (h2 : j.natAbs < 2 ^ 200) : CMulB i j := by
  have a := bits_of (i := i) (n := 200) (by decide) h1
  have b := bits_of (i := j) (n := 200) (by decide) h2
  unfold CMulB
  omega
/-- how many steps bring the high one down to the low one -/
def stepsD (h l s : Int) : Int := if 0 < -((l - h) / s) then -((l - h) / s) else 0
theorem it_succ {e : Int × List Int} (k : Nat) (r : Int) : itE e (k + 1) r = fromE e (itE e k r) := by
  rw [Nat.add_comm, it_add 1 k r]
  rfl
theorem from_hi {e : Int × List Int} {r : Int} (h : (e.2.length : Int) < r) : fromE e r = r + (e.1 - e.2.length) := by
  unfold fromE
  rw [if_neg (by omega)]
  omega
theorem from_lo {e : Int × List Int} {r : Int} (h : r ≤ (e.2.length : Int)) : fromE e r = e.2.getD (r - 1).toNat 0 := by
  unfold fromE
  rw [if_pos h]
theorem from_low {e : Int × List Int} (ef : Eff e) {r : Int} (h1 : 1 ≤ r) (h : r ≤ (e.2.length : Int)) : fromE e r ≤ e.1 := by
  rw [from_lo h, List.getD_eq_getElem?_getD, List.getElem?_eq_getElem (by omega)]
  exact ef.le _ (List.getElem_mem _)
/-- straight on, while it lies above -/
theorem it_lin {e : Int × List Int} : ∀ (s : Nat) (r : Int), (∀ j : Nat, j < s → (e.2.length : Int) < r + j * (e.1 - e.2.length)) → itE e s r = r + s * (e.1 - e.2.length)
  | 0, r, _ => by simp [itE]
  | s + 1, r, h => by
    have h0 := h 0 (by omega)
    rw [Int.natCast_zero, Int.zero_mul, Int.add_zero] at h0
    show itE e s (fromE e r) = _
    have ed : ∀ j : Nat, ((j + 1 : Nat) : Int) * (e.1 - e.2.length) = (e.1 - e.2.length) + j * (e.1 - e.2.length) := fun j => by
      rw [Int.natCast_add, Int.add_mul]
      simp
      omega
    rw [from_hi h0, it_lin s _ fun j hj => ?_]
    · rw [ed]
      omega
    · have := h (j + 1) (by omega)
      rw [ed] at this
      omega
theorem it_up {e : Int × List Int} (hs : (e.2.length : Int) ≤ e.1) (s : Nat) {r : Int} (hr : (e.2.length : Int) < r) : itE e s r = r + s * (e.1 - e.2.length) :=
  it_lin s r fun j _ => by
    have : (0 : Int) ≤ j * (e.1 - e.2.length) := Int.mul_nonneg (by omega) (by omega)
    omega
/-- what comes again comes again -/
theorem it_per {e : Int × List Int} {r : Int} {i p : Nat} (h : itE e (i + p) r = itE e i r) : ∀ m : Nat, itE e (i + m + p) r = itE e (i + m) r := fun m => by
  have e1 : i + m + p = m + (i + p) := by omega
  have e2 : i + m = m + i := by omega
  rw [e1, it_add m (i + p), h, ← it_add m i, e2]
theorem it_perk {e : Int × List Int} {r : Int} {i p : Nat} (h : itE e (i + p) r = itE e i r) (m : Nat) : ∀ q : Nat, itE e (i + m + q * p) r = itE e (i + m) r
  | 0 => by rw [Nat.zero_mul, Nat.add_zero]
  | q + 1 => by
    have e1 : i + m + (q + 1) * p = i + (m + q * p) + p := by rw [Nat.add_mul, Nat.one_mul]; omega
    rw [e1, it_per h]
    have e2 : i + (m + q * p) = i + m + q * p := by omega
    rw [e2, it_perk h m q]
theorem it_mod {e : Int × List Int} {r : Int} {i p : Nat} (h : itE e (i + p) r = itE e i r) (m : Nat) : itE e (i + m) r = itE e (i + m % p) r := by
  have e1 : i + m = i + m % p + m / p * p := by
    have := Nat.mod_add_div m p
    rw [Nat.mul_comm] at this
    omega
  exact (congrArg (fun z => itE e z r) e1).trans (it_perk h _ _)
theorem it_bd {e : Int × List Int} (h : Eff e) : ∀ (k : Nat) {r : Int}, 1 ≤ r → itE e k r ≤ r + k * e.1
  | 0, r, hr => by simp [itE]
  | k + 1, r, hr => by
    have a := it_bd h k (from_ge h hr)
    have b := from_le h hr
    have c : ((k + 1 : Nat) : Int) * e.1 = k * e.1 + e.1 := by rw [Int.natCast_add, Int.add_mul]; simp
    show itE e k (fromE e r) ≤ _
    omega
theorem sh_it {e : Int × List Int} (h : Eff e) (he : e.1 ≤ 1000) {k : Nat} (hk : (k : Int) < 2 ^ 120) {r : Int} (hr : 1 ≤ r) (hr2 : r < 2 ^ 140) : Sh 1 205 (.int (itE e k r)) := by
  refine sh_int ?_
  have a := it_ge h k hr
  have b := it_bd h k hr
  have c : (k : Int) * e.1 ≤ k * 1000 := Int.mul_le_mul_of_nonneg_left he (by omega)
  omega
theorem nodup_bd : ∀ (N : Nat) (l : List Int), l.Nodup → (∀ x ∈ l, 1 ≤ x ∧ x ≤ (N : Int)) → l.length ≤ N
  | 0, [], _, _ => Nat.le_refl _
  | 0, x :: l, _, h => by
    have := h x (by simp)
    omega
  | N + 1, l, nd, h => by
    have h2 := nodup_bd N (l.erase ((N + 1 : Nat) : Int)) (nd.erase _) fun x hx => by
      have a := h x (List.mem_of_mem_erase hx)
      have b := (nd.mem_erase_iff.mp hx).1
      omega
    have h3 := List.le_length_erase (a := ((N + 1 : Nat) : Int)) (l := l)
    omega
theorem rg_nodup (a b : Int) : (rg a b).Nodup := by
  unfold rg
  refine List.pairwise_map.mpr (List.Pairwise.imp_of_mem (fun {x y} _ _ hxy e => ?_) List.pairwise_lt_range)
  omega
theorem pigeon {N : Nat} {f : Nat → Int} (h : ∀ i : Nat, i ≤ N → 1 ≤ f i ∧ f i ≤ (N : Int)) : ∃ i j : Nat, i < j ∧ j ≤ N ∧ f i = f j := by
  apply Classical.byContradiction
  intro no
  have nd : ((List.range (N + 1)).map f).Nodup := by
    refine List.pairwise_map.mpr (List.Pairwise.imp_of_mem (fun {a b} ha hb hab e => ?_) List.pairwise_lt_range)
    exact no ⟨a, b, hab, by have := List.mem_range.mp hb; omega, e⟩
  have := nodup_bd N _ nd fun x hx => by
    obtain ⟨i, hi, rfl⟩ := List.mem_map.mp hx
    exact h i (by have := List.mem_range.mp hi; omega)
  rw [List.length_map, List.length_range] at this
  omega
def mkD (X : Nat → Int) (V : Nat → Int) (t : Nat) : List (Key × D) := (List.range t).map fun j => (Sum.inl (X j), PyData.int (V j))
section
variable {X V : Nat → Int} {t : Nat} {p : Int} {d : D}
theorem mkD_succ : mkD X V (t + 1) = mkD X V t ++ [(Sum.inl (X t), .int (V t))] := by
  unfold mkD
  rw [List.range_succ, List.map_append]
  rfl
theorem mkD_len : (mkD X V t).length = t := by
  unfold mkD
  rw [List.length_map, List.length_range]
theorem valM_mem {κ α : Type} [DecidableEq κ] {m : List (κ × α)} {k : κ} {d : α} : valM m k = some d → (k, d) ∈ m := by
  induction m with
  | nil => intro h; cases h
  | cons q m ih =>
    intro h
    rw [valM_cons] at h
    split at h
    · rename_i hq
      cases h
      subst hq
      exact List.mem_cons_self
    · exact List.mem_cons_of_mem _ (ih h)
theorem mkD_some (h : valM (mkD X V t) (Sum.inl p) = some d) : ∃ j : Nat, j < t ∧ X j = p ∧ d = .int (V j) := by
  have := valM_mem h
  unfold mkD at this
  obtain ⟨j, hj, e⟩ := List.mem_map.mp this
  cases e
  exact ⟨j, List.mem_range.mp hj, rfl, rfl⟩
theorem mkD_none (h : valM (mkD X V t) (Sum.inl p) = none) : ∀ j : Nat, j < t → X j ≠ p := fun j hj e => by
  refine valM_none_mem.mp h (Sum.inl (X j), .int (V j)) ?_ (by rw [e])
  unfold mkD
  exact List.mem_map.mpr ⟨j, List.mem_range.mpr hj, rfl⟩
theorem mkD_put (h : valM (mkD X V t) (Sum.inl (X t)) = none) : putM (mkD X V t) (Sum.inl (X t)) (.int (V t)) = mkD X V (t + 1) := by
  rw [putM_new h, mkD_succ]
theorem rng_nodup (nd : ((List.range t).map X).Nodup) (h : ∀ j : Nat, j < t → X j ≠ X t) : ((List.range (t + 1)).map X).Nodup := by
  rw [List.range_succ, List.map_append]
  refine List.nodup_append.mpr ⟨nd, by simp, fun a ha b hb e => ?_⟩
  obtain ⟨j, hj, rfl⟩ := List.mem_map.mp ha
  simp at hb
  exact h j (List.mem_range.mp hj) (e.trans hb)
theorem rng_len {N : Nat} (nd : ((List.range t).map X).Nodup) (h : ∀ j : Nat, j < t → 1 ≤ X j ∧ X j ≤ (N : Int)) : t ≤ N := by
  have := nodup_bd N _ nd fun x hx => by
    obtain ⟨j, hj, rfl⟩ := List.mem_map.mp hx
    exact h j (List.mem_range.mp hj)
  rwa [List.length_map, List.length_range] at this
end
theorem rg_mid {a b x : Int} {pre post : List Int} (h : rg a b = pre ++ x :: post) : x = a + pre.length ∧ a + (pre.length : Int) < b := by
  have hl := congrArg List.length h
  rw [rg_length, List.length_append, List.length_cons] at hl
  have lt : a + (pre.length : Int) < b := by omega
  have e := rg_at lt
  rw [h, List.getElem?_append_right (Nat.le_refl _), Nat.sub_self] at e
  simp at e
  exact ⟨e, lt⟩
theorem steps_lin {e : Int × List Int} {r k : Int} (hs : e.1 < e.2.length) (hr : 1 ≤ r) (k0 : 0 ≤ k) : ∃ s : Nat, (if stepsD r e.2.length (-(e.1 - e.2.length)) < k then stepsD r e.2.length (-(e.1 - e.2.length)) else k) = (s : Int) ∧ (s : Int) ≤ k ∧ itE e s r = r + s * (e.1 - e.2.length) ∧ ((s : Int) = k ∨ r + s * (e.1 - e.2.length) ≤ e.2.length) ∧ (s : Int) ≤ r := by
  obtain ⟨c, hc⟩ : ∃ c : Int, e.2.length - e.1 = c := ⟨_, rfl⟩
  obtain ⟨z, hz⟩ : ∃ z : Int, (e.2.length : Int) = z := ⟨_, rfl⟩
  have e1 : -(e.1 - (e.2.length : Int)) = c := by omega
  have e2 : e.1 - (e.2.length : Int) = -c := by omega
  have c0 : 0 < c := by omega
  have dv := Int.emod_add_mul_ediv (z - r) c
  have m0 := Int.emod_nonneg (z - r) (show c ≠ 0 by omega)
  have m1 := Int.emod_lt_of_pos (z - r) c0
  have lin : ∀ s : Nat, ((s : Int) = 0 ∨ (s : Int) ≤ -((z - r) / c)) → itE e s r = r + s * (e.1 - z) := fun s hs2 => by
    rw [← hz]
    refine it_lin s r fun j hj => ?_
    rw [e2, hz, Int.mul_neg]
    have h1 : (j : Int) + 1 ≤ -((z - r) / c) := by omega
    have h2 : ((j : Int) + 1) * c ≤ -((z - r) / c) * c := Int.mul_le_mul_of_nonneg_right h1 (by omega)
    rw [Int.neg_mul, Int.mul_comm ((z - r) / c), Int.add_mul, Int.one_mul] at h2
    omega
  have e2 : e.1 - z = -c := by omega
  rw [e1, hz]
  have nonneg : 0 ≤ stepsD r z c := by unfold stepsD; split <;> omega
  have sle : stepsD r z c ≤ r := by
    unfold stepsD
    split
    · rename_i hp
      have h3 : (-((z - r) / c) - 1) * 1 ≤ (-((z - r) / c) - 1) * c := Int.mul_le_mul_of_nonneg_left (by omega) (by omega)
      rw [Int.sub_mul, Int.sub_mul, Int.neg_mul, Int.neg_mul, Int.mul_comm ((z - r) / c) c] at h3
      omega
    · omega
  split
  · rename_i hlt
    refine ⟨(stepsD r z c).toNat, by omega, by omega, lin _ ?_, .inr ?_, by omega⟩
    · have : ((stepsD r z c).toNat : Int) = stepsD r z c := by omega
      rw [this]
      unfold stepsD
      split <;> omega
    · have : ((stepsD r z c).toNat : Int) = stepsD r z c := by omega
      rw [this, e2, Int.mul_neg]
      unfold stepsD
      split
      · rw [Int.neg_mul, Int.mul_comm ((z - r) / c) c]
        omega
      · rename_i hp
        have : 0 ≤ (z - r) / c := by omega
        have h4 : 0 ≤ c * ((z - r) / c) := Int.mul_nonneg (by omega) this
        omega
  · refine ⟨k.toNat, by omega, by omega, lin _ ?_, .inl (by omega), by omega⟩
    by_cases h0 : k = 0
    · left; omega
    · right
      rename_i hk
      unfold stepsD at hk
      split at hk <;> omega
def oD : Option Nat → D
  | none => .none
  | some t => .int t
def MI (e : Int × List Int) (a b : Int) : Option Nat → Prop
  | none => ∀ t, itE e t a ≠ itE e t b
  | some t => itE e t a = itE e t b ∧ ∀ j : Nat, j < t → itE e j a ≠ itE e j b
/-- not too late -/
def MB (o : Option Nat) : Prop := ∀ t, o = some t → (t : Int) < 2 ^ 121
theorem MB.sh {o : Option Nat} (h : MB o) : Sh 1 205 (oD o) := by
  cases o with
  | none => exact ⟨by simp [oD, PyData.showable], by simp [oD, PyData.depth], by simp [oD, G.wd]⟩
  | some t =>
    have := h t rfl
    exact sh_int (by omega)
theorem MI.uniq {e : Int × List Int} {a b : Int} : ∀ {o p : Option Nat}, MI e a b o → MI e a b p → o = p
  | none, none, _, _ => rfl
  | none, some t, h, k => absurd k.1 (h t)
  | some t, none, h, k => absurd h.1 (k t)
  | some s, some t, h, k => by
    rcases Nat.lt_trichotomy s t with c | c | c
    · exact absurd h.1 (k.2 s c)
    · rw [c]
    · exact absurd k.1 (h.2 t c)
theorem MI.symm {e : Int × List Int} {a b : Int} : ∀ {o : Option Nat}, MI e a b o → MI e b a o
  | none, h => fun t q => h t q.symm
  | some t, h => ⟨h.1.symm, fun j hj q => h.2 j hj q.symm⟩
theorem it_all_lo {e : Int × List Int} (ef : Eff e) {a : Int} (ha : 1 ≤ a) (hs : e.1 < e.2.length) (h : a ≤ e.2.length) : ∀ j : Nat, itE e j a ≤ e.2.length
  | 0 => h
  | j + 1 => by
    rw [it_succ]
    have := from_low ef (it_ge ef j ha) (it_all_lo ef ha hs h j)
    omega
theorem it_was_lo {e : Int × List Int} {a : Int} (hs : (e.2.length : Int) ≤ e.1) {t : Nat} (h : itE e t a ≤ e.2.length) : ∀ j : Nat, j ≤ t → itE e j a ≤ e.2.length := fun j hj => by
  apply Classical.byContradiction
  intro no
  have e1 := it_up hs (t - j) (r := itE e j a) (by omega)
  rw [← it_add, show t - j + j = t by omega] at e1
  have : (0 : Int) ≤ ((t - j : Nat) : Int) * (e.1 - e.2.length) := Int.mul_nonneg (by omega) (by omega)
  omega
theorem merge_bd {e : Int × List Int} (ef : Eff e) {a b : Int} (ha : 1 ≤ a) (hb : 1 ≤ b) (hs : (e.2.length : Int) ≤ e.1 ∨ (a ≤ e.2.length ∧ b ≤ e.2.length)) (h : ∀ j : Nat, j ≤ e.2.length → itE e j a ≠ itE e j b) : ∀ t : Nat, itE e t a ≠ itE e t b := by
  intro t
  induction t using Nat.strongRecOn with
  | _ t ih =>
    by_cases ht : t ≤ e.2.length
    · exact h t ht
    intro eq
    obtain ⟨u, rfl⟩ : ∃ u, t = u + 1 := ⟨t - 1, by omega⟩
    have ne := ih u (by omega)
    have eq2 := eq
    rw [it_succ, it_succ] at eq2
    have xp := it_ge ef u ha
    have yp := it_ge ef u hb
    have xy : itE e u a ≤ e.2.length ∧ itE e u b ≤ e.2.length := by
      by_cases cx : itE e u a ≤ e.2.length
      · by_cases cy : itE e u b ≤ e.2.length
        · exact ⟨cx, cy⟩
        · have h1 := from_low ef xp cx
          have h2 := from_hi (e := e) (r := itE e u b) (by omega)
          omega
      · by_cases cy : itE e u b ≤ e.2.length
        · have h1 := from_low ef yp cy
          have h2 := from_hi (e := e) (r := itE e u a) (by omega)
          omega
        · have h1 := from_hi (e := e) (r := itE e u b) (by omega)
          have h2 := from_hi (e := e) (r := itE e u a) (by omega)
          omega
    have lo : ∀ (c : Int), 1 ≤ c → ((e.2.length : Int) ≤ e.1 ∨ c ≤ e.2.length) → itE e u c ≤ e.2.length → ∀ j : Nat, j ≤ u → itE e j c ≤ e.2.length := fun c hc hs2 hu j hj => by
      by_cases hup : (e.2.length : Int) ≤ e.1
      · exact it_was_lo hup hu j hj
      · exact it_all_lo ef hc (by omega) (by omega) j
    have xl := lo a ha (hs.imp id And.left) xy.1
    have yl := lo b hb (hs.imp id And.right) xy.2
    obtain ⟨i, j, hij, hj, ex⟩ := pigeon (N := e.2.length) (f := fun i => itE e i a) fun i hi => ⟨it_ge ef i ha, xl i (by omega)⟩
    obtain ⟨k, l, hkl, hl, ey⟩ := pigeon (N := e.2.length) (f := fun i => itE e i b) fun i hi => ⟨it_ge ef i hb, yl i (by omega)⟩
    have px : itE e (i + (j - i)) a = itE e i a := by rw [show i + (j - i) = j by omega]; exact ex.symm
    have py : itE e (k + (l - k)) b = itE e k b := by rw [show k + (l - k) = l by omega]; exact ey.symm
    have qx := it_perk px (u - i) (l - k)
    have qy := it_perk py (u - k) (j - i)
    rw [show i + (u - i) = u by omega] at qx
    rw [show k + (u - k) = u by omega] at qy
    have pos : 1 ≤ (l - k) * (j - i) := Nat.mul_pos (by omega) (by omega)
    rw [Nat.mul_comm (j - i)] at qy
    obtain ⟨v, hv⟩ : ∃ v, (l - k) * (j - i) = v + 1 := ⟨(l - k) * (j - i) - 1, by omega⟩
    rw [hv] at qx qy
    rw [show u + (v + 1) = v + (u + 1) by omega, it_add] at qx qy
    rw [eq] at qx
    exact ne (qx.symm.trans qy)
/-- the merging behind a straight way -/
theorem MI.add {e : Int × List Int} {a b : Int} {s : Nat} (h : ∀ j : Nat, j < s → itE e j a ≠ itE e j b) : ∀ {o : Option Nat}, MI e (itE e s a) (itE e s b) o → MI e a b (o.map (s + ·))
  | none, k => fun t => by
    by_cases ht : t < s
    · exact h t ht
    · have := k (t - s)
      rw [← it_add, ← it_add, show t - s + s = t by omega] at this
      exact this
  | some t, k => by
    obtain ⟨k1, k2⟩ := k
    rw [← it_add, ← it_add, Nat.add_comm] at k1
    refine ⟨k1, fun j hj => ?_⟩
    have hj : j < s + t := hj
    by_cases hs : j < s
    · exact h j hs
    · have := k2 (j - s) (by omega)
      rw [← it_add, ← it_add, show j - s + s = j by omega] at this
      exact this
def HC (e : Int × List Int) (k : Nat) (s : Int) (c : Nat) : Prop := ∃ l : List Int, l.Nodup ∧ (∀ r, r ∈ l ↔ 1 ≤ r ∧ itE e k r = s) ∧ l.length = c
theorem HC.uniq {e : Int × List Int} {k : Nat} {s : Int} {c d : Nat} : HC e k s c → HC e k s d → c = d
  | ⟨l, nl, hl, el⟩, ⟨m, nm, hm, em⟩ => by
    have := (List.perm_ext_iff_of_nodup nl nm).mpr fun r => (hl r).trans (hm r).symm
    rw [← el, ← em]
    exact this.length_eq
theorem HC.zero {e : Int × List Int} {s : Int} (hs : 1 ≤ s) : HC e 0 s 1 := ⟨[s], by simp, fun r => by
  simp [itE]
  omega, rfl⟩
/-- a place above the needs has one place behind it -/
theorem from_eq_hi {e : Int × List Int} (ef : Eff e) {s r : Int} (hs : e.1 < s) (hr : 1 ≤ r) : fromE e r = s ↔ r = s - (e.1 - e.2.length) := by
  by_cases h : r ≤ e.2.length
  · have := from_low ef hr h
    constructor
    · intro q; omega
    · intro q; omega
  · rw [from_hi (by omega)]
    omega
theorem HC.up {e : Int × List Int} (ef : Eff e) {k : Nat} {s : Int} {c : Nat} (hs : e.1 < s) : HC e k (s - (e.1 - e.2.length)) c → HC e (k + 1) s c
  | ⟨l, nl, hl, el⟩ => ⟨l, nl, fun r => by
    rw [hl r]
    constructor
    · rintro ⟨h1, h2⟩
      exact ⟨h1, by rw [it_succ, h2]; exact (from_eq_hi ef hs (by have := it_ge ef k h1; omega)).mpr rfl⟩
    · rintro ⟨h1, h2⟩
      rw [it_succ] at h2
      exact ⟨h1, (from_eq_hi ef hs (it_ge ef k h1)).mp h2⟩, el⟩
theorem HC.ups {e : Int × List Int} (ef : Eff e) {k : Nat} {c : Nat} : ∀ (j : Nat) (s : Int), (∀ i : Nat, i < j → e.1 < s - i * (e.1 - e.2.length)) → HC e k (s - j * (e.1 - e.2.length)) c → HC e (k + j) s c
  | 0, s, _, h => by simpa using h
  | j + 1, s, hi, h => by
    have ed : ∀ i : Nat, ((i + 1 : Nat) : Int) * (e.1 - e.2.length) = (e.1 - e.2.length) + i * (e.1 - e.2.length) := fun i => by
      rw [Int.natCast_add, Int.add_mul]
      simp
      omega
    have h0 := hi 0 (by omega)
    rw [Int.natCast_zero, Int.zero_mul] at h0
    refine HC.up ef (k := k + j) (by omega) (HC.ups ef j _ (fun i hi2 => ?_) ?_)
    · have := hi (i + 1) (by omega)
      rw [ed] at this
      omega
    · rw [ed] at h
      rw [show s - (e.1 - e.2.length) - j * (e.1 - e.2.length) = s - ((e.1 - e.2.length) + j * (e.1 - e.2.length)) by omega]
      exact h
theorem HC.one {e : Int × List Int} (ef : Eff e) (hs : e.1 ≤ e.2.length) {s : Int} (h : e.1 < s) (h1 : 1 ≤ s) (k : Nat) : HC e k s 1 := by
  have neg : ∀ i : Nat, (i : Int) * (e.1 - e.2.length) ≤ 0 := fun i => Int.mul_nonpos_of_nonneg_of_nonpos (by omega) (by omega)
  have := HC.ups ef (k := 0) (c := 1) k s (fun i _ => by have := neg i; omega) (HC.zero (by have := neg k; omega))
  rwa [Nat.zero_add] at this
/-- places up to the size alone come down to the needs, if the size is not beyond the needs -/
theorem HC.low {e : Int × List Int} (ef : Eff e) (hs : (e.2.length : Int) ≤ e.1) {s : Int} (h : s ≤ e.1) {k : Nat} (hk : 0 < k) : HC e k s (((rg 1 (e.2.length + 1)).filter fun r => decide (itE e k r = s)).length) := by
  refine ⟨_, ?_, fun r => ?_, rfl⟩
  · exact (rg_nodup _ _).filter _
  · rw [List.mem_filter, mem_rg, decide_eq_true_eq]
    constructor
    · rintro ⟨⟨h1, _⟩, h2⟩
      exact ⟨h1, h2⟩
    · rintro ⟨h1, h2⟩
      refine ⟨⟨h1, ?_⟩, h2⟩
      apply Classical.byContradiction
      intro no
      have := it_up hs k (r := r) (by omega)
      rw [h2] at this
      have p : (1 : Int) * (e.1 - e.2.length) ≤ k * (e.1 - e.2.length) := Int.mul_le_mul_of_nonneg_right (by omega) (by omega)
      omega
/-- so many there are -/
def Cnt {α : Type} (P : α → Prop) (c : Nat) : Prop := ∃ l : List α, l.Nodup ∧ (∀ r, r ∈ l ↔ P r) ∧ l.length = c
section
variable {α β : Type} {P Q : α → Prop} {c d : Nat}
theorem Cnt.iff (h : Cnt P c) (k : ∀ r, P r ↔ Q r) : Cnt Q c := by
  obtain ⟨l, n, m, e⟩ := h
  exact ⟨l, n, fun r => (m r).trans (k r), e⟩
theorem Cnt.none (h : ∀ r, ¬ P r) : Cnt P 0 := ⟨[], by simp, fun r => by simp [h r], rfl⟩
theorem Cnt.or (h : Cnt P c) (k : Cnt Q d) (dis : ∀ r, P r → ¬ Q r) : Cnt (fun r => P r ∨ Q r) (c + d) := by
  obtain ⟨l, n, m, e⟩ := h
  obtain ⟨l2, n2, m2, e2⟩ := k
  refine ⟨l ++ l2, List.nodup_append.mpr ⟨n, n2, fun a ha b hb q => dis a ((m a).mp ha) ((m2 a).mp (q ▸ hb))⟩, fun r => ?_, by rw [List.length_append, e, e2]⟩
  rw [List.mem_append, m, m2]
theorem Cnt.map {f : α → β} (h : Cnt P c) (inj : ∀ a b, P a → P b → f a = f b → a = b) : Cnt (fun r => ∃ a, P a ∧ f a = r) c := by
  obtain ⟨l, n, m, e⟩ := h
  refine ⟨l.map f, ?_, fun r => ?_, by rw [List.length_map, e]⟩
  · refine List.pairwise_map.mpr (List.Pairwise.imp_of_mem (fun {a b} ha hb hab q => ?_) n)
    exact hab (inj a b ((m a).mp ha) ((m b).mp hb) q)
  · rw [List.mem_map]
    constructor
    · rintro ⟨a, ha, q⟩
      exact ⟨a, (m a).mp ha, q⟩
    · rintro ⟨a, ha, q⟩
      exact ⟨a, (m a).mpr ha, q⟩
theorem Cnt.single (a : α) : Cnt (fun r => r = a) 1 := ⟨[a], by simp, fun r => by simp, rfl⟩
theorem Cnt.lt (n : Nat) : Cnt (fun r : Nat => r < n) n := ⟨List.range n, List.nodup_range, fun r => List.mem_range, List.length_range⟩
end
theorem HC_cnt {e : Int × List Int} {k : Nat} {s : Int} {c : Nat} : HC e k s c ↔ Cnt (fun r => 1 ≤ r ∧ itE e k r = s) c := Iff.rfl
/-- how often a walk comes by a place, up to a time -/
def AR (e : Int × List Int) (k : Nat) (x s : Int) (c : Nat) : Prop := Cnt (fun t : Nat => t ≤ k ∧ itE e t x = s) c
/-- a walk that goes round: found so far t places, the last leads back to the i-th -/
theorem walk_at_mod {e : Int × List Int} {x : Int} {i t : Nat} (hi : i < t) (per : itE e t x = itE e i x) (m : Nat) (hm : i ≤ m) : itE e m x = itE e (i + (m - i) % (t - i)) x := by
  have p : itE e (i + (t - i)) x = itE e i x := by rw [show i + (t - i) = t by omega]; exact per
  have := it_mod p (m - i)
  rw [show i + (m - i) = m by omega] at this
  exact this
section
variable {e : Int × List Int} {x s : Int} {i t k : Nat}
theorem AR.never (hi : i < t) (per : itE e t x = itE e i x) (no : ∀ j : Nat, j < t → itE e j x ≠ s) : AR e k x s 0 := Cnt.none fun m ⟨_, h⟩ => by
  by_cases hm : m < t
  · exact no m hm h
  · rw [walk_at_mod hi per m (by omega)] at h
    have := Nat.mod_lt (m - i) (show 0 < t - i by omega)
    exact no _ (by omega) h
theorem AR.late (f : Nat) (hf : ∀ j : Nat, j < f → itE e j x ≠ s) (hk : k < f) : AR e k x s 0 := Cnt.none fun m ⟨h1, h⟩ => hf m (by omega) h
theorem inj_of_nodup {X : Nat → Int} {t : Nat} (nd : ((List.range t).map X).Nodup) {a b : Nat} (ha : a < t) (hb : b < t) (h : X a = X b) : a = b := by
  have nd := List.pairwise_iff_getElem.mp nd
  rcases Nat.lt_trichotomy a b with c | c | c
  · have := nd a b (by simp; omega) (by simp; omega) c
    simp at this
    exact absurd h this
  · exact c
  · have := nd b a (by simp; omega) (by simp; omega) c
    simp at this
    exact absurd h.symm this
theorem AR.once (hi : i < t) (per : itE e t x = itE e i x) (nd : ((List.range t).map fun j => itE e j x).Nodup) {f : Nat} (hf : f < i) (hs : itE e f x = s) (hk : f ≤ k) : AR e k x s 1 := (Cnt.single f).iff fun m => by
  constructor
  · rintro rfl
    exact ⟨hk, hs⟩
  · rintro ⟨_, h⟩
    by_cases hm : m < t
    · exact inj_of_nodup nd hm (by omega) (h.trans hs.symm)
    · rw [walk_at_mod hi per m (by omega)] at h
      have := Nat.mod_lt (m - i) (show 0 < t - i by omega)
      have := inj_of_nodup nd (show i + (m - i) % (t - i) < t by omega) (show f < t by omega) (h.trans hs.symm)
      omega
theorem AR.round (hi : i < t) (per : itE e t x = itE e i x) (nd : ((List.range t).map fun j => itE e j x).Nodup) {f : Nat} (hf : i ≤ f) (hf2 : f < t) (hs : itE e f x = s) (hk : f ≤ k) : AR e k x s ((k - f) / (t - i) + 1) := by
  have hp : 0 < t - i := by omega
  refine ((Cnt.lt ((k - f) / (t - i) + 1)).map (f := fun m => f + m * (t - i)) fun a b _ _ h => ?_).iff fun m => ?_
  · have h2 : a * (t - i) = b * (t - i) := by
      have : f + a * (t - i) = f + b * (t - i) := h
      omega
    exact Nat.eq_of_mul_eq_mul_right hp h2
  · constructor
    · rintro ⟨a, ha, rfl⟩
      have h1 : a ≤ (k - f) / (t - i) := by omega
      have h2 := (Nat.le_div_iff_mul_le hp).mp h1
      refine ⟨by omega, ?_⟩
      have per2 : itE e (i + (t - i)) x = itE e i x := by rw [show i + (t - i) = t by omega]; exact per
      have := it_perk per2 (f - i) a
      rw [show i + (f - i) = f by omega] at this
      rw [this, hs]
    · rintro ⟨h1, h⟩
      by_cases hm : m < t
      · have := inj_of_nodup nd hm hf2 (h.trans hs.symm)
        exact ⟨0, Nat.succ_pos _, by omega⟩
      · rw [walk_at_mod hi per m (by omega)] at h
        have lt := Nat.mod_lt (m - i) hp
        have := inj_of_nodup nd (show i + (m - i) % (t - i) < t by omega) hf2 (h.trans hs.symm)
        have dm := Nat.div_add_mod (m - i) (t - i)
        have e1 : m = f + (m - i) / (t - i) * (t - i) := by
          rw [Nat.mul_comm]
          omega
        refine ⟨(m - i) / (t - i), ?_, e1.symm⟩
        have : (m - i) / (t - i) ≤ (k - f) / (t - i) := (Nat.le_div_iff_mul_le hp).mpr (by omega)
        exact Nat.lt_succ_of_le this
end
theorem Cnt.sum {R : Int → Int → Prop} {A : Int → Nat} : ∀ (l : List Int), l.Nodup → (∀ a ∈ l, Cnt (R a) (A a)) → (∀ a ∈ l, ∀ b ∈ l, a ≠ b → ∀ r, R a r → ¬ R b r) → Cnt (fun r => ∃ a ∈ l, R a r) (l.map A).sum
  | [], _, _, _ => Cnt.none fun r ⟨a, h, _⟩ => nomatch h
  | a :: l, nd, h, dis => by
    obtain ⟨na, nd2⟩ := List.nodup_cons.mp nd
    have h1 := h a List.mem_cons_self
    have h2 := Cnt.sum l nd2 (fun b hb => h b (List.mem_cons_of_mem _ hb)) fun b hb c hc => dis b (List.mem_cons_of_mem _ hb) c (List.mem_cons_of_mem _ hc)
    have h3 := h1.or h2 fun r hr ⟨b, hb, q⟩ => dis a List.mem_cons_self b (List.mem_cons_of_mem _ hb) (fun z => na (z ▸ hb)) r hr q
    rw [List.map_cons, List.sum_cons]
    refine h3.iff fun r => ?_
    constructor
    · rintro (q | ⟨b, hb, q⟩)
      · exact ⟨a, List.mem_cons_self, q⟩
      · exact ⟨b, List.mem_cons_of_mem _ hb, q⟩
    · rintro ⟨b, hb, q⟩
      rcases List.mem_cons.mp hb with rfl | hb
      · exact .inl q
      · exact .inr ⟨b, hb, q⟩
/-- what lies above the needs comes down the ladder of one start -/
theorem HC.deep {e : Int × List Int} (ef : Eff e) (hs : e.1 < e.2.length) {s : Int} (h : s ≤ e.1) {k : Nat} {A : Int → Nat} (hA : ∀ x ∈ rg (e.1 + 1) (e.2.length + 1), AR e k x s (A x)) :
    HC e k s (((rg 1 (e.1 + 1)).filter fun r => decide (itE e k r = s)).length + ((rg (e.1 + 1) (e.2.length + 1)).map A).sum) := by
  have n0 := ef.nn
  obtain ⟨c, hc⟩ : ∃ c : Int, e.2.length - e.1 = c := ⟨_, rfl⟩
  have sh : e.1 - (e.2.length : Int) = -c := by omega
  have c0 : 0 < c := by omega
  have lin : ∀ (j : Nat) (x : Int), e.1 < x → itE e j (x + j * c) = x := fun j x hx => by
    have := it_lin (e := e) j (x + j * c) fun i hi => by
      rw [sh, Int.mul_neg]
      have : ((i : Int) + 1) * c ≤ j * c := Int.mul_le_mul_of_nonneg_right (by omega) (by omega)
      rw [Int.add_mul, Int.one_mul] at this
      omega
    rw [this, sh, Int.mul_neg]
    omega
  have p1 : Cnt (fun r => (1 ≤ r ∧ r < e.1 + 1) ∧ itE e k r = s) ((rg 1 (e.1 + 1)).filter fun r => decide (itE e k r = s)).length :=
    ⟨_, (rg_nodup _ _).filter _, fun r => by rw [List.mem_filter, mem_rg, decide_eq_true_eq], rfl⟩
  have p2 := Cnt.sum (R := fun x r => ∃ t : Nat, (t ≤ k ∧ itE e t x = s) ∧ x + ((k - t : Nat) : Int) * c = r) (A := A) (rg (e.1 + 1) (e.2.length + 1)) (rg_nodup _ _) (fun x hx => (hA x hx).map fun a b ha hb q => by
    have h2 : ((k - a : Nat) : Int) * c = ((k - b : Nat) : Int) * c := by omega
    have := Int.eq_of_mul_eq_mul_right (show c ≠ 0 by omega) h2
    omega) (fun a ha b hb hab r ⟨t, _, h1⟩ ⟨u, _, h2⟩ => by
    have ha := mem_rg.mp ha
    have hb := mem_rg.mp hb
    have e1 : (a - e.1 - 1 + ((k - t : Nat) : Int) * c) % c = a - e.1 - 1 := by
      rw [Int.add_mul_emod_self_right]
      exact Int.emod_eq_of_lt (by omega) (by omega)
    have e2 : (b - e.1 - 1 + ((k - u : Nat) : Int) * c) % c = b - e.1 - 1 := by
      rw [Int.add_mul_emod_self_right]
      exact Int.emod_eq_of_lt (by omega) (by omega)
    have e3 : a - e.1 - 1 + ((k - t : Nat) : Int) * c = b - e.1 - 1 + ((k - u : Nat) : Int) * c := by omega
    rw [e3, e2] at e1
    omega)
  refine HC_cnt.mpr ((p1.or p2 fun r hr ⟨x, hx, t, _, q⟩ => ?_).iff fun r => ?_)
  · have := mem_rg.mp hx
    have : (0 : Int) ≤ ((k - t : Nat) : Int) * c := Int.mul_nonneg (by omega) (by omega)
    omega
  · constructor
    · rintro (⟨⟨h1, _⟩, h2⟩ | ⟨x, hx, t, ⟨ht, h1⟩, rfl⟩)
      · exact ⟨h1, h2⟩
      · have hx := mem_rg.mp hx
        have : (0 : Int) ≤ ((k - t : Nat) : Int) * c := Int.mul_nonneg (by omega) (by omega)
        refine ⟨by omega, ?_⟩
        have e1 : k = t + (k - t) := by omega
        rw [e1, it_add, show t + (k - t) - t = k - t by omega, lin _ _ (by omega)]
        exact h1
    · rintro ⟨h1, h2⟩
      by_cases hn : r < e.1 + 1
      · exact .inl ⟨⟨h1, hn⟩, h2⟩
      · right
        have dm := Int.emod_add_mul_ediv (r - e.1 - 1) c
        have m0 := Int.emod_nonneg (r - e.1 - 1) (show c ≠ 0 by omega)
        have m1 := Int.emod_lt_of_pos (r - e.1 - 1) c0
        have q0 : 0 ≤ (r - e.1 - 1) / c := Int.ediv_nonneg (by omega) (by omega)
        obtain ⟨j, hj⟩ : ∃ j : Nat, (r - e.1 - 1) / c = j := ⟨((r - e.1 - 1) / c).toNat, by omega⟩
        obtain ⟨x, hx⟩ : ∃ x : Int, e.1 + 1 + (r - e.1 - 1) % c = x := ⟨_, rfl⟩
        rw [hj, Int.mul_comm] at dm
        have er : r = x + j * c := by omega
        have hjk : j ≤ k := by
          apply Classical.byContradiction
          intro no
          have e1 : r = (x + ((j - k : Nat) : Int) * c) + (k : Int) * c := by
            have : ((j - k : Nat) : Int) * c + k * c = j * c := by
              rw [← Int.add_mul]
              congr 1
              omega
            omega
          have pos : (0 : Int) ≤ ((j - k : Nat) : Int) * c := Int.mul_nonneg (by omega) (by omega)
          rw [e1, lin k _ (by omega)] at h2
          omega
        refine ⟨x, mem_rg.mpr ⟨by omega, by omega⟩, k - j, ⟨by omega, ?_⟩, by rw [show k - (k - j) = j by omega]; exact er.symm⟩
        have e1 : k = (k - j) + j := by omega
        rw [e1, it_add, er, lin j x (by omega)] at h2
        exact h2
theorem Cnt.uniq {α : Type} {P : α → Prop} {c d : Nat} : Cnt P c → Cnt P d → c = d
  | ⟨l, nl, hl, el⟩, ⟨m, nm, hm, em⟩ => by
    have := (List.perm_ext_iff_of_nodup nl nm).mpr fun r => (hl r).trans (hm r).symm
    rw [← el, ← em]
    exact this.length_eq
def arN (e : Int × List Int) (k : Nat) (s x : Int) : Nat := ((List.range (k + 1)).filter fun t => decide (itE e t x = s)).length
theorem arN_ok {e : Int × List Int} {k : Nat} {s x : Int} : AR e k x s (arN e k s x) := ⟨_, List.nodup_range.filter _, fun t => by
  rw [List.mem_filter, List.mem_range, decide_eq_true_eq]
  constructor
  · rintro ⟨h1, h2⟩
    exact ⟨by omega, h2⟩
  · rintro ⟨h1, h2⟩
    exact ⟨by omega, h2⟩, rfl⟩
def cRow (e : Int × List Int) : Nat → Int → Nat
  | 0, _ => 1
  | k + 1, s => (((rg 1 ((e.2.length : Int) + 1)).filter fun x => decide (e.2.getD (x - 1).toNat 0 = s)).map fun x => if x ≤ e.1 then cRow e k x else 1).sum
def cAt (e : Int × List Int) (k : Nat) (x : Int) : Nat := if x ≤ e.1 then cRow e k x else 1
theorem HC.row {e : Int × List Int} (ef : Eff e) : ∀ (k : Nat) {s : Int}, 1 ≤ s → s ≤ e.1 → HC e k s (cRow e k s)
  | 0, s, h1, _ => HC.zero h1
  | k + 1, s, h1, h2 => by
    have sm := Cnt.sum (R := fun x r => 1 ≤ r ∧ itE e k r = x) (A := fun x => cAt e k x) ((rg 1 ((e.2.length : Int) + 1)).filter fun x => decide (e.2.getD (x - 1).toNat 0 = s)) ((rg_nodup _ _).filter _) (fun x hx => by
      have hx := mem_rg.mp (List.mem_filter.mp hx).1
      by_cases hn : x ≤ e.1
      · have := HC.row ef k hx.1 hn
        unfold cAt
        rw [if_pos hn]
        exact this
      · unfold cAt
        rw [if_neg hn]
        exact HC.one ef (by omega) (by omega) hx.1 k) (fun a _ b _ hab r h3 h4 => hab (h3.2.symm.trans h4.2))
    refine Cnt.iff sm fun r => ?_
    constructor
    · rintro ⟨x, hx, h3, h4⟩
      obtain ⟨hx1, hx2⟩ := List.mem_filter.mp hx
      have hx1 := mem_rg.mp hx1
      refine ⟨h3, ?_⟩
      rw [it_succ, h4, from_lo (by omega)]
      simpa using hx2
    · rintro ⟨h3, h4⟩
      rw [it_succ] at h4
      have hp := it_ge ef k h3
      have lo : itE e k r ≤ e.2.length := by
        apply Classical.byContradiction
        intro no
        rw [from_hi (by omega)] at h4
        omega
      rw [from_lo lo] at h4
      exact ⟨itE e k r, List.mem_filter.mpr ⟨mem_rg.mpr ⟨hp, by omega⟩, by simpa using h4⟩, h3, rfl⟩
/-- what is there behind one time more than there are needs, always is -/
theorem alive {e : Int × List Int} (ef : Eff e) {s : Int} (h1 : 1 ≤ s) (h2 : s ≤ e.1) {x : Int} (hx : 1 ≤ x) {T : Nat} (hT : e.1 < T) (h : itE e T x = s) (k : Nat) : ∃ r, 1 ≤ r ∧ itE e k r = s := by
  by_cases all : ∀ i : Nat, 1 ≤ i → i ≤ T → itE e i x ≤ e.1
  · obtain ⟨i, j, hij, hj, eq⟩ := pigeon (N := e.1.toNat) (f := fun i => itE e (i + 1) x) fun i hi => ⟨it_ge ef _ hx, by
      have := all (i + 1) (by omega) (by omega)
      omega⟩
    -- round and round
    have per : itE e (i + 1 + (j - i)) x = itE e (i + 1) x := by
      rw [show i + 1 + (j - i) = j + 1 by omega]
      exact eq.symm
    have hp : 0 < j - i := by omega
    have e1 := it_perk per (T - (i + 1)) k
    rw [show i + 1 + (T - (i + 1)) = T by omega, h] at e1
    have hle : k ≤ k * (j - i) := Nat.le_mul_of_pos_right k hp
    refine ⟨itE e (T + k * (j - i) - k) x, it_ge ef _ hx, ?_⟩
    rw [← it_add, show k + (T + k * (j - i) - k) = T + k * (j - i) by omega]
    exact e1
  · -- it came from above
    have ⟨i, hi⟩ := Classical.not_forall.mp all
    have ⟨hi1, hi⟩ := Classical.not_imp.mp hi
    have ⟨hi2, hi⟩ := Classical.not_imp.mp hi
    have lo : e.1 ≤ e.2.length := by
      apply Classical.byContradiction
      intro no
      have := it_up (e := e) (by omega) (T - i) (r := itE e i x) (by omega)
      rw [← it_add, show T - i + i = T by omega, h] at this
      have : (0 : Int) ≤ ((T - i : Nat) : Int) * (e.1 - e.2.length) := Int.mul_nonneg (by omega) (by omega)
      omega
    by_cases hk : k ≤ T
    · exact ⟨itE e (T - k) x, it_ge ef _ hx, by rw [← it_add, show k + (T - k) = T by omega]; exact h⟩
    · obtain ⟨l, nl, hl, el⟩ := HC.one ef lo (s := itE e i x) (by omega) (it_ge ef _ hx) (k - (T - i))
      obtain ⟨r, hr⟩ : ∃ r, r ∈ l := by
        cases l with
        | nil => cases el
        | cons r _ => exact ⟨r, List.mem_cons_self⟩
      obtain ⟨g1, g2⟩ := (hl r).mp hr
      refine ⟨r, g1, ?_⟩
      rw [show k = (T - i) + (k - (T - i)) by omega, it_add, g2, ← it_add, show T - i + i = T by omega]
      exact h
theorem HC.pos {e : Int × List Int} {k : Nat} {s : Int} {c : Nat} (h : HC e k s c) : 0 < c ↔ ∃ r, 1 ≤ r ∧ itE e k r = s := by
  obtain ⟨l, nl, hl, el⟩ := h
  rw [← el, List.length_pos_iff_exists_mem]
  exact ⟨fun ⟨r, hr⟩ => ⟨r, (hl r).mp hr⟩, fun ⟨r, hr⟩ => ⟨r, (hl r).mpr hr⟩⟩
/-- nothing is left behind more times than there are needs, or it is so by one more already -/
theorem gone_by {e : Int × List Int} (ef : Eff e) {s : Int} (h1 : 1 ≤ s) (h2 : s ≤ e.1) {k : Nat} (h : cRow e k s = 0) (T : Nat) (hT : e.1 < T) : cRow e T s = 0 := by
  apply Classical.byContradiction
  intro no
  obtain ⟨x, hx, hx2⟩ := (HC.row ef T h1 h2).pos.mp (by omega)
  have := (HC.row ef k h1 h2).pos.mpr (alive ef h1 h2 hx hT hx2 k)
  omega
/-- something is left -/
def Alive (e : Int × List Int) (k : Nat) (s : Int) : Prop := ∃ r, 1 ≤ r ∧ itE e k r = s
/-- when nothing is left -/
def GN (e : Int × List Int) (r : Int) : Option Nat → Prop
  | none => ∀ k, Alive e k r
  | some t => ¬ Alive e t r ∧ ∀ j : Nat, j < t → Alive e j r
theorem GN.uniq {e : Int × List Int} {r : Int} : ∀ {o p : Option Nat}, GN e r o → GN e r p → o = p
  | none, none, _, _ => rfl
  | none, some t, h, k => absurd (h t) k.1
  | some t, none, h, k => absurd (k t) h.1
  | some t, some u, h, k => by
    rcases Nat.lt_trichotomy t u with c | c | c
    · exact absurd (k.2 t c) h.1
    · rw [c]
    · exact absurd (h.2 u c) k.1
theorem stepsD_le {h l c : Int} (c0 : 0 < c) (l0 : 0 ≤ l) (h0 : 0 ≤ h) (g : ∀ j : Nat, (j : Int) < stepsD h l c → l < h - j * c) : stepsD h l c ≤ h := by
  apply Classical.byContradiction
  intro no
  have := g h.toNat (by omega)
  have e1 : ((h.toNat : Nat) : Int) = h := by omega
  rw [e1] at this
  have := Int.mul_le_mul_of_nonneg_left (show 1 ≤ c by omega) h0
  omega
/-- straight up, then by the rows -/
structure UpOk (e : Int × List Int) (r : Int) (s : Nat) (low : Int) : Prop where
  lw : low = r - s * (e.1 - e.2.length)
  pos : 1 ≤ low
  sr : (s : Int) ≤ r
  hi : e.1 < low → e.1 ≤ e.2.length ∧ s = 0
  ups : ∀ i : Nat, i < s → e.1 < r - i * (e.1 - e.2.length)
theorem UpOk.uniq {e : Int × List Int} {r : Int} {S S' : Nat} {low low' : Int} (u : UpOk e r S low) (u' : UpOk e r S' low') : S = S' ∧ low = low' := by
  have key : ∀ {S S' : Nat} {low low' : Int}, UpOk e r S low → UpOk e r S' low' → ¬ S < S' := fun {S S' low low'} u u' lt => by
    have a := u'.ups S lt
    rw [← u.lw] at a
    obtain ⟨b, rfl⟩ := u.hi a
    have c := u.lw
    simp at c
    have d := u'.lw
    have f : (S' : Int) * (e.1 - e.2.length) ≤ 0 := Int.mul_nonpos_of_nonneg_of_nonpos (by omega) (by omega)
    have g := u'.hi (by omega)
    omega
  have : S = S' := by
    have a := key u u'
    have b := key u' u
    omega
  subst this
  exact ⟨rfl, by rw [u.lw, u'.lw]⟩
theorem up_ok {e : Int × List Int} (ef : Eff e) {r : Int} (hr : 1 ≤ r) (g1 : ∀ {h l c : Int}, 0 < c → (∀ j : Nat, (j : Int) < stepsD h l c → l < h - j * c) ∧ h - stepsD h l c * c ≤ (if l < h then l else h)) (g0 : ∀ {h l s : Int}, 0 ≤ stepsD h l s) : UpOk e r (if 0 < e.1 - e.2.length then stepsD r e.1 (e.1 - e.2.length) else 0).toNat (r - (if 0 < e.1 - e.2.length then stepsD r e.1 (e.1 - e.2.length) else 0) * (e.1 - e.2.length)) := by
  have n0 := ef.nn
  by_cases c : 0 < e.1 - (e.2.length : Int)
  · rw [if_pos c]
    obtain ⟨h1, h2⟩ := g1 (h := r) (l := e.1) c
    have h3 := g0 (h := r) (l := e.1) (s := e.1 - e.2.length)
    have h4 := stepsD_le c n0 (by omega) h1
    obtain ⟨s, hs⟩ : ∃ s : Nat, stepsD r e.1 (e.1 - e.2.length) = s := ⟨(stepsD r e.1 (e.1 - e.2.length)).toNat, by omega⟩
    rw [hs] at h1 h2 h4 ⊢
    refine ⟨by rw [Int.toNat_natCast], ?_, by omega, fun h => ?_, fun i hi => h1 i (by omega)⟩
    · cases s with
      | zero => simp; omega
      | succ u =>
        have := h1 u (by omega)
        rw [Int.natCast_add, Int.add_mul]
        simp
        omega
    · split at h2 <;> omega
  · rw [if_neg c]
    exact ⟨by simp, by simp; omega, by simp; omega, fun _ => ⟨by omega, rfl⟩, fun i hi => absurd hi (by simp)⟩
section
variable {e : Int × List Int} {r : Int} {s : Nat} {low : Int}
theorem UpOk.alive_row (u : UpOk e r s low) (ef : Eff e) (h : low ≤ e.1) (k : Nat) : Alive e (k + s) r ↔ 0 < cRow e k low := by
  have h1 := HC.row ef k u.pos h
  rw [u.lw] at h1
  have h2 := HC.ups ef s r u.ups h1
  rw [← u.lw] at h2
  exact h2.pos.symm
theorem UpOk.alive_hi (u : UpOk e r s low) (ef : Eff e) (h : e.1 < low) (k : Nat) : Alive e k r := by
  obtain ⟨h1, h2⟩ := u.hi h
  have h3 := u.lw
  rw [h2] at h3
  simp at h3
  have h4 := u.pos
  exact (HC.one ef h1 (s := r) (by omega) (by omega) k).pos.mp (by decide)
theorem UpOk.alive_up (u : UpOk e r s low) (ef : Eff e) (hr : 1 ≤ r) {j : Nat} (h : j ≤ s) : Alive e j r := by
  have hp : 1 ≤ r - j * (e.1 - e.2.length) := by
    by_cases c : j < s
    · have := u.ups j c
      have := ef.nn
      omega
    · have : j = s := by omega
      rw [this, ← u.lw]
      exact u.pos
  have := HC.ups ef j r (fun i hi => u.ups i (by omega)) (HC.zero hp)
  exact (by simpa using this : HC e j r 1).pos.mp (by decide)
theorem UpOk.never (u : UpOk e r s low) (ef : Eff e) (hr : 1 ≤ r) (h : low ≤ e.1) {T : Nat} (hT : e.1 < T) (h0 : 0 < cRow e T low) : GN e r none := fun k => by
  by_cases c : k ≤ s
  · exact u.alive_up ef hr c
  · have : 0 < cRow e (k - s) low := by
      apply Classical.byContradiction
      intro no
      have := gone_by ef u.pos h (k := k - s) (by omega) T hT
      omega
    have := (u.alive_row ef h (k - s)).mpr this
    rwa [show k - s + s = k by omega] at this
end
/-- the count, told by the places that lead there -/
def cSum (e : Int × List Int) (k : Nat) (s : Int) : Nat := ((rg 1 ((if e.1 < e.2.length then e.1 else (e.2.length : Int)) + 1)).filter fun r => decide (itE e k r = s)).length + ((rg (e.1 + 1) (e.2.length + 1)).map (arN e k s)).sum
theorem HC.sum {e : Int × List Int} (ef : Eff e) {s : Int} (hs : s ≤ e.1) {k : Nat} (hk : 0 < k) : HC e k s (cSum e k s) := by
  unfold cSum
  by_cases h : e.1 < e.2.length
  · rw [if_pos h]
    exact HC.deep ef h hs fun y _ => arN_ok
  · rw [if_neg h, rg_nil (show (e.2.length : Int) + 1 ≤ e.1 + 1 by omega)]
    exact HC.low ef (by omega) hs hk
theorem arN_add {e : Int × List Int} {k m : Nat} {s x : Int} : arN e (k + m) s x = arN e k s x + ((List.range m).filter fun t => decide (itE e (k + 1 + t) x = s)).length := by
  unfold arN
  rw [show k + m + 1 = (k + 1) + m by omega, List.range_add, List.filter_append, List.length_append, List.filter_map, List.length_map]
  rfl
theorem sum_add (l : List Int) (f g : Int → Nat) : (l.map fun x => f x + g x).sum = (l.map f).sum + (l.map g).sum := by
  induction l with
  | nil => rfl
  | cons a l ih =>
    simp only [List.map_cons, List.sum_cons, ih]
    omega
section
variable {n : Int} {gs : List Int} {s : Int} {k : Nat}
theorem arN_le {e : Int × List Int} {s x : Int} : arN e k s x ≤ k + 1 := by
  unfold arN
  refine Nat.le_trans (List.length_filter_le _ _) ?_
  rw [List.length_range]
  exact Nat.le_refl _
theorem sum_le (l : List Int) (f : Int → Nat) (b : Nat) (h : ∀ x ∈ l, f x ≤ b) : (l.map f).sum ≤ l.length * b := by
  induction l with
  | nil => simp
  | cons a l ih =>
    have h1 := h a List.mem_cons_self
    have h2 := ih fun x hx => h x (List.mem_cons_of_mem _ hx)
    simp only [List.map_cons, List.sum_cons, List.length_cons, Nat.add_mul]
    omega
theorem cSum_le (ef : Eff (n, gs)) (n1 : n ≤ 6) (l1 : gs.length ≤ 8) : cSum (n, gs) k s ≤ 8 + 20 * (k + 1) := by
  unfold cSum
  have a := List.length_filter_le (fun r => decide (itE (n, gs) k r = s)) (rg 1 ((if ((n, gs) : Int × List Int).1 < (((n, gs) : Int × List Int).2.length : Int) then ((n, gs) : Int × List Int).1 else (((n, gs) : Int × List Int).2.length : Int)) + 1))
  rw [rg_length] at a
  have b : (if ((n, gs) : Int × List Int).1 < (((n, gs) : Int × List Int).2.length : Int) then ((n, gs) : Int × List Int).1 else (((n, gs) : Int × List Int).2.length : Int)) ≤ 8 := by
    dsimp only
    split <;> omega
  have c := sum_le (rg (((n, gs) : Int × List Int).1 + 1) ((((n, gs) : Int × List Int).2.length : Int) + 1)) (arN (n, gs) k s) (k + 1) fun x _ => arN_le
  have d : (rg (((n, gs) : Int × List Int).1 + 1) ((((n, gs) : Int × List Int).2.length : Int) + 1)).length * (k + 1) ≤ 20 * (k + 1) := Nat.mul_le_mul_right _ (by
    rw [rg_length]
    have := ef.nn
    dsimp only at *
    omega)
  omega
end
def rowE (e : Int × List Int) (k : Nat) : List Int := (rg 1 (e.1 + 1)).map (itE e k)
structure CA (e : Int × List Int) (i p : Nat) : Prop where
  pos : 0 < p
  eq : rowE e (i + p) = rowE e i
  ne : ∀ a b : Nat, a < b → b < i + p → rowE e a ≠ rowE e b
theorem CA.uniq {e : Int × List Int} {i p j q : Nat} (h : CA e i p) (k : CA e j q) : i = j ∧ p = q := by
  have hp := h.pos
  have kp := k.pos
  have e1 : i + p = j + q := by
    rcases Nat.lt_trichotomy (i + p) (j + q) with c | c | c
    · exact absurd h.eq.symm (k.ne i (i + p) (by omega) c)
    · exact c
    · exact absurd k.eq.symm (h.ne j (j + q) (by omega) c)
  have e2 : rowE e i = rowE e j := by rw [← h.eq, ← k.eq, e1]
  rcases Nat.lt_trichotomy i j with c | c | c
  · exact absurd e2 (k.ne i j c (by omega))
  · exact ⟨c, by omega⟩
  · exact absurd e2.symm (h.ne j i c (by omega))
section
variable {e : Int × List Int}
theorem it_in (ef : Eff e) (hl : e.1 = e.2.length) : ∀ (k : Nat) {x : Int}, 1 ≤ x → x ≤ e.1 → 1 ≤ itE e k x ∧ itE e k x ≤ e.1
  | 0, x, h1, h2 => ⟨h1, h2⟩
  | k + 1, x, h1, h2 => it_in ef hl k (from_ge ef h1) (from_low ef h1 (by omega))
theorem it_5 {c : Int} (h5 : itE e 5 c = c) (h1 : itE e 1 c ≠ c) : ∀ d : Nat, 0 < d → d < 5 → itE e d c ≠ c := fun d d0 d5 h => by
  have : d = 1 ∨ d = 2 ∨ d = 3 ∨ d = 4 := by omega
  rcases this with rfl | rfl | rfl | rfl
  · exact h1 h
  · have : itE e 1 (itE e 2 (itE e 2 c)) = c := by rw [← it_add, ← it_add]; exact h5
    rw [h, h] at this
    exact h1 this
  · have : itE e 1 (itE e 5 c) = c := by rw [← it_add 1 5]; rw [show 1 + 5 = 3 + 3 by rfl, it_add, h, h]
    rw [h5] at this
    exact h1 this
  · have : itE e 1 (itE e 4 c) = c := by rw [← it_add]; exact h5
    rw [h] at this
    exact h1 this
theorem again1 (ef : Eff e) (hl : e.1 = e.2.length) (h6 : e.1 ≤ 6) : ∃ b : Nat, (b = 11 ∨ b = 18) ∧ ∀ x, 1 ≤ x → x ≤ e.1 → itE e b x = itE e 6 x := by
  have cyc : ∀ x, 1 ≤ x → x ≤ e.1 → ∃ d : Nat, 0 < d ∧ d ≤ 6 ∧ itE e (6 + d) x = itE e 6 x := fun x h1 h2 => by
    obtain ⟨i, j, hij, hj, eq⟩ := pigeon (N := 6) (f := fun i => itE e i x) fun i hi => by
      have := it_in ef hl i h1 h2
      exact ⟨this.1, by omega⟩
    refine ⟨j - i, by omega, by omega, ?_⟩
    have per : itE e (i + (j - i)) x = itE e i x := by rw [show i + (j - i) = j by omega]; exact eq.symm
    have := it_per per (6 - i)
    rwa [show i + (6 - i) + (j - i) = 6 + (j - i) by omega, show i + (6 - i) = 6 by omega] at this
  by_cases five : ∃ x, 1 ≤ x ∧ x ≤ e.1 ∧ itE e 5 (itE e 6 x) = itE e 6 x ∧ itE e 1 (itE e 6 x) ≠ itE e 6 x
  · obtain ⟨x, x1, x2, f5, f1⟩ := five
    obtain ⟨c, hc⟩ : ∃ c, itE e 6 x = c := ⟨_, rfl⟩
    rw [hc] at f5 f1
    have cb : 1 ≤ c ∧ c ≤ e.1 := by rw [← hc]; exact it_in ef hl 6 x1 x2
    have no := it_5 f5 f1
    have back : ∀ i : Nat, i < 5 → itE e 5 (itE e i c) = itE e i c := fun i hi => by rw [← it_add, Nat.add_comm, it_add, f5]
    have inj : ∀ i j : Nat, i < j → j < 5 → itE e i c ≠ itE e j c := fun i j hij hj eq => by
      have h1 := congrArg (itE e (5 - i)) eq
      rw [← it_add, ← it_add, show 5 - i + i = 5 by omega, show 5 - i + j = (j - i) + 5 by omega, it_add (j - i) 5, f5] at h1
      exact no (j - i) (by omega) (by omega) h1.symm
    have nd : ((List.range 5).map fun i => itE e i c).Nodup := by
      refine List.pairwise_map.mpr (List.Pairwise.imp_of_mem (fun {a b} ha hb hab eq => ?_) List.pairwise_lt_range)
      exact inj a b hab (by have := List.mem_range.mp hb; omega) eq
    refine ⟨11, .inl rfl, fun y y1 y2 => ?_⟩
    obtain ⟨z, hz⟩ : ∃ z, itE e 6 y = z := ⟨_, rfl⟩
    have zb : 1 ≤ z ∧ z ≤ e.1 := by rw [← hz]; exact it_in ef hl 6 y1 y2
    rw [show 11 = 5 + 6 by rfl, it_add, hz]
    by_cases zc : ∃ i : Nat, i < 5 ∧ itE e i c = z
    · obtain ⟨i, hi, rfl⟩ := zc
      exact back i hi
    · obtain ⟨d, d0, d6, hd⟩ := cyc y y1 y2
      rw [Nat.add_comm, it_add, hz] at hd
      have fz : 1 ≤ itE e 1 z ∧ itE e 1 z ≤ e.1 := it_in ef hl 1 zb.1 zb.2
      have fzc : ¬ ∃ i : Nat, i < 5 ∧ itE e i c = itE e 1 z := fun ⟨i, hi, h⟩ => by
        have h2 := congrArg (itE e (d - 1)) h
        rw [← it_add, ← it_add, show d - 1 + 1 = d by omega, hd] at h2
        -- it is on the ring
        have per : itE e (0 + 5) c = itE e 0 c := f5
        have h3 := it_mod per (d - 1 + i)
        rw [Nat.zero_add, Nat.zero_add] at h3
        exact zc ⟨(d - 1 + i) % 5, Nat.mod_lt _ (by decide), by rw [← h3]; exact h2⟩
      have eqz : itE e 1 z = z := by
        apply Classical.byContradiction
        intro hne
        have nd2 : (itE e 1 z :: z :: (List.range 5).map fun i => itE e i c).Nodup := by
          refine List.nodup_cons.mpr ⟨fun m => ?_, List.nodup_cons.mpr ⟨fun m => ?_, nd⟩⟩
          · rcases List.mem_cons.mp m with m | m
            · exact hne m
            · obtain ⟨i, hi, h⟩ := List.mem_map.mp m
              exact fzc ⟨i, List.mem_range.mp hi, h⟩
          · obtain ⟨i, hi, h⟩ := List.mem_map.mp m
            exact zc ⟨i, List.mem_range.mp hi, h⟩
        have := nodup_bd 6 _ nd2 fun w hw => by
          rcases List.mem_cons.mp hw with rfl | hw
          · exact ⟨fz.1, by omega⟩
          · rcases List.mem_cons.mp hw with rfl | hw
            · exact ⟨zb.1, by omega⟩
            · obtain ⟨i, hi, rfl⟩ := List.mem_map.mp hw
              have := it_in ef hl i cb.1 cb.2
              exact ⟨this.1, by omega⟩
        simp at this
      have per : itE e (0 + 1) z = itE e 0 z := eqz
      have := it_perk per 0 5
      exact this
  · refine ⟨18, .inr rfl, fun y y1 y2 => ?_⟩
    obtain ⟨d, d0, d6, hd⟩ := cyc y y1 y2
    obtain ⟨d', dd, hd'⟩ : ∃ d' : Nat, (d' = 1 ∨ d' = 2 ∨ d' = 3 ∨ d' = 4 ∨ d' = 6) ∧ itE e (6 + d') y = itE e 6 y := by
      by_cases h5 : d = 5
      · subst h5
        refine ⟨1, .inl rfl, ?_⟩
        apply Classical.byContradiction
        intro no
        refine five ⟨y, y1, y2, ?_, fun h => no ?_⟩
        · rw [← it_add]; exact hd
        · rw [show 6 + 1 = 1 + 6 by rfl, it_add]; exact h
      · exact ⟨d, by omega, hd⟩
    obtain ⟨q, hq⟩ : ∃ q, 12 = q * d' := by
      rcases dd with h | h | h | h | h
      · exact ⟨12, by omega⟩
      · exact ⟨6, by omega⟩
      · exact ⟨4, by omega⟩
      · exact ⟨3, by omega⟩
      · exact ⟨2, by omega⟩
    have := it_perk hd' 0 q
    rw [← hq] at this
    exact this
theorem again18 (ef : Eff e) (hl : e.1 = e.2.length) (h6 : e.1 ≤ 6) : ∃ b : Nat, 6 < b ∧ b ≤ 18 ∧ ∀ x, 1 ≤ x → x ≤ e.1 → itE e b x = itE e 6 x:= by
  obtain ⟨b, hb, h⟩ := again1 ef hl h6
  exact ⟨b, by omega, by omega, h⟩
/-- the rows come again soon -/
theorem rows_again (ef : Eff e) (hl : e.1 = e.2.length) (h6 : e.1 ≤ 6) : ∃ a b : Nat, a < b ∧ b ≤ 18 ∧ rowE e a = rowE e b := by
  obtain ⟨b, h1, h2, h3⟩ := again18 ef hl h6
  exact ⟨6, b, h1, h2, List.map_congr_left fun x hx => (h3 x (mem_rg.mp hx).1 (by have := (mem_rg.mp hx).2; omega)).symm⟩
theorem rowE_0 : rowE e 0 = rg 1 (e.1 + 1) := by
  unfold rowE
  exact List.map_id'' (fun _ => rfl) _
theorem rowE_succ (ef : Eff e) (hl : e.1 = e.2.length) (k : Nat) : (rowE e k).map (fun s => e.2.getD (s - 1).toNat 0) = rowE e (k + 1) := by
  unfold rowE
  rw [List.map_map]
  refine List.map_congr_left fun x hx => ?_
  have hx := mem_rg.mp hx
  have := it_in ef hl k hx.1 (by omega)
  show e.2.getD (itE e k x - 1).toNat 0 = _
  rw [it_succ, from_lo (by omega)]
theorem rowE_mem (ef : Eff e) (hl : e.1 = e.2.length) {k : Nat} {s : Int} (h : s ∈ rowE e k) : 1 ≤ s ∧ s ≤ e.1 := by
  obtain ⟨x, hx, rfl⟩ := List.mem_map.mp h
  have hx := mem_rg.mp hx
  exact it_in ef hl k hx.1 (by omega)
end
def mkDT (e : Int × List Int) (t : Nat) : List (List Key × D) := (List.range t).map fun j => ((rowE e j).map Sum.inl, PyData.int (j : Nat))
section
variable {e : Int × List Int} {t : Nat} {d : D} {r : List Int}
theorem mkDT_succ : mkDT e (t + 1) = mkDT e t ++ [((rowE e t).map Sum.inl, .int (t : Nat))] := by
  unfold mkDT
  rw [List.range_succ, List.map_append]
  rfl
theorem mkDT_len : (mkDT e t).length = t := by
  unfold mkDT
  rw [List.length_map, List.length_range]
theorem inl_inj {a b : List Int} (h : a.map (Sum.inl : Int → Key) = b.map Sum.inl) : a = b := by
  have := congrArg (List.map (fun k : Key => match k with | .inl i => i | .inr _ => 0)) h
  rw [List.map_map, List.map_map] at this
  simpa [Function.comp_def] using this
theorem mkDT_some (h : valM (mkDT e t) (r.map Sum.inl) = some d) : ∃ j : Nat, j < t ∧ rowE e j = r ∧ d = .int (j : Nat) := by
  have := valM_mem h
  unfold mkDT at this
  obtain ⟨j, hj, eq⟩ := List.mem_map.mp this
  have e1 := congrArg Prod.fst eq
  have e2 := congrArg Prod.snd eq
  exact ⟨j, List.mem_range.mp hj, inl_inj e1, e2.symm⟩
theorem mkDT_none (h : valM (mkDT e t) (r.map Sum.inl) = none) : ∀ j : Nat, j < t → rowE e j ≠ r := fun j hj eq => by
  refine valM_none_mem.mp h ((rowE e j).map Sum.inl, .int (j : Nat)) ?_ (by rw [eq])
  unfold mkDT
  exact List.mem_map.mpr ⟨j, List.mem_range.mpr hj, rfl⟩
theorem mkDT_put (h : valM (mkDT e t) ((rowE e t).map Sum.inl) = none) : putM (mkDT e t) ((rowE e t).map Sum.inl) (.int (t : Nat)) = mkDT e (t + 1) := by
  rw [putM_new h, mkDT_succ]
end
def caD : Option (Nat × Nat) → D
  | none => .none
  | some (i, p) => .tuple [.int i, .int p]
/-- what is told of an effect -/
def CO (e : Int × List Int) : Option (Nat × Nat) → Prop
  | none => e.1 ≠ e.2.length
  | some (i, p) => e.1 = e.2.length ∧ CA e i p
theorem CO.uniq {e : Int × List Int} : ∀ {o p : Option (Nat × Nat)}, CO e o → CO e p → o = p
  | none, none, _, _ => rfl
  | none, some (i, p), h, k => absurd k.1 h
  | some (i, p), none, h, k => absurd h.1 k
  | some (i, p), some (j, q), h, k => by
    obtain ⟨rfl, rfl⟩ := h.2.uniq k.2
    rfl
structure Fit (e : Int × List Int) (k : Nat) (d l : Int) : Prop where
  d0 : 0 ≤ d
  l0 : 0 ≤ l
  sh : d = l + k * (e.1 - e.2.length)
  lo : ∀ r, 1 ≤ r → r ≤ l → itE e k r ≤ d
  hi : ∀ r, 1 ≤ r → l < r → itE e k r = r + k * (e.1 - e.2.length)
structure Siz (e : Int × List Int) (k : Nat) (d l : Int) : Prop where
  ok : Fit e k d l
  least : d = 0 ∨ l = 0 ∨ ¬ Fit e k (d - 1) (l - 1)
section
variable {e : Int × List Int} {k : Nat} {d l : Int}
theorem siz_pow (ef : Eff e) (h : Siz e k d l) : (powE e k).1 = d ∧ ((powE e k).2.length : Int) = l := by
  obtain ⟨⟨d0, l0, sh, lo, hi⟩, lt⟩ := h
  have lr := rg_length 1 (l + 1)
  obtain ⟨L, hL⟩ : ∃ L, (rg 1 (l + 1)).map (itE e k) = L := ⟨_, rfl⟩
  have len : (L.length : Int) = l := by rw [← hL, List.length_map, lr]; omega
  have at_ : ∀ r, 1 ≤ r → r ≤ l → L[(r - 1).toNat]? = some (itE e k r) := fun r h1 h2 => by
    rw [← hL, List.getElem?_map, rg_at (by omega)]
    simp only [Option.map_some]
    rw [show 1 + (((r - 1).toNat : Nat) : Int) = r by omega]
  have mem : ∀ x ∈ L, ∃ r, 1 ≤ r ∧ r ≤ l ∧ itE e k r = x := fun x hx => by
    rw [← hL] at hx
    obtain ⟨r, hr, rfl⟩ := List.mem_map.mp hx
    have hr := mem_rg.mp hr
    exact ⟨r, hr.1, by omega, rfl⟩
  have ee : Eff (d, L) := ⟨d0, fun x hx => by obtain ⟨r, h1, _, rfl⟩ := mem x hx; exact it_ge ef k h1, fun x hx => by obtain ⟨r, h1, h2, rfl⟩ := mem x hx; exact lo r h1 h2⟩
  have fr : ∀ r, 1 ≤ r → fromE (d, L) r = itE e k r := fun r hr => by
    by_cases c : r ≤ l
    · rw [from_lo (by dsimp only; omega), List.getD_eq_getElem?_getD, at_ r hr c]
      rfl
    · rw [from_hi (by dsimp only; omega), hi r hr (by omega)]
      dsimp only
      omega
  have ls : Lst (d, L) := by
    have tr : trim L L.length d = (L.length, d) := by
      cases hlen : L.length with
      | zero => rfl
      | succ j =>
        have cond : ¬ (L[j]? = some d ∧ ∀ x ∈ L.take j, x < d) := by
          rintro ⟨q1, q2⟩
          have hj : itE e k l = d := by
            have := at_ l (by omega) (Int.le_refl _)
            rw [show (l - 1).toNat = j by omega, q1] at this
            exact (Option.some.inj this).symm
          have d1 : 1 ≤ d := by rw [← hj]; exact it_ge ef k (by omega)
          rcases lt with z | z | z
          · omega
          · omega
          · refine z ⟨by omega, by omega, by omega, fun r h1 h2 => ?_, fun r h1 h2 => ?_⟩
            · have a := at_ r h1 (by omega)
              have : itE e k r ∈ L.take j := by
                refine List.mem_of_getElem? (i := (r - 1).toNat) ?_
                rw [List.getElem?_take, if_pos (by omega)]
                exact a
              have := q2 _ this
              omega
            · by_cases c : r = l
              · subst c
                omega
              · exact hi r h1 (by omega)
        show (if L[j]? = some d ∧ (∀ x ∈ L.take j, x < d) then trim L j (d - 1) else (j + 1, d)) = _
        rw [if_neg cond]
    show leastE d L = (d, L)
    unfold leastE
    rw [tr]
    dsimp only
    rw [List.take_length]
  have := pow_of ef ee ls fr
  rw [← this]
  exact ⟨rfl, len⟩
/-- the beginning: as deep as is wished -/
theorem fit_start (ef : Eff e) (hk : 0 < k) : Fit e k (e.1 + (if 0 < e.1 - e.2.length then e.1 - e.2.length else 0) * ((k : Int) - 1)) (e.1 + (if 0 < e.1 - e.2.length then e.1 - e.2.length else 0) * ((k : Int) - 1) - k * (e.1 - e.2.length)) := by
  have n0 := ef.nn
  obtain ⟨s, hs⟩ : ∃ s : Int, e.1 - (e.2.length : Int) = s := ⟨_, rfl⟩
  rw [hs]
  obtain ⟨m, hm⟩ : ∃ m : Int, (if 0 < s then s else 0) = m := ⟨_, rfl⟩
  rw [hm]
  have m0 : 0 ≤ m ∧ s ≤ m ∧ (m = s ∨ m = 0) := by rw [← hm]; split <;> omega
  have mk : 0 ≤ m * ((k : Int) - 1) := Int.mul_nonneg m0.1 (by omega)
  have ek : (k : Int) * s = s * ((k : Int) - 1) + s := by rw [Int.mul_sub, Int.mul_comm]; omega
  have le : s * ((k : Int) - 1) ≤ m * ((k : Int) - 1) := Int.mul_le_mul_of_nonneg_right m0.2.1 (by omega)
  refine ⟨by omega, by omega, by rw [hs]; omega, fun r h1 h2 => ?_, fun r h1 h2 => ?_⟩
  · -- each time it comes deeper by at most a shift, or not beyond the needs
    have key : ∀ j : Nat, 0 < j → ∀ x, 1 ≤ x → itE e j x ≤ e.1 + m * ((j : Int) - 1) ∨ (itE e j x = x + j * s ∧ ∀ i : Nat, i < j → (e.2.length : Int) < x + i * s) := fun j => by
      induction j with
      | zero => intro h; omega
      | succ j ih =>
        intro _ x hx
        have e1 : ((j + 1 : Nat) : Int) - 1 = j := by omega
        rw [e1, it_succ]
        have mj : 0 ≤ m * (j : Int) := Int.mul_nonneg m0.1 (by omega)
        by_cases c : itE e j x ≤ e.2.length
        · have := from_low ef (it_ge ef j hx) c
          left
          omega
        · rw [from_hi (by omega), hs]
          cases j with
          | zero =>
            right
            refine ⟨by simp [itE], fun i hi => ?_⟩
            have : i = 0 := by omega
            subst this
            simp
            simp [itE] at c
            omega
          | succ j =>
            have e2 : ((j + 1 : Nat) : Int) - 1 = j := by omega
            rcases ih (by omega) x hx with h | ⟨h, hi⟩
            · left
              rw [e2] at h
              have : m * ((j + 1 : Nat) : Int) = m * (j : Int) + m := by rw [Int.natCast_add, Int.mul_add]; simp
              omega
            · right
              have e3 : ((j + 1 + 1 : Nat) : Int) * s = ((j + 1 : Nat) : Int) * s + s := by rw [Int.natCast_add (j + 1) 1, Int.add_mul]; simp
              refine ⟨by omega, fun i hi2 => ?_⟩
              by_cases q : i < j + 1
              · exact hi i q
              · have : i = j + 1 := by omega
                subst this
                omega
    rcases key k hk r h1 with h | ⟨h, _⟩
    · exact h
    · omega
  · refine it_lin k r fun j hj => ?_
    rw [hs]
    by_cases c : 0 ≤ s
    · have : 0 ≤ (j : Int) * s := Int.mul_nonneg (by omega) c
      have : m = s := by omega
      subst this
      omega
    · have : m = 0 := by omega
      subst this
      have : ((k : Int) - 1) * s ≤ j * s := Int.mul_le_mul_of_nonpos_right (by omega) (by omega)
      rw [Int.mul_comm] at this
      simp at mk le
      omega
/-- one place less -/
theorem fit_less (ef : Eff e) (h : Fit e k d l) (dp : 0 < d) (lp : 0 < l) : Fit e k (d - 1) (l - 1) ↔ itE e k l = d ∧ ∀ r, 1 ≤ r → itE e k r = d → r = l := by
  obtain ⟨d0, l0, sh, lo, hi⟩ := h
  constructor
  · intro g
    refine ⟨by rw [g.hi l (by omega) (by omega)]; omega, fun r h1 h2 => ?_⟩
    rcases Int.lt_trichotomy r l with c | c | c
    · have := g.lo r h1 (by omega)
      omega
    · exact c
    · have := hi r h1 c
      omega
  · rintro ⟨h1, h2⟩
    refine ⟨by omega, by omega, by omega, fun r r1 r2 => ?_, fun r r1 r2 => ?_⟩
    · have a := lo r r1 (by omega)
      have : itE e k r ≠ d := fun z => by have := h2 r r1 z; omega
      omega
    · by_cases c : r = l
      · subst c
        omega
      · exact hi r r1 (by omega)
end
def Per (v : Nat → Int) (T P : Nat) (c : Int) : Prop := ∀ i : Nat, T ≤ i → v (i + P) = v i + c
def Tell (v : Nat → Int) (h L : Nat) (g : Int) : Prop := 1 ≤ L ∧ Per v h L g ∧ (∀ (l T : Nat) (c : Int), 1 ≤ l → Per v T l c → L ≤ l) ∧ (0 < h → v (h - 1 + L) ≠ v (h - 1) + g)
section
variable {v : Nat → Int} {T T' P l a b : Nat} {c c' : Int}
theorem Per.mul (h : Per v T P c) : ∀ k : Nat, Per v T (k * P) (k * c)
  | 0, i, _ => by simp
  | k + 1, i, hi => by
    have e := Per.mul h k i hi
    have f := h (i + k * P) (by omega)
    rw [show i + (k + 1) * P = i + k * P + P by rw [Nat.add_mul]; omega, f, e, Int.natCast_add, Int.add_mul]
    simp
    omega
theorem Per.up (h : Per v T P c) (ht : T ≤ T') : Per v T' P c := fun i hi => h i (by omega)
theorem Per.sub (h : Per v T a c) (h' : Per v T' b c') (hb : b ≤ a) : Per v (T + T') (a - b) (c - c') := fun i hi => by
  have e := h i (by omega)
  have f := h' (i + (a - b)) (by omega)
  rw [show i + (a - b) + b = i + a by omega] at f
  omega
theorem Per.gcd : ∀ (a b : Nat) {T T' : Nat} {c c' : Int}, Per v T a c → Per v T' b c' → ∃ T2 c2, Per v T2 (Nat.gcd a b) c2 := fun a b => by
  induction a, b using Nat.gcd.induction with
  | H0 n => intro T T' c c' h h'; rw [Nat.gcd_zero_left]; exact ⟨T', c', h'⟩
  | H1 m n hm ih =>
    intro T T' c c' h h'
    rw [Nat.gcd_rec]
    have k := (h.mul (n / m))
    have e : n - n / m * m = n % m := by
      have := Nat.mod_add_div n m
      rw [Nat.mul_comm] at this
      omega
    have s := h'.sub k (by have := Nat.div_mul_le_self n m; exact this)
    rw [e] at s
    exact ih s h
theorem Per.back (h : Per v T P c) (hP : 1 ≤ P) (h' : Per v T' l c') : Per v T l c' := fun i hi => by
  have k := h.mul T'
  have e := k i hi
  have f := k (i + l) (by omega)
  have le : T' ≤ T' * P := Nat.le_mul_of_pos_right _ hP
  have g := h' (i + T' * P) (by omega)
  rw [show i + T' * P + l = i + l + T' * P by omega] at g
  omega
theorem Per.win (h : Per v T P c) (hP : 1 ≤ P) (hw : ∀ j : Nat, j < P → v (T + j + l) = v (T + j) + c') : Per v T l c' := fun i => by
  induction i using Nat.strongRecOn with
  | ind i ih =>
    intro hi
    by_cases hj : i < T + P
    · have := hw (i - T) (by omega)
      rwa [show T + (i - T) = i by omega] at this
    · have e := ih (i - P) (by omega) (by omega)
      have f := h (i - P) (by omega)
      have g := h (i - P + l) (by omega)
      rw [show i - P + P = i by omega] at f
      rw [show i - P + l + P = i + l by omega] at g
      omega
theorem Per.val (h : Per v T l c) (h' : Per v T' l c') : c = c' := by
  have e := h (T + T') (by omega)
  have f := h' (T + T') (by omega)
  omega
theorem Tell.uniq {h h' L L' : Nat} {g g' : Int} (x : Tell v h L g) (y : Tell v h' L' g') : h = h' ∧ L = L' ∧ g = g' := by
  obtain ⟨x1, x2, x3, x4⟩ := x
  obtain ⟨y1, y2, y3, y4⟩ := y
  have e : L = L' := Nat.le_antisymm (x3 _ _ _ y1 y2) (y3 _ _ _ x1 x2)
  subst e
  have eg : g = g' := x2.val y2
  subst eg
  refine ⟨?_, rfl, rfl⟩
  apply Classical.byContradiction
  intro no
  by_cases lt : h < h'
  · exact y4 (by omega) (x2 (h' - 1) (by omega))
  · exact x4 (by omega) (y2 (h - 1) (by omega))
/-- the ring alone tells whether a smaller one does -/
theorem Per.ring (h : Per v T P c) (hP : 1 ≤ P) (hl : 1 ≤ l) (hd : l ∣ P) : (∃ c', Per v T l c') ↔ (c * l) % P = 0 ∧ ∀ i : Nat, i + l < P → v (T + (i + l)) = v (T + i) + c * l / P := by
  obtain ⟨m, rfl⟩ := hd
  have l0 : (l : Int) ≠ 0 := by omega
  have m1 : 1 ≤ m := by
    cases m with
    | zero => simp at hP
    | succ m => omega
  have P0 : ((l * m : Nat) : Int) ≠ 0 := by omega
  constructor
  · rintro ⟨c', h'⟩
    have k := h'.mul m
    rw [Nat.mul_comm m l] at k
    have e := h.val k
    have e2 : c * l = c' * ((l * m : Nat) : Int) := by
      rw [e, Int.natCast_mul, Int.mul_comm (m : Int) c', Int.mul_assoc, Int.mul_comm (m : Int) (l : Int)]
    rw [e2, Int.mul_ediv_cancel _ P0]
    exact ⟨Int.mul_emod_left _ _, fun i _ => by rw [← Nat.add_assoc]; exact h' (T + i) (by omega)⟩
  · rintro ⟨h1, h2⟩
    obtain ⟨g, hg⟩ : ∃ g, c * l / ((l * m : Nat) : Int) = g := ⟨_, rfl⟩
    rw [hg] at h2
    have e := Int.emod_add_mul_ediv (c * l) ((l * m : Nat) : Int)
    rw [h1, hg, Int.natCast_mul, Int.zero_add] at e
    have cm : c = m * g := by
      have : (l : Int) * (m * g) = l * c := by rw [← Int.mul_assoc, e, Int.mul_comm]
      exact (Int.eq_of_mul_eq_mul_left l0 this).symm
    have ch : ∀ k j : Nat, j + k * l < l * m → v (T + (j + k * l)) = v (T + j) + k * g := fun k => by
      induction k with
      | zero => intro j _; simp
      | succ k ih =>
        intro j hj
        have ek : (k + 1) * l = k * l + l := by rw [Nat.add_mul]; omega
        rw [ek] at hj ⊢
        have f := h2 (j + k * l) (by omega)
        rw [Nat.add_assoc] at f
        rw [f, ih j (by omega), Int.natCast_add, Int.add_mul]
        simp
        omega
    refine ⟨g, h.win hP fun j hj => ?_⟩
    by_cases hj2 : j + l < l * m
    · have := h2 j hj2
      rwa [← Nat.add_assoc] at this
    · obtain ⟨k, rfl⟩ : ∃ k, m = k + 1 := ⟨m - 1, by omega⟩
      have el : l * (k + 1) = k * l + l := by rw [Nat.mul_add, Nat.mul_comm]; omega
      rw [el] at hj hj2 h
      have f := ch k (j - k * l) (by rw [el]; omega)
      rw [show j - k * l + k * l = j by omega] at f
      have z := h (T + (j - k * l)) (by omega)
      rw [show T + (j - k * l) + (k * l + l) = T + j + l by omega] at z
      rw [z, f, cm, Int.natCast_add, Int.add_mul]
      simp
      omega
theorem Per.grow (h : Per v T P c) (hP : 1 ≤ P) (hl : 1 ≤ l) (hd : l ∣ P) (h' : Per v T l c') : Per v T l (c * l / P) := by
  obtain ⟨m, rfl⟩ := hd
  have k := h'.mul m
  rw [Nat.mul_comm m l] at k
  have e := h.val k
  have e2 : c * l = c' * ((l * m : Nat) : Int) := by
    rw [e, Int.natCast_mul, Int.mul_comm (m : Int) c', Int.mul_assoc, Int.mul_comm (m : Int) (l : Int)]
  rw [e2, Int.mul_ediv_cancel _ (by omega)]
  exact h'
theorem Per.least (h : Per v T P c) (hP : 1 ≤ P) {s : Nat} (no : ∀ d : Nat, 1 ≤ d → d < s → d ∣ P → ∀ c', ¬ Per v T d c') : ∀ (l T' : Nat) (c' : Int), 1 ≤ l → Per v T' l c' → s ≤ l := fun l T' c' hl h' => by
  obtain ⟨T2, c2, h2⟩ := Per.gcd l P h' h
  have d1 : 1 ≤ Nat.gcd l P := Nat.gcd_pos_of_pos_left _ hl
  have d2 : Nat.gcd l P ≤ l := Nat.gcd_le_left _ hl
  apply Classical.byContradiction
  intro lt
  exact no _ d1 (by omega) (Nat.gcd_dvd_right _ _) _ (h.back hP h2)
end
theorem rm_cut {v : Nat → Int} {N a b : Nat} (h : a + b ≤ N) : (((List.range N).map v).drop a).take b = (List.range b).map fun j => v (a + j) := by
  refine List.ext_getElem (by simp; omega) fun i h1 h2 => ?_
  simp
theorem rm_take {v : Nat → Int} {N b : Nat} (h : b ≤ N) : ((List.range N).map v).take b = (List.range b).map v := by
  have := rm_cut (v := v) (N := N) (a := 0) (b := b) (by omega)
  simpa using this
theorem cut_rm {v : Nat → Int} {N a b : Nat} (h : a + b ≤ N) : cutD (((List.range N).map v).map PyData.int) (some (a : Int)) (some ((a : Int) + (b : Int))) = ((List.range b).map fun j => v (a + j)).map PyData.int := by
  rw [show (a : Int) + (b : Int) = ((a + b : Nat) : Int) by omega, cutD_mid, ← List.map_drop, ← List.map_take, show a + b - a = b by omega, rm_cut h]
theorem cut_rm0 {v : Nat → Int} {N b : Nat} (h : b ≤ N) : cutD (((List.range N).map v).map PyData.int) none (some (b : Int)) = ((List.range b).map v).map PyData.int := by
  rw [cutD_to, ← List.map_take, rm_take h]
theorem rm_get {v : Nat → Int} {N i : Nat} (h : i < N) : ((List.range N).map v).getD i 0 = v i := by
  simp [List.getD_eq_getElem?_getD, List.getElem?_range h]
theorem ixD_last {gs : List Int} {f : Nat → D → Prop} (h1 : 1 ≤ gs.length) (h : f (gs.length - 1) (.int (gs.getD (gs.length - 1) 0))) : ixD (gs.map PyData.int) (-1) f := by
  unfold ixD
  have e1 : ixN (gs.map PyData.int).length (-1) = some (gs.length - 1) := by
    unfold ixN
    rw [List.length_map, if_neg (by decide)]
    first
      | rw [if_pos (by omega)]; congr 1; omega
      | (trace_state; done)
  have e2 : (gs.map PyData.int)[gs.length - 1]? = some (.int (gs.getD (gs.length - 1) 0)) := by
    rw [List.getElem?_map, List.getD_eq_getElem?_getD, List.getElem?_eq_getElem (by omega)]
    rfl
  rw [e1]
  show ((gs.map PyData.int)[gs.length - 1]?).elim False (f (gs.length - 1))
  rw [e2]
  exact h
section
variable {e : Int × List Int} {r : Int}
theorem per_cyc {i p : Nat} (h : itE e (i + p) r = itE e i r) : Per (fun t => itE e t r) i p 0 := fun m hm => by
  obtain ⟨k, rfl⟩ : ∃ k, m = i + k := ⟨m - i, by omega⟩
  show itE e (i + k + p) r = itE e (i + k) r + 0
  rw [it_per h, Int.add_zero]
theorem per_hi (hs : (e.2.length : Int) ≤ e.1) {i : Nat} (h : (e.2.length : Int) < itE e i r) : Per (fun t => itE e t r) i 1 (e.1 - e.2.length) := fun m hm => by
  obtain ⟨k, rfl⟩ : ∃ k, m = k + i := ⟨m - i, by omega⟩
  show itE e (k + i + 1) r = itE e (k + i) r + (e.1 - e.2.length)
  have a := it_up hs k h
  have b := it_up hs (k + 1) h
  rw [← it_add k i] at a
  rw [← it_add (k + 1) i, show k + 1 + i = k + i + 1 by omega] at b
  rw [a, b, Int.natCast_add, Int.add_mul]
  simp
  omega
theorem sh_told3 {v : Nat → Int} {h L : Nat} {g : Int} {b : Int} (hv : ∀ j : Nat, j ≤ 2000 → 0 ≤ v j ∧ v j ≤ b) (hb : b < 2 ^ 190) (ht : Tell v h L g) (h1 : h ≤ 1000) (l1 : L ≤ 1000) (xs ys : List Int) (hx : xs.length ≤ 1) (hy : ys.length ≤ 1) (ex : ∀ x ∈ xs, x = 1) (ey : ∀ x ∈ ys, x = 1) : Sh 3 900009 (.tuple [dI ((List.range h).map v ++ xs), dI ((List.range L).map (fun j => v (h + j)) ++ ys), .int g]) := by
  have e190 : (2 : Int) ^ 190 = 1569275433846670190958947355801916604025588861116008628224 := by decide
  have e200 : (2 : Nat) ^ 200 = 1606938044258990275541962092341162602522202993782792835301376 := by decide
  rw [e190] at hb
  have gv := ht.2.1 h (Nat.le_refl _)
  have a1 := hv h (by omega)
  have a2 := hv (h + L) (by omega)
  refine (sh_tuple (k := 2) (B := 300000) (n := 3) (fun d m => ?_) (by simp)).mono (by omega) (by omega)
  rcases List.mem_cons.mp m with rfl | m
  · refine (sh_ints (n := 1001) (fun x hx2 => ?_) (by simp; omega)).mono (by omega) (by omega)
    rcases List.mem_append.mp hx2 with hx2 | hx2
    · obtain ⟨j, hj, rfl⟩ := List.mem_map.mp hx2
      have := hv j (by have := List.mem_range.mp hj; omega)
      omega
    · rw [ex x hx2]; decide
  · rcases List.mem_cons.mp m with rfl | m
    · refine (sh_ints (n := 1001) (fun x hx2 => ?_) (by simp; omega)).mono (by omega) (by omega)
      rcases List.mem_append.mp hx2 with hx2 | hx2
      · obtain ⟨j, hj, rfl⟩ := List.mem_map.mp hx2
        have := hv (h + j) (by have := List.mem_range.mp hj; omega)
        omega
      · rw [ey x hx2]; decide
    · rcases List.mem_cons.mp m with rfl | m
      · exact (sh_int (by omega)).mono (by omega) (by omega)
      · cases m
end
/-- the number of things by which a place comes again, or one -/
def RingOk (e : Int × List Int) (s : Int) (P : Nat) : Prop := 1 ≤ P ∧ (P ≤ e.2.length ∨ P = 1) ∧ (itE e P s = s ∨ ∀ j : Nat, 1 ≤ j → j ≤ e.2.length → itE e j s ≠ s)
theorem it_fix {e : Int × List Int} {s : Int} {P : Nat} (h : itE e P s = s) : ∀ q : Nat, itE e (q * P) s = s
  | 0 => by rw [Nat.zero_mul]; rfl
  | q + 1 => by rw [Nat.add_mul, Nat.one_mul, it_add, h, it_fix h q]
section
variable {e : Int × List Int} {s x : Int} {P k : Nat}
theorem ring_key (ef : Eff e) (s1 : s ≤ e.1) (hR : RingOk e s P) (hx : 1 ≤ x) (hl : x ≤ e.2.length) (hk : e.2.length + 1 ≤ k) : itE e (k + P) x = s ↔ itE e k x = s := by
  by_cases all : ∀ j : Nat, j ≤ e.2.length → itE e j x ≤ e.2.length
  · obtain ⟨i, j, hij, hj, eq⟩ := pigeon (N := e.2.length) (f := fun i => itE e i x) fun i hi => ⟨it_ge ef _ hx, all i hi⟩
    obtain ⟨q, rfl⟩ : ∃ q, j = i + q := ⟨j - i, by omega⟩
    have per : itE e (i + q) x = itE e i x := eq.symm
    have pk : ∀ t, i ≤ t → itE e (t + q) x = itE e t x := fun t ht => by
      have := it_per per (t - i)
      rwa [show i + (t - i) = t by omega] at this
    have fixed : ∀ t, i ≤ t → itE e t x = s → itE e P s = s := fun t ht h => by
      rcases hR.2.2 with z | z
      · exact z
      · refine absurd ?_ (z q (by omega) (by omega))
        have := pk t ht
        rw [Nat.add_comm, it_add q t, h] at this
        exact this
    constructor
    · intro h
      have f := fixed (k + P) (by omega) h
      have e1 := it_perk per (k - i) P
      rw [show i + (k - i) = k by omega] at e1
      rw [← e1]
      obtain ⟨u, rfl⟩ : ∃ u, q = u + 1 := ⟨q - 1, by omega⟩
      rw [show k + P * (u + 1) = u * P + (k + P) by rw [Nat.mul_add, Nat.mul_comm P u]; omega, it_add, h]
      exact it_fix f u
    · intro h
      have f := fixed k (by omega) h
      rw [Nat.add_comm, it_add, h]
      exact f
  · have ⟨j, hj⟩ := Classical.not_forall.mp all
    have ⟨hj1, hj⟩ := Classical.not_imp.mp hj
    have up : (e.2.length : Int) ≤ e.1 := by
      apply Classical.byContradiction
      intro no
      exact hj (it_all_lo ef hx (by omega) hl j)
    have far : ∀ m : Nat, e.2.length + 1 ≤ m → itE e m x ≠ s := fun m hm z => by
      have := it_up (e := e) up (m - j) (r := itE e j x) (by omega)
      rw [← it_add, show m - j + j = m by omega, z] at this
      have : (1 : Int) * (e.1 - e.2.length) ≤ ((m - j : Nat) : Int) * (e.1 - e.2.length) := Int.mul_le_mul_of_nonneg_right (by omega) (by omega)
      omega
    exact ⟨fun z => absurd z (far _ (by omega)), fun z => absurd z (far _ hk)⟩
def groP (e : Int × List Int) (P k : Nat) (s : Int) : Nat := ((rg (e.1 + 1) (e.2.length + 1)).map fun x => ((List.range P).filter fun t => decide (itE e (k + 1 + t) x = s)).length).sum
theorem win_slide {f : Nat → Bool} {P k : Nat} (h : f (k + P) = f k) : ((List.range P).filter fun t => f (k + 1 + t)).length = ((List.range P).filter fun t => f (k + t)).length := by
  have a : ((List.range (P + 1)).filter fun t => f (k + t)).length = ((List.range P).filter fun t => f (k + t)).length + (if f (k + P) then 1 else 0) := by
    rw [List.range_succ, List.filter_append, List.length_append]
    congr 1
    rw [List.filter_cons]
    cases f (k + P) <;> rfl
  have b : ((List.range (P + 1)).filter fun t => f (k + t)).length = (if f k then 1 else 0) + ((List.range P).filter fun t => f (k + 1 + t)).length := by
    rw [List.range_succ_eq_map, List.filter_cons, List.filter_map, Nat.add_zero]
    have e1 : ((fun t => f (k + t)) ∘ Nat.succ) = fun t => f (k + 1 + t) := by
      funext t
      show f (k + (t + 1)) = f (k + 1 + t)
      congr 1
      omega
    rw [e1]
    cases f k
    · simp
    · simp
      omega
  rw [h] at a
  omega
theorem cRow_per (ef : Eff e) (s0 : 1 ≤ s) (s1 : s ≤ e.1) {K0 : Nat} (hK : 1 ≤ K0) (key : ∀ x : Int, 1 ≤ x → x ≤ e.2.length → ∀ k, K0 ≤ k → (itE e (k + P) x = s ↔ itE e k x = s)) : ∃ c : Nat, ∀ k, K0 ≤ k → cRow e (k + P) s = cRow e k s + c := by
  have n0 := ef.nn
  have rs : ∀ k, K0 ≤ k → cRow e k s = cSum e k s := fun k hk => (HC.row ef k s0 s1).uniq (HC.sum ef s1 (by omega))
  have add : ∀ k, K0 ≤ k → cSum e (k + P) s = cSum e k s + groP e P k s := fun k hk => by
    unfold cSum groP
    have e1 : ((rg (e.1 + 1) (e.2.length + 1)).map (arN e (k + P) s)).sum = ((rg (e.1 + 1) (e.2.length + 1)).map (arN e k s)).sum + ((rg (e.1 + 1) (e.2.length + 1)).map fun x => ((List.range P).filter fun t => decide (itE e (k + 1 + t) x = s)).length).sum := by
      rw [← sum_add]
      congr 1
      exact List.map_congr_left fun x _ => arN_add
    rw [e1, ← Nat.add_assoc]
    congr 2
    congr 1
    refine List.filter_congr fun x hx => ?_
    have hx := mem_rg.mp hx
    have hl : x ≤ e.2.length := by
      have := hx.2
      split at this <;> omega
    exact decide_eq_decide.mpr (key x hx.1 hl k hk)
  have slide : ∀ k, K0 ≤ k → groP e P (k + 1) s = groP e P k s := fun k hk => by
    unfold groP
    congr 1
    refine List.map_congr_left fun x hx => ?_
    have hx := mem_rg.mp hx
    have := win_slide (f := fun t => decide (itE e t x = s)) (P := P) (k := k + 1) (by
      have := key x (by omega) (by omega) (k + 1) (by omega)
      exact decide_eq_decide.mpr this)
    exact this
  have all : ∀ m : Nat, groP e P (K0 + m) s = groP e P K0 s := fun m => by
    induction m with
    | zero => rfl
    | succ m ih => rw [← Nat.add_assoc, slide _ (by omega), ih]
  refine ⟨groP e P K0 s, fun k hk => ?_⟩
  rw [rs _ (by omega), rs _ hk, add k hk]
  have := all (k - K0)
  rw [show K0 + (k - K0) = k by omega] at this
  rw [this]
end
/-- the numbers of copies, one after another -/
def cV (e : Int × List Int) (S : Nat) (low : Int) (i : Nat) : Int := if e.1 < low then 1 else if i < S then 1 else (cRow e (i - S) low : Int)
theorem cV_per {e : Int × List Int} {S : Nat} {low : Int} {P K0 : Nat} {c : Nat} (hl : low ≤ e.1) (h : ∀ k, K0 ≤ k → cRow e (k + P) low = cRow e k low + c) : Per (cV e S low) (S + K0) P c := fun i hi => by
  unfold cV
  rw [if_neg (by omega), if_neg (by omega), if_neg (by omega), if_neg (by omega)]
  have := h (i - S) (by omega)
  rw [show i - S + P = i + P - S by omega] at this
  rw [this]
  simp
theorem cV_one {e : Int × List Int} {S : Nat} {low : Int} (hl : e.1 < low) : Tell (cV e S low) 0 1 0 := by
  refine ⟨Nat.le_refl _, fun i _ => ?_, fun l T c l1 _ => l1, fun h => absurd h (by omega)⟩
  unfold cV
  rw [if_pos hl, if_pos hl]
  rfl
theorem cV_list {e : Int × List Int} {S : Nat} {low : Int} (hl : low ≤ e.1) (m : Nat) : (List.range (S + m)).map (cV e S low) = (List.replicate S (1 : Int)) ++ (List.range m).map fun k => (cRow e k low : Int) := by
  rw [List.range_add, List.map_append, List.map_map]
  congr 1
  · refine List.ext_getElem (by simp) fun i h1 h2 => ?_
    simp at h1 h2
    simp only [List.getElem_map, List.getElem_range, List.getElem_replicate]
    unfold cV
    rw [if_neg (by omega), if_pos h2]
  · refine List.map_congr_left fun k _ => ?_
    show cV e S low (S + k) = _
    unfold cV
    rw [if_neg (by omega), if_neg (by omega), show S + k - S = k by omega]
theorem cRow_le {n : Int} {gs : List Int} {s : Int} {k : Nat} (ef : Eff (n, gs)) (n1 : n ≤ 6) (l1 : gs.length ≤ 8) (s0 : 1 ≤ s) (s1 : s ≤ n) : cRow (n, gs) k s ≤ 8 + 20 * (k + 1) := by
  cases k with
  | zero => show 1 ≤ _; omega
  | succ k =>
    have := (HC.row ef (k + 1) s0 s1).uniq (HC.sum ef s1 (by omega))
    rw [this]
    exact cSum_le ef n1 l1
theorem cV_bd {n : Int} {gs : List Int} {low : Int} {S i : Nat} (ef : Eff (n, gs)) (n1 : n ≤ 6) (l1 : gs.length ≤ 8) (s0 : 1 ≤ low) (hi : i ≤ 2000) : 0 ≤ cV (n, gs) S low i ∧ cV (n, gs) S low i ≤ 100000 := by
  unfold cV
  by_cases h : n < low
  · rw [if_pos (by dsimp only; exact h)]
    omega
  · rw [if_neg (by dsimp only; exact h)]
    split
    · omega
    · have := cRow_le (k := i - S) ef n1 l1 s0 (by omega)
      omega
def topS (i : Nat) : Stmt := PySem.Challenge.pw_pileshifts_k25_refused_times.main.body.getD i (.Pass ⟨0, 0, 0, 0⟩)
abbrev s_is_effect : Stmt := topS 7
abbrev N_is_effect : List Str := ["one", "needs", "gives", "spot"]
theorem sc_is_effect : FnScope N_is_effect ["one"] (defScope s_is_effect) := ⟨rfl, rfl, rfl, by decide +kernel, rfl, by decide +kernel, by decide +kernel⟩
abbrev s_least_of : Stmt := topS 8
abbrev N_least_of : List Str := ["needs", "gives", "tops", "spot", "size"]
theorem sc_least_of : FnScope N_least_of ["needs", "gives"] (defScope s_least_of) := ⟨rfl, rfl, rfl, by decide +kernel, rfl, by decide +kernel, by decide +kernel⟩
abbrev s_checked : Stmt := topS 9
abbrev N_checked : List Str := ["one", "needs", "gives"]
theorem sc_checked : FnScope N_checked ["one"] (defScope s_checked) := ⟨rfl, rfl, rfl, by decide +kernel, rfl, by decide +kernel, by decide +kernel⟩
abbrev s_came_from : Stmt := topS 10
abbrev N_came_from : List Str := ["one", "spot", "needs", "gives"]
theorem sc_came_from : FnScope N_came_from ["one", "spot"] (defScope s_came_from) := ⟨rfl, rfl, rfl, by decide +kernel, rfl, by decide +kernel, by decide +kernel⟩
abbrev s_join_of : Stmt := topS 11
abbrev N_join_of : List Str := ["one", "other", "needs", "gives", "deep", "later", "more", "upper", "spot"]
theorem sc_join_of : FnScope N_join_of ["one", "other"] (defScope s_join_of) := ⟨rfl, rfl, rfl, by decide +kernel, rfl, by decide +kernel, by decide +kernel⟩
abbrev s_power_of : Stmt := topS 12
abbrev N_power_of : List Str := ["one", "number", "found", "bit"]
theorem sc_power_of : FnScope N_power_of ["one", "number"] (defScope s_power_of) := ⟨rfl, rfl, rfl, by decide +kernel, rfl, by decide +kernel, by decide +kernel⟩
abbrev s_goes_on : Stmt := topS 14
abbrev N_goes_on : List Str := ["ring", "size", "step", "rank"]
theorem sc_goes_on : FnScope N_goes_on ["ring", "size", "step"] (defScope s_goes_on) := ⟨rfl, rfl, rfl, by decide +kernel, rfl, by decide +kernel, by decide +kernel⟩
abbrev s_told_way : Stmt := topS 15
abbrev N_told_way : List Str := ["numbers", "tail", "every", "more", "ring", "size", "step", "rest", "growth", "ahead"]
theorem sc_told_way : FnScope N_told_way ["numbers", "tail", "every", "more"] (defScope s_told_way) := ⟨rfl, rfl, rfl, by decide +kernel, rfl, by decide +kernel, by decide +kernel⟩
abbrev s_walked_places : Stmt := topS 16
abbrev N_walked_places : List Str := ["one", "spot", "needs", "gives", "size", "shift", "found", "seen"]
theorem sc_walked_places : FnScope N_walked_places ["one", "spot"] (defScope s_walked_places) := ⟨rfl, rfl, rfl, by decide +kernel, rfl, by decide +kernel, by decide +kernel⟩
abbrev s_steps_down : Stmt := topS 17
abbrev N_steps_down : List Str := ["high", "low", "step"]
theorem sc_steps_down : FnScope N_steps_down ["high", "low", "step"] (defScope s_steps_down) := ⟨rfl, rfl, rfl, by decide +kernel, rfl, by decide +kernel, by decide +kernel⟩
abbrev s_spot_after : Stmt := topS 18
abbrev N_spot_after : List Str := ["one", "number", "spot", "needs", "gives", "size", "shift", "left", "straight", "seen", "turn"]
theorem sc_spot_after : FnScope N_spot_after ["one", "number", "spot"] (defScope s_spot_after) := ⟨rfl, rfl, rfl, by decide +kernel, rfl, by decide +kernel, by decide +kernel⟩
abbrev s_arrivals_at : Stmt := topS 19
abbrev N_arrivals_at : List Str := ["one", "spot", "goal", "number", "found", "tail", "every", "more", "first"]
theorem sc_arrivals_at : FnScope N_arrivals_at ["one", "spot", "goal", "number"] (defScope s_arrivals_at) := ⟨rfl, rfl, rfl, by decide +kernel, rfl, by decide +kernel, by decide +kernel⟩
abbrev s_count_after : Stmt := topS 20
abbrev N_count_after : List Str := ["one", "number", "spot", "needs", "gives", "size", "shift", "straight", "count", "start"]
theorem sc_count_after : FnScope N_count_after ["one", "number", "spot"] (defScope s_count_after) := ⟨rfl, rfl, rfl, by decide +kernel, rfl, by decide +kernel, by decide +kernel⟩
abbrev s_ring_size : Stmt := topS 21
abbrev N_ring_size : List Str := ["one", "spot", "later", "number"]
theorem sc_ring_size : FnScope N_ring_size ["one", "spot"] (defScope s_ring_size) := ⟨rfl, rfl, rfl, by decide +kernel, rfl, by decide +kernel, by decide +kernel⟩
abbrev s_size_after_times : Stmt := topS 22
abbrev N_size_after_times : List Str := ["one", "number", "needs", "gives", "shift", "deep", "length"]
theorem sc_size_after_times : FnScope N_size_after_times ["one", "number"] (defScope s_size_after_times) := ⟨rfl, rfl, rfl, by decide +kernel, rfl, by decide +kernel, by decide +kernel⟩
abbrev s_counts_told : Stmt := topS 23
abbrev N_counts_told : List Str := ["one", "spot", "needs", "gives", "shift", "straight", "low", "tail", "every", "counts", "number"]
theorem sc_counts_told : FnScope N_counts_told ["one", "spot"] (defScope s_counts_told) := ⟨rfl, rfl, rfl, by decide +kernel, rfl, by decide +kernel, by decide +kernel⟩
abbrev s_lost_from : Stmt := topS 24
abbrev N_lost_from : List Str := ["one", "spot", "needs", "gives", "shift", "straight", "number"]
theorem sc_lost_from : FnScope N_lost_from ["one", "spot"] (defScope s_lost_from) := ⟨rfl, rfl, rfl, by decide +kernel, rfl, by decide +kernel, by decide +kernel⟩
abbrev s_merged_from : Stmt := topS 25
abbrev N_merged_from : List Str := ["one", "spot", "second", "needs", "gives", "size", "shift", "straight", "first", "later", "number"]
theorem sc_merged_from : FnScope N_merged_from ["one", "spot", "second"] (defScope s_merged_from) := ⟨rfl, rfl, rfl, by decide +kernel, rfl, by decide +kernel, by decide +kernel⟩
abbrev s_check_number : Stmt := topS 27
abbrev N_check_number : List Str := ["number"]
theorem sc_check_number : FnScope N_check_number ["number"] (defScope s_check_number) := ⟨rfl, rfl, rfl, by decide +kernel, rfl, by decide +kernel, by decide +kernel⟩
abbrev s_check_place : Stmt := topS 28
abbrev N_check_place : List Str := ["spot"]
theorem sc_check_place : FnScope N_check_place ["spot"] (defScope s_check_place) := ⟨rfl, rfl, rfl, by decide +kernel, rfl, by decide +kernel, by decide +kernel⟩
abbrev s_times : Stmt := topS 29
abbrev N_times : List Str := ["one", "number", "found"]
theorem sc_times : FnScope N_times ["one", "number"] (defScope s_times) := ⟨rfl, rfl, rfl, by decide +kernel, rfl, by decide +kernel, by decide +kernel⟩
abbrev s_place_after : Stmt := topS 30
abbrev N_place_after : List Str := ["one", "number", "spot", "found"]
theorem sc_place_after : FnScope N_place_after ["one", "number", "spot"] (defScope s_place_after) := ⟨rfl, rfl, rfl, by decide +kernel, rfl, by decide +kernel, by decide +kernel⟩
abbrev s_way : Stmt := topS 31
abbrev N_way : List Str := ["one", "spot", "found", "numbers", "tail", "every", "more"]
theorem sc_way : FnScope N_way ["one", "spot"] (defScope s_way) := ⟨rfl, rfl, rfl, by decide +kernel, rfl, by decide +kernel, by decide +kernel⟩
abbrev s_size_after : Stmt := topS 32
abbrev N_size_after : List Str := ["one", "number", "found"]
theorem sc_size_after : FnScope N_size_after ["one", "number"] (defScope s_size_after) := ⟨rfl, rfl, rfl, by decide +kernel, rfl, by decide +kernel, by decide +kernel⟩
abbrev s_copies : Stmt := topS 33
abbrev N_copies : List Str := ["one", "number", "spot", "found"]
theorem sc_copies : FnScope N_copies ["one", "number", "spot"] (defScope s_copies) := ⟨rfl, rfl, rfl, by decide +kernel, rfl, by decide +kernel, by decide +kernel⟩
abbrev s_copies_way : Stmt := topS 34
abbrev N_copies_way : List Str := ["one", "spot", "found"]
theorem sc_copies_way : FnScope N_copies_way ["one", "spot"] (defScope s_copies_way) := ⟨rfl, rfl, rfl, by decide +kernel, rfl, by decide +kernel, by decide +kernel⟩
abbrev s_lost_after : Stmt := topS 35
abbrev N_lost_after : List Str := ["one", "spot", "found"]
theorem sc_lost_after : FnScope N_lost_after ["one", "spot"] (defScope s_lost_after) := ⟨rfl, rfl, rfl, by decide +kernel, rfl, by decide +kernel, by decide +kernel⟩
abbrev s_merged_after : Stmt := topS 36
abbrev N_merged_after : List Str := ["one", "spot", "second", "found"]
theorem sc_merged_after : FnScope N_merged_after ["one", "spot", "second"] (defScope s_merged_after) := ⟨rfl, rfl, rfl, by decide +kernel, rfl, by decide +kernel, by decide +kernel⟩
abbrev s_comes_again : Stmt := topS 37
abbrev N_comes_again : List Str := ["one", "needs", "gives", "seen", "rows", "first", "spot"]
theorem sc_comes_again : FnScope N_comes_again ["one"] (defScope s_comes_again) := ⟨rfl, rfl, rfl, by decide +kernel, rfl, by decide +kernel, by decide +kernel⟩
abbrev s__law_ng_purse : Stmt := topS 39
abbrev N__law_ng_purse : List Str := ["_law_script", "_law_index", "_law_cell"]
theorem sc__law_ng_purse : FnScope N__law_ng_purse ["_law_script", "_law_index"] (defScope s__law_ng_purse) := ⟨rfl, rfl, rfl, by decide +kernel, rfl, by decide +kernel, by decide +kernel⟩
abbrev s__law_coin : Stmt := topS 40
abbrev N__law_coin : List Str := ["_law_purse", "_law_many", "_law_drawn", "_law_stirred"]
theorem sc__law_coin : FnScope N__law_coin ["_law_purse", "_law_many"] (defScope s__law_coin) := ⟨rfl, rfl, rfl, by decide +kernel, rfl, by decide +kernel, by decide +kernel⟩
abbrev s__law_ng_number : Stmt := topS 41
abbrev N__law_ng_number : List Str := ["_law_purse", "_law_most", "_law_sort_here"]
theorem sc__law_ng_number : FnScope N__law_ng_number ["_law_purse", "_law_most"] (defScope s__law_ng_number) := ⟨rfl, rfl, rfl, by decide +kernel, rfl, by decide +kernel, by decide +kernel⟩
abbrev s__law_ng_least : Stmt := topS 42
abbrev N__law_ng_least : List Str := ["_law_needs", "_law_gives", "_law_turn"]
theorem sc__law_ng_least : FnScope N__law_ng_least ["_law_needs", "_law_gives"] (defScope s__law_ng_least) := ⟨rfl, rfl, rfl, by decide +kernel, rfl, by decide +kernel, by decide +kernel⟩
abbrev s__law_ng_menu : Stmt := topS 43
abbrev N__law_ng_menu : List Str := ["_law_purse", "_law_menu", "_law_needs", "_law_gives"]
theorem sc__law_ng_menu : FnScope N__law_ng_menu ["_law_purse"] (defScope s__law_ng_menu) := ⟨rfl, rfl, rfl, by decide +kernel, rfl, by decide +kernel, by decide +kernel⟩
abbrev s__law_ng_shape : Stmt := topS 44
abbrev N__law_ng_shape : List Str := ["_law_purse", "_law_deep", "_law_length", "_law_sort_here", "_law_many", "_law_size", "_law_turn", "_law_gives", "_law_pool", "_law_order"]
theorem sc__law_ng_shape : FnScope N__law_ng_shape ["_law_purse", "_law_deep", "_law_length"] (defScope s__law_ng_shape) := ⟨rfl, rfl, rfl, by decide +kernel, rfl, by decide +kernel, by decide +kernel⟩
abbrev s__law_ng_copy : Stmt := topS 45
abbrev N__law_ng_copy : List Str := ["_law_shape"]
theorem sc__law_ng_copy : FnScope N__law_ng_copy ["_law_shape"] (defScope s__law_ng_copy) := ⟨rfl, rfl, rfl, by decide +kernel, rfl, by decide +kernel, by decide +kernel⟩
abbrev s__law_ng_is : Stmt := topS 46
abbrev N__law_ng_is : List Str := ["_law_found", "_law_due"]
theorem sc__law_ng_is : FnScope N__law_ng_is ["_law_found", "_law_due"] (defScope s__law_ng_is) := ⟨rfl, rfl, rfl, by decide +kernel, rfl, by decide +kernel, by decide +kernel⟩
abbrev s__law_ng_bad : Stmt := topS 47
abbrev N__law_ng_bad : List Str := ["_law_purse", "_law_needs", "_law_gives", "_law_sort_here", "_law_turn", "_law_wrong"]
theorem sc__law_ng_bad : FnScope N__law_ng_bad ["_law_purse"] (defScope s__law_ng_bad) := ⟨rfl, rfl, rfl, by decide +kernel, rfl, by decide +kernel, by decide +kernel⟩
abbrev s__law_ng_ask : Stmt := topS 48
abbrev N__law_ng_ask : List Str := ["_law_rank", "_law_shape", "_law_turns", "_law_depth", "_law_deeper"]
theorem sc__law_ng_ask : FnScope N__law_ng_ask ["_law_rank", "_law_shape", "_law_turns", "_law_depth", "_law_deeper"] (defScope s__law_ng_ask) := ⟨rfl, rfl, rfl, by decide +kernel, rfl, by decide +kernel, by decide +kernel⟩
abbrev s__law_ng_ask_by_name : Stmt := topS 49
abbrev N__law_ng_ask_by_name : List Str := ["_law_rank", "_law_shape", "_law_turns", "_law_depth", "_law_deeper"]
theorem sc__law_ng_ask_by_name : FnScope N__law_ng_ask_by_name ["_law_rank", "_law_shape", "_law_turns", "_law_depth", "_law_deeper"] (defScope s__law_ng_ask_by_name) := ⟨rfl, rfl, rfl, by decide +kernel, rfl, by decide +kernel, by decide +kernel⟩
abbrev s__law_ng_caught : Stmt := topS 50
abbrev N__law_ng_caught : List Str := ["_law_by_name", "_law_rank", "_law_shape", "_law_turns", "_law_depth", "_law_deeper", "_law_found", "_law_raised", "e"]
theorem sc__law_ng_caught : FnScope N__law_ng_caught ["_law_by_name", "_law_rank", "_law_shape", "_law_turns", "_law_depth", "_law_deeper"] (defScope s__law_ng_caught) := ⟨rfl, rfl, rfl, by decide +kernel, rfl, by decide +kernel, by decide +kernel⟩
abbrev s__law_ng_fault : Stmt := topS 51
abbrev N__law_ng_fault : List Str := ["_law_rank", "_law_is_bad", "_law_shape", "_law_turns", "_law_depth", "_law_deeper"]
theorem sc__law_ng_fault : FnScope N__law_ng_fault ["_law_rank", "_law_is_bad", "_law_shape", "_law_turns", "_law_depth", "_law_deeper"] (defScope s__law_ng_fault) := ⟨rfl, rfl, rfl, by decide +kernel, rfl, by decide +kernel, by decide +kernel⟩
abbrev s__law_ng_k25 : Stmt := topS 52
abbrev N__law_ng_k25 : List Str := ["_law_purse", "_law_rank", "_law_by_name", "_law_good", "_law_turns", "_law_is_bad", "_law_depth", "_law_deeper", "_law_ahead", "_law_shape", "_law_below", "_law_less", "_law_low", "_law_kept", "_law_due", "_law_told", "_law_later", "_law_behind"]
theorem sc__law_ng_k25 : FnScope N__law_ng_k25 ["_law_purse"] (defScope s__law_ng_k25) := ⟨rfl, rfl, rfl, by decide +kernel, rfl, by decide +kernel, by decide +kernel⟩
abbrev s_law : Stmt := topS 53
abbrev N_law : List Str := ["_law_script", "_law_index", "_law_purse"]
theorem sc_law : FnScope N_law ["_law_script"] (defScope s_law) := ⟨rfl, rfl, rfl, by decide +kernel, rfl, by decide +kernel, by decide +kernel⟩
abbrev s_VE : Stmt := inClass (topS 1) 0
theorem sc_VE : FnScope ["self", "value"] ["self", "value"] (defScope s_VE) := ⟨rfl, rfl, rfl, by decide +kernel, rfl, by decide +kernel, by decide +kernel⟩
theorem ok_VE {P : Program} {w : World} {K : PySem.W.Frag} {mg : Str → Option Value} {base : Heap} {x : Str} {C fI : Addr} {fd : FuncData} (T : ErrAt K mg x s_VE C fI fd) : FnOk P w K mg base CX0 1 fI fd ["self", "value"] (spVE C) := by
  refine T.F.ok sc_VE (fun vs H Q E h => ?_) (fun cdv A outer s H vs Q E hr h => ⟨tVE K, ?_, run_VE T h⟩)
  · obtain ⟨a, v, rfl, _⟩ := h
    rfl
  · exact pss_cons (ps_expr (pe_veinit (by rfl) T.gV T.vV (pa_cons (pv 0) (pa_cons (pv 1) pa_nil)))) (pss_one (ps_ost (pv 0) (pv 1)))
structure Prog (K : PySem.W.Frag) (mg : Str → Option Value) where
  blt : Blt mg
  f_is_effect : Addr
  fd_is_effect : FuncData
  d_is_effect : DefAt K mg "is_effect" s_is_effect f_is_effect fd_is_effect ["one"]
  f_least_of : Addr
  fd_least_of : FuncData
  d_least_of : DefAt K mg "least_of" s_least_of f_least_of fd_least_of ["needs", "gives"]
  f_checked : Addr
  fd_checked : FuncData
  d_checked : DefAt K mg "checked" s_checked f_checked fd_checked ["one"]
  f_came_from : Addr
  fd_came_from : FuncData
  d_came_from : DefAt K mg "came_from" s_came_from f_came_from fd_came_from ["one", "spot"]
  f_join_of : Addr
  fd_join_of : FuncData
  d_join_of : DefAt K mg "join_of" s_join_of f_join_of fd_join_of ["one", "other"]
  f_power_of : Addr
  fd_power_of : FuncData
  d_power_of : DefAt K mg "power_of" s_power_of f_power_of fd_power_of ["one", "number"]
  f_goes_on : Addr
  fd_goes_on : FuncData
  d_goes_on : DefAt K mg "goes_on" s_goes_on f_goes_on fd_goes_on ["ring", "size", "step"]
  f_told_way : Addr
  fd_told_way : FuncData
  d_told_way : DefAt K mg "told_way" s_told_way f_told_way fd_told_way ["numbers", "tail", "every", "more"]
  f_walked_places : Addr
  fd_walked_places : FuncData
  d_walked_places : DefAt K mg "walked_places" s_walked_places f_walked_places fd_walked_places ["one", "spot"]
  f_steps_down : Addr
  fd_steps_down : FuncData
  d_steps_down : DefAt K mg "steps_down" s_steps_down f_steps_down fd_steps_down ["high", "low", "step"]
  f_spot_after : Addr
  fd_spot_after : FuncData
  d_spot_after : DefAt K mg "spot_after" s_spot_after f_spot_after fd_spot_after ["one", "number", "spot"]
  f_arrivals_at : Addr
  fd_arrivals_at : FuncData
  d_arrivals_at : DefAt K mg "arrivals_at" s_arrivals_at f_arrivals_at fd_arrivals_at ["one", "spot", "goal", "number"]
  f_count_after : Addr
  fd_count_after : FuncData
  d_count_after : DefAt K mg "count_after" s_count_after f_count_after fd_count_after ["one", "number", "spot"]
  f_ring_size : Addr
  fd_ring_size : FuncData
  d_ring_size : DefAt K mg "ring_size" s_ring_size f_ring_size fd_ring_size ["one", "spot"]
  f_size_after_times : Addr
  fd_size_after_times : FuncData
  d_size_after_times : DefAt K mg "size_after_times" s_size_after_times f_size_after_times fd_size_after_times ["one", "number"]
  f_counts_told : Addr
  fd_counts_told : FuncData
  d_counts_told : DefAt K mg "counts_told" s_counts_told f_counts_told fd_counts_told ["one", "spot"]
  f_lost_from : Addr
  fd_lost_from : FuncData
  d_lost_from : DefAt K mg "lost_from" s_lost_from f_lost_from fd_lost_from ["one", "spot"]
  f_merged_from : Addr
  fd_merged_from : FuncData
  d_merged_from : DefAt K mg "merged_from" s_merged_from f_merged_from fd_merged_from ["one", "spot", "second"]
  f_check_number : Addr
  fd_check_number : FuncData
  d_check_number : DefAt K mg "check_number" s_check_number f_check_number fd_check_number ["number"]
  f_check_place : Addr
  fd_check_place : FuncData
  d_check_place : DefAt K mg "check_place" s_check_place f_check_place fd_check_place ["spot"]
  f_times : Addr
  fd_times : FuncData
  d_times : DefAt K mg "times" s_times f_times fd_times ["one", "number"]
  f_place_after : Addr
  fd_place_after : FuncData
  d_place_after : DefAt K mg "place_after" s_place_after f_place_after fd_place_after ["one", "number", "spot"]
  f_way : Addr
  fd_way : FuncData
  d_way : DefAt K mg "way" s_way f_way fd_way ["one", "spot"]
  f_size_after : Addr
  fd_size_after : FuncData
  d_size_after : DefAt K mg "size_after" s_size_after f_size_after fd_size_after ["one", "number"]
  f_copies : Addr
  fd_copies : FuncData
  d_copies : DefAt K mg "copies" s_copies f_copies fd_copies ["one", "number", "spot"]
  f_copies_way : Addr
  fd_copies_way : FuncData
  d_copies_way : DefAt K mg "copies_way" s_copies_way f_copies_way fd_copies_way ["one", "spot"]
  f_lost_after : Addr
  fd_lost_after : FuncData
  d_lost_after : DefAt K mg "lost_after" s_lost_after f_lost_after fd_lost_after ["one", "spot"]
  f_merged_after : Addr
  fd_merged_after : FuncData
  d_merged_after : DefAt K mg "merged_after" s_merged_after f_merged_after fd_merged_after ["one", "spot", "second"]
  f_comes_again : Addr
  fd_comes_again : FuncData
  d_comes_again : DefAt K mg "comes_again" s_comes_again f_comes_again fd_comes_again ["one"]
  f__law_ng_purse : Addr
  fd__law_ng_purse : FuncData
  d__law_ng_purse : DefAt K mg "_law_ng_purse" s__law_ng_purse f__law_ng_purse fd__law_ng_purse ["_law_script", "_law_index"]
  f__law_coin : Addr
  fd__law_coin : FuncData
  d__law_coin : DefAt K mg "_law_coin" s__law_coin f__law_coin fd__law_coin ["_law_purse", "_law_many"]
  f__law_ng_number : Addr
  fd__law_ng_number : FuncData
  d__law_ng_number : DefAt K mg "_law_ng_number" s__law_ng_number f__law_ng_number fd__law_ng_number ["_law_purse", "_law_most"]
  f__law_ng_least : Addr
  fd__law_ng_least : FuncData
  d__law_ng_least : DefAt K mg "_law_ng_least" s__law_ng_least f__law_ng_least fd__law_ng_least ["_law_needs", "_law_gives"]
  f__law_ng_menu : Addr
  fd__law_ng_menu : FuncData
  d__law_ng_menu : DefAt K mg "_law_ng_menu" s__law_ng_menu f__law_ng_menu fd__law_ng_menu ["_law_purse"]
  f__law_ng_shape : Addr
  fd__law_ng_shape : FuncData
  d__law_ng_shape : DefAt K mg "_law_ng_shape" s__law_ng_shape f__law_ng_shape fd__law_ng_shape ["_law_purse", "_law_deep", "_law_length"]
  f__law_ng_copy : Addr
  fd__law_ng_copy : FuncData
  d__law_ng_copy : DefAt K mg "_law_ng_copy" s__law_ng_copy f__law_ng_copy fd__law_ng_copy ["_law_shape"]
  f__law_ng_is : Addr
  fd__law_ng_is : FuncData
  d__law_ng_is : DefAt K mg "_law_ng_is" s__law_ng_is f__law_ng_is fd__law_ng_is ["_law_found", "_law_due"]
  f__law_ng_bad : Addr
  fd__law_ng_bad : FuncData
  d__law_ng_bad : DefAt K mg "_law_ng_bad" s__law_ng_bad f__law_ng_bad fd__law_ng_bad ["_law_purse"]
  f__law_ng_ask : Addr
  fd__law_ng_ask : FuncData
  d__law_ng_ask : DefAt K mg "_law_ng_ask" s__law_ng_ask f__law_ng_ask fd__law_ng_ask ["_law_rank", "_law_shape", "_law_turns", "_law_depth", "_law_deeper"]
  f__law_ng_ask_by_name : Addr
  fd__law_ng_ask_by_name : FuncData
  d__law_ng_ask_by_name : DefAt K mg "_law_ng_ask_by_name" s__law_ng_ask_by_name f__law_ng_ask_by_name fd__law_ng_ask_by_name ["_law_rank", "_law_shape", "_law_turns", "_law_depth", "_law_deeper"]
  f__law_ng_caught : Addr
  fd__law_ng_caught : FuncData
  d__law_ng_caught : DefAt K mg "_law_ng_caught" s__law_ng_caught f__law_ng_caught fd__law_ng_caught ["_law_by_name", "_law_rank", "_law_shape", "_law_turns", "_law_depth", "_law_deeper"]
  f__law_ng_fault : Addr
  fd__law_ng_fault : FuncData
  d__law_ng_fault : DefAt K mg "_law_ng_fault" s__law_ng_fault f__law_ng_fault fd__law_ng_fault ["_law_rank", "_law_is_bad", "_law_shape", "_law_turns", "_law_depth", "_law_deeper"]
  f__law_ng_k25 : Addr
  fd__law_ng_k25 : FuncData
  d__law_ng_k25 : DefAt K mg "_law_ng_k25" s__law_ng_k25 f__law_ng_k25 fd__law_ng_k25 ["_law_purse"]
  f_law : Addr
  fd_law : FuncData
  d_law : DefAt K mg "law" s_law f_law fd_law ["_law_script"]
  C_InvalidEffect : Addr
  fI_InvalidEffect : Addr
  fdI_InvalidEffect : FuncData
  e_InvalidEffect : ErrAt K mg "InvalidEffect" s_VE C_InvalidEffect fI_InvalidEffect fdI_InvalidEffect
  C_InvalidNumber : Addr
  fI_InvalidNumber : Addr
  fdI_InvalidNumber : FuncData
  e_InvalidNumber : ErrAt K mg "InvalidNumber" s_VE C_InvalidNumber fI_InvalidNumber fdI_InvalidNumber
  C_InvalidPlace : Addr
  fI_InvalidPlace : Addr
  fdI_InvalidPlace : FuncData
  e_InvalidPlace : ErrAt K mg "InvalidPlace" s_VE C_InvalidPlace fI_InvalidPlace fdI_InvalidPlace
  C_PileError : Addr
  fI_PileError : Addr
  fdI_PileError : FuncData
  e_PileError : ErrAt K mg "PileError" s_VE C_PileError fI_PileError fdI_PileError
  C_TooShallow : Addr
  fI_TooShallow : Addr
  fdI_TooShallow : FuncData
  e_TooShallow : ErrAt K mg "TooShallow" s_VE C_TooShallow fI_TooShallow fdI_TooShallow
  xm_InvalidEffect_InvalidEffect : PySem.W.exmOne K (.ref C_InvalidEffect) (.ref C_InvalidEffect) = some true
  xm_InvalidEffect_InvalidNumber : PySem.W.exmOne K (.ref C_InvalidEffect) (.ref C_InvalidNumber) = some false
  xm_InvalidEffect_InvalidPlace : PySem.W.exmOne K (.ref C_InvalidEffect) (.ref C_InvalidPlace) = some false
  xm_InvalidEffect_PileError : PySem.W.exmOne K (.ref C_InvalidEffect) (.ref C_PileError) = some true
  xm_InvalidNumber_InvalidEffect : PySem.W.exmOne K (.ref C_InvalidNumber) (.ref C_InvalidEffect) = some false
  xm_InvalidNumber_InvalidNumber : PySem.W.exmOne K (.ref C_InvalidNumber) (.ref C_InvalidNumber) = some true
  xm_InvalidNumber_InvalidPlace : PySem.W.exmOne K (.ref C_InvalidNumber) (.ref C_InvalidPlace) = some false
  xm_InvalidNumber_PileError : PySem.W.exmOne K (.ref C_InvalidNumber) (.ref C_PileError) = some true
  xm_InvalidPlace_InvalidEffect : PySem.W.exmOne K (.ref C_InvalidPlace) (.ref C_InvalidEffect) = some false
  xm_InvalidPlace_InvalidNumber : PySem.W.exmOne K (.ref C_InvalidPlace) (.ref C_InvalidNumber) = some false
  xm_InvalidPlace_InvalidPlace : PySem.W.exmOne K (.ref C_InvalidPlace) (.ref C_InvalidPlace) = some true
  xm_InvalidPlace_PileError : PySem.W.exmOne K (.ref C_InvalidPlace) (.ref C_PileError) = some true
  i_InvalidEffect : ExcC K C_InvalidEffect
  i_InvalidNumber : ExcC K C_InvalidNumber
  i_InvalidPlace : ExcC K C_InvalidPlace
  kt_InvalidEffect_InvalidNumber_InvalidPlace_TooShallow : PySem.W.kitAny K (.ref C_InvalidEffect) [.ref C_InvalidNumber, .ref C_InvalidPlace, .ref C_TooShallow] = some false
  ki_InvalidEffect_PileError : PySem.W.kitOne K (.ref C_InvalidEffect) (.ref C_PileError) = some true
  kt_InvalidNumber_InvalidEffect_InvalidPlace_TooShallow : PySem.W.kitAny K (.ref C_InvalidNumber) [.ref C_InvalidEffect, .ref C_InvalidPlace, .ref C_TooShallow] = some false
  ki_InvalidNumber_PileError : PySem.W.kitOne K (.ref C_InvalidNumber) (.ref C_PileError) = some true
  kt_InvalidPlace_InvalidNumber_InvalidEffect_TooShallow : PySem.W.kitAny K (.ref C_InvalidPlace) [.ref C_InvalidNumber, .ref C_InvalidEffect, .ref C_TooShallow] = some false
  ki_InvalidPlace_PileError : PySem.W.kitOne K (.ref C_InvalidPlace) (.ref C_PileError) = some true
section
variable {P : Program} {w : World} {K : PySem.W.Frag} {mg : Str → Option Value} {base : Heap}
def x_checked (p : Prog K mg) : List D → Addr → D → Prop := fun ds c d => ∃ n gs, ds = [dE (n, gs)] ∧ gs.length ≤ 1000000 ∧ ¬ Eff (n, gs) ∧ c = p.C_InvalidEffect ∧ d = dE (n, gs)
theorem arx_checked (p : Prog K mg) : ∀ ds c d, x_checked p ds c d → ds.length = 1 := by
  rintro ds c d ⟨n, gs, rfl, _⟩
  rfl
/-- an effect that is none, then a number below the least one -/
def x_num (C C2 : Addr) (least : Int) : List D → Addr → D → Prop := fun ds c e => ∃ n gs m, ds = [dE (n, gs), .int m] ∧ gs.length ≤ 1000000 ∧ ((¬ Eff (n, gs) ∧ c = C ∧ e = dE (n, gs)) ∨ (Eff (n, gs) ∧ m < least ∧ c = C2 ∧ e = .int m))
theorem arx_num {C C2 : Addr} {l : Int} : ∀ ds c d, x_num C C2 l ds c d → ds.length = 2 := by
  rintro ds c d ⟨n, gs, m, rfl, _⟩
  rfl
/-- an effect that is none, then a number, then a place below the least one -/
def x_np (C C2 C3 : Addr) : List D → Addr → D → Prop := fun ds c e => ∃ n gs k r, ds = [dE (n, gs), .int k, .int r] ∧ gs.length ≤ 1000000 ∧ ((¬ Eff (n, gs) ∧ c = C ∧ e = dE (n, gs)) ∨ (Eff (n, gs) ∧ k < 0 ∧ c = C2 ∧ e = .int k) ∨ (Eff (n, gs) ∧ 0 ≤ k ∧ r < 1 ∧ c = C3 ∧ e = .int r))
theorem arx_np {C C2 C3 : Addr} : ∀ ds c d, x_np C C2 C3 ds c d → ds.length = 3 := by
  rintro ds c d ⟨n, gs, k, r, rfl, _⟩
  rfl
/-- an effect that is none, then one of two places below the least one -/
def x_pp (C C3 : Addr) : List D → Addr → D → Prop := fun ds c e => ∃ n gs k r, ds = [dE (n, gs), .int k, .int r] ∧ gs.length ≤ 1000000 ∧ ((¬ Eff (n, gs) ∧ c = C ∧ e = dE (n, gs)) ∨ (Eff (n, gs) ∧ k < 1 ∧ c = C3 ∧ e = .int k) ∨ (Eff (n, gs) ∧ 1 ≤ k ∧ r < 1 ∧ c = C3 ∧ e = .int r))
theorem arx_pp {C C3 : Addr} : ∀ ds c d, x_pp C C3 ds c d → ds.length = 3 := by
  rintro ds c d ⟨n, gs, k, r, rfl, _⟩
  rfl
def x_low (C : Addr) (least : Int) : List D → Addr → D → Prop := fun ds c e => ∃ m : Int, ds = [.int m] ∧ m < least ∧ c = C ∧ e = .int m
theorem arx_low {C : Addr} {l : Int} : ∀ ds c d, x_low C l ds c d → ds.length = 1 := by
  rintro ds c d ⟨m, rfl, _⟩
  rfl
def w_is_effect : Tw := fun ds Q => ∃ n gs, ds = [.tuple [.int n, dI gs]] ∧ gs.length ≤ 1000000 ∧ Q (.bool (decide (0 ≤ n) && gs.all fun x => decide (1 ≤ x) && decide (x ≤ n)))
theorem ok_is_effect (p : Prog K mg) : FnG P w K mg base CX0 1 p.f_is_effect p.fd_is_effect ["one"] (spT w_is_effect) := by
  refine okG p.d_is_effect.F sc_is_effect (fun vs H Q E h => ?_) (fun cdv A outer s H vs Q E hg hr h => ?_)
  · obtain ⟨S, ds, G, r, ⟨n, gs, rfl, _⟩, _⟩ := h
    exact r.length
  · obtain ⟨S, ds, G, r, ⟨n, gs, rfl, len, q⟩, k⟩ := h
    obtain ⟨v, rfl, hS⟩ := enter1 r
    obtain ⟨t, v1, v2, rfl, hS⟩ := hS.ftup2 (by walk_at "mem")
    obtain rfl := hS.fint (by walk_at "mem")
    obtain ⟨a, rfl, ha⟩ := hS.rints (.fz (by walk_at "mem"))
    refine ⟨_, (pss_cons (ps_asg (pv 0) (pg_tup rfl (pgs_cons (pg_name (i := 1) sc_is_effect.nd rfl (Or.inr rfl)) (pgs_cons (pg_name (i := 2) sc_is_effect.nd rfl (Or.inl rfl)) pgs_nil))))
      (pss_one (ps_ret (pe_and (pe_cmpR op_ge (pv 1) pe_int (nomark _)) (pe_one (pe_callB (cr_all rfl) (by rfl) p.blt.all (by decide +kernel) (pa_cons (pe_lc (own := [("spot", 3)]) (g := gName 3) (tt := tYes) rfl sc_is_effect.nd (pi_list (pv 2)) (blkOk_by (N := N_is_effect) (sc := defScope s_is_effect) (by decide +kernel)) (fun _ _ _ _ _ => pg_name (i := 3) sc_is_effect.nd rfl (Or.inl rfl)) (fun _ _ _ _ _ => pts_nil) (fun _ _ _ _ _ => (pe_chain op_le op_le pe_int (pv 3) (pv 1)))) pa_nil))))))), ?_⟩
    refine ⟨_, rfl, t, _, rfl, SqT.of (hS.tp (by walk_at "mem")), rfl, _, _, rfl, _, _, rfl, rfl, ?_⟩
    refine ⟨_, rfl, _, _, rfl, rfl, _, rfl, ?_⟩
    by_cases h0 : 0 ≤ n
    · rw [decide_eq_true h0] at q ⊢
      refine iteT ?_
      refine ⟨_, rfl, a, rfl, ⟨_, SqL.of ha⟩, fun D hD => ?_⟩
      refine lc_ints (fun pre H1 => Same H H1 ∧ H1 D = some (.lst ((pre.map fun x => decide (1 ≤ x) && decide (x ≤ n)).map V.bl))) ⟨same_upd hD, upd_same⟩ (fun pre H1 h => h.1 _ _ ha) (fun pre x post H1 e h => ?_) (fun H1 h => ?_)
      · refine ⟨rfl, _, rfl, _, _, rfl, rfl, _, rfl, ?_⟩
        have fin : ∀ b : Bool, b = (decide (1 ≤ x) && decide (x ≤ n)) → ∃ acc, H1 D = some (.lst acc) ∧ acc.length < sizeLine ∧ (fun (pre : List Int) (H1 : Hp) => Same H H1 ∧ H1 D = some (.lst ((pre.map fun x => decide (1 ≤ x) && decide (x ≤ n)).map V.bl))) (pre ++ [x]) (upd H1 D (.lst (acc ++ [V.bl b]))) := fun b eb => by
          subst e
          refine ⟨_, h.2, szlt (by simp at len ⊢; omega), fun c o eo => ?_, ?_⟩
          · rw [upd_ne (ne_of_none eo hD)]
            exact h.1 _ _ eo
          · rw [upd_same, eb]
            simp
        refine iteB (fun h1 => ?_) (fun h1 => ?_)
        · refine ⟨_, rfl, _, _, rfl, rfl, ?_⟩
          exact fin _ (by rw [h1]; rfl)
        · exact fin _ (by rw [h1]; rfl)
      · refine ⟨D, _, rfl, SqL.of h.2, ?_⟩
        have e2 : ((gs.map fun x => decide (1 ≤ x) && decide (x ≤ n)).all id) = gs.all fun x => decide (1 ≤ x) && decide (x ≤ n) := by
          rw [List.all_map]
          rfl
        rw [e2]
        exact k _ _ _ q h.1 ⟨[], .bl _, by simp, by simp⟩
    · rw [decide_eq_false h0] at q ⊢
      exact iteF (k _ _ _ q (Same.refl _) ⟨[], .bl _, by simp, by simp⟩)
def w_least_of : Tw := fun ds Q => ∃ n gs, ds = [.int n, dI gs] ∧ (∀ x ∈ gs, 1 ≤ x) ∧ gs.length ≤ 1000000 ∧ Q (dE (leastE n gs))
theorem ok_least_of (p : Prog K mg) : FnG P w K mg base CX0 1 p.f_least_of p.fd_least_of ["needs", "gives"] (spT w_least_of) := by
  refine okG p.d_least_of.F sc_least_of (fun vs H Q E h => ?_) (fun cdv A outer s H vs Q E hg hr h => ?_)
  · obtain ⟨S, ds, G, r, ⟨n, gs, rfl, _⟩, _⟩ := h
    exact r.length
  · obtain ⟨S, ds, G, r, ⟨n, gs, rfl, pos, len, q⟩, kk⟩ := h
    obtain ⟨v1, v2, rfl, hS⟩ := enter2 r
    obtain rfl := hS.fint (by walk_at "mem")
    obtain ⟨a, rfl, ha⟩ := hS.rints (.fz (by walk_at "mem"))
    refine ⟨_, (pss_cons (ps_set (i := 2) sc_least_of.nd rfl (Or.inl rfl) (pe_lst (pa_cons pe_int pa_nil)))
      (pss_cons (ps_for PassesOwn.never rfl (pi_list (pv 1)) (pg_name (i := 3) sc_least_of.nd rfl (Or.inl rfl))
      (pss_one (ps_expr (pe_bm PySem.F.plainAttrs_list PySem.F.slot_list_append PySem.F.type_list_append mt_append (pv 2) (pa_cons (pe_callB (call_max2 rfl) (by rfl) p.blt.max (by decide +kernel) (pa_cons (pe_ix ix_list (pv 2) (pe_un un_neg pe_int) (fun _ _ => rfl)) (pa_cons (pv 3) pa_nil))) pa_nil)))))
      (pss_cons (ps_set (i := 4) sc_least_of.nd rfl (Or.inl rfl) (pe_callB call_len_seq (by rfl) p.blt.len PySem.boot_len (pa_cons (pv 1) pa_nil)))
      (pss_cons (ps_while PassesOwn.never (PW.pt (pw_and (pt_cmpR op_gt (pv 4) pe_int (nomark _)) (pw_and (pt_cmpR op_eq (pe_ix ix_list (pv 1) (pe_op op_sub (pv 4) pe_int) (fun _ _ => rfl)) (pv 0) (nomark _)) (pw_and1 (pt_cmpR op_lt (pe_ix ix_list (pv 2) (pe_op op_sub (pv 4) pe_int) (fun _ _ => rfl)) (pv 0) (nomark _))))))
      (pss_one (ps_par (i := 4) (j := 0) rfl sc_least_of.nd rfl rfl (by decide) rfl rfl (pa_cons (pe_op op_sub (pv 4) pe_int) (pa_cons (pe_op op_sub (pv 0) pe_int) pa_nil)) (by rfl))))
      (pss_one (ps_ret (pe_tup (pa_cons (pv 0) (pa_cons (pe_callTy call_list_of (by rfl) p.blt.list (by decide +kernel) (pa_cons (pe_slice sl_list (pv 1) po_none (po_some (pv 4))) pa_nil)) pa_nil))))))))), ?_⟩
    -- tops = [0]
    refine ⟨szle (by simp), fun t ht => ?_⟩
    have hS1 := hS.mkInts (ns := [0]) ht
    have hat : H a = some (.lst (gs.map V.int)) := ha
    -- the loop over gives
    refine ⟨_, rfl, a, rfl, ⟨_, SqL.of (same_upd ht _ _ ha)⟩, for_ints (ns := gs) (fun pre σ H1 => ∃ y3 y4, σ = [some (.int n), some (.ref a), some (.ref t), y3, y4] ∧ St H .none .none [(.int n, .int n), (.ref a, dI gs)] [(.ref t, dI (tops pre))] [] H1) ⟨none, none, rfl, hS1⟩ (fun pre σ H1 h => ?_) (fun pre x post σ H1 e h => ?_) (fun σ H1 h => ?_)⟩
    · obtain ⟨_, _, _, h⟩ := h
      obtain ⟨a', e, h'⟩ := h.rints (v := .ref a) (.fz (by walk_at "mem"))
      cases e
      exact h'
    · obtain ⟨y3, y4, rfl, h⟩ := h
      obtain ⟨ht1, k⟩ := h.putInts
      have hl : (tops pre).length = pre.length + 1 := tops_len pre
      have hlast : (tops pre)[pre.length]? = some (top pre) := by
        rw [tops_at (Nat.le_refl _), List.take_length]
      have hlastI : atI ((tops pre).map V.int) (-1) = some (.int (top pre)) := by
        unfold atI
        have e1 : ixN ((tops pre).map V.int).length (-1) = some pre.length := by
          unfold ixN
          rw [ints_len, hl, if_neg (by decide), if_pos (by omega)]
          congr 1
          omega
        rw [e1]
        exact ints_at hlast
      refine ⟨_, rfl, .inl ⟨rfl, _, SqL.of ht1⟩, _, rfl, _, rfl, _, _, _, _, rfl, rfl, SqL.of ht1, hlastI, _, rfl, _, _, rfl, t, _, _, rfl, rfl, ht1, szlt ?_, ?_⟩
      · rw [ints_len, hl]
        subst e
        simp at len
        omega
      · refine ⟨some (.int x), y4, rfl, ?_⟩
        have k' := k (tops (pre ++ [x]))
        rw [tops_app] at k'
        rw [tops_app]
        have e2 : (if x > top pre then x else top pre) = max (top pre) x := by omega
        rw [e2]
        simpa using k'
    · obtain ⟨y3, y4, rfl, h⟩ := h
      obtain ⟨ht1, _⟩ := h.putInts
      obtain ⟨a', e, ha1⟩ := h.rints (v := .ref a) (.fz (by walk_at "mem"))
      cases e
      -- size = len(gives)
      refine ⟨_, rfl, a, _, rfl, .inl (SqL.of ha1), ?_⟩
      rw [ints_len]
      -- the while
      refine ⟨fun m σ H2 => H2 = H1 ∧ ∃ n', σ = [some (.int n'), some (.ref a), some (.ref t), y3, some (.int (m : Int))] ∧ m ≤ gs.length ∧ trim gs gs.length n = trim gs m n', ⟨gs.length, rfl, n, rfl, Nat.le_refl _, rfl⟩, fun m σ H2 h2 => ?_⟩
      obtain ⟨rfl, n', rfl, hm, et⟩ := h2
      refine ⟨_, rfl, _, _, rfl, rfl, _, rfl, ?_⟩
      -- the way out: (needs, list(gives[:size]))
      have out : trim gs m n' = (m, n') → tRet (tTup (tCons (tVar 0) (tCons (tCB (fun xs H Q => ∃ p ys, xs = [.ref p] ∧ (SqL K H p ys ∨ SqT K H p ys) ∧ ∀ l, H l = none → Q (.ref l) (upd H l (.lst ys))) (tCons (tSl (rSlL K) (tVar 1) tNoPart (tPart (tVar 4))) tNil)) tNil))) ⟨fun _ H' => Q .non H', Q, fun _ _ => False, fun _ _ => False⟩ [some (.int n'), some (.ref a), some (.ref t), y3, some (.int (m : Int))] H2 := fun eo => by
        have eL : leastE n gs = (n', gs.take m) := by
          unfold leastE
          rw [et, eo]
        rw [eL] at q
        refine ⟨_, rfl, _, rfl, _, rfl, _, rfl, a, _, rfl, SqL.of ha1, fun c hc => ?_⟩
        rw [cutV_to, ← List.map_take]
        have hS2 := h.mkInts (ns := gs.take m) hc
        obtain ⟨hc1, _⟩ := hS2.putInts
        refine ⟨c, _, rfl, .inl (SqL.of hc1), fun l hl => ?_⟩
        have hS3 := hS2.mkInts (ns := gs.take m) hl
        refine ⟨szle (by simp), fun u hu => ?_⟩
        have hS4 := (hS3.mkTup hu).take (.tp2 (List.Mem.head _) (.int n') (.own .hd))
        obtain ⟨sm, nw⟩ := hS4.leave
        exact kk _ _ _ q sm nw
      cases m with
      | zero =>
        refine iteF ?_
        refine iteF (out ?_)
        rfl
      | succ k =>
        have hk : gs[k]? = some gs[k] := List.getElem?_eq_getElem (by omega)
        rw [decide_eq_true (show (0 : Int) < ((k + 1 : Nat) : Int) by omega)]
        refine iteT ?_
        have ei : ((k + 1 : Nat) : Int) - 1 = (k : Int) := by omega
        refine ⟨_, rfl, _, rfl, _, _, rfl, rfl, _, _, _, _, rfl, rfl, SqL.of ha1, at_nat ei (ints_at hk), _, rfl, rfl, _, rfl, ?_⟩
        rw [dec_eq_int]
        have g1 : 1 ≤ gs[k] := pos _ (List.getElem_mem ..)
        by_cases e1 : gs[k] = n'
        · rw [decide_eq_true e1]
          refine iteT ?_
          have htop : (tops gs)[k]? = some (top (gs.take k)) := tops_at (by omega)
          refine ⟨_, rfl, _, rfl, _, _, rfl, rfl, _, _, _, _, rfl, rfl, SqL.of ht1, at_nat ei (ints_at htop), _, rfl, _, _, rfl, rfl, _, rfl, ?_⟩
          by_cases e2 : top (gs.take k) < n'
          · rw [decide_eq_true e2]
            refine iteT ⟨fun σ' H' => ∃ m', m' < k + 1 ∧ (H' = H2 ∧ ∃ n', σ' = [some (.int n'), some (.ref a), some (.ref t), y3, some (.int (m' : Int))] ∧ m' ≤ gs.length ∧ trim gs gs.length n = trim gs m' n'), fun σ' H' z => z, ?_⟩
            refine ⟨_, rfl, _, _, rfl, rfl, _, rfl, _, _, rfl, rfl, _, _, rfl, k, by omega, rfl, n' - 1, ?_, by omega, ?_⟩
            · exact congrArg (fun z => [some (V.int (n' - 1)), some (V.ref a), some (V.ref t), y3, some (V.int z)]) ei
            · rw [et]
              conv => lhs; unfold trim
              rw [if_pos ⟨by rw [hk, e1], (top_lt (by omega)).mp e2⟩]
          · rw [decide_eq_false e2]
            refine iteF (out ?_)
            unfold trim
            rw [if_neg fun z => e2 ((top_lt (by omega)).mpr z.2)]
        · rw [decide_eq_false e1]
          refine iteF (iteF (out ?_))
          unfold trim
          rw [if_neg fun z => e1 (by rw [hk] at z; exact Option.some.inj z.1)]
def w_checked : Tw := fun ds Q => ∃ n gs, ds = [.tuple [.int n, dI gs]] ∧ Eff (n, gs) ∧ gs.length ≤ 1000000 ∧ Q (dE (leastE n gs))
theorem ar_checked : ∀ ds G, w_checked ds G → ds.length = 1 := by
  rintro ds G ⟨n, gs, rfl, _⟩
  rfl
theorem effB {n : Int} {gs : List Int} : (decide (0 ≤ n) && gs.all fun x => decide (1 ≤ x) && decide (x ≤ n)) = true ↔ Eff (n, gs) := by
  rw [Bool.and_eq_true, decide_eq_true_eq, List.all_eq_true]
  refine ⟨fun h => ⟨h.1, fun x hx => ?_, fun x hx => ?_⟩, fun ef => ⟨ef.nn, fun x hx => ?_⟩⟩
  · have := h.2 x hx
    rw [Bool.and_eq_true, decide_eq_true_eq, decide_eq_true_eq] at this
    exact this.1
  · have := h.2 x hx
    rw [Bool.and_eq_true, decide_eq_true_eq, decide_eq_true_eq] at this
    exact this.2
  · rw [Bool.and_eq_true, decide_eq_true_eq, decide_eq_true_eq]
    exact ⟨ef.ge x hx, ef.le x hx⟩
def kr_checked_1 : KS := (kRet (kCallT w_least_of 2 (kCons (kVar 1) (kCons (kVar 2) kNil))))
def kr_checked_2 : KS := (kSeq (kIfS (kTNot (kTest (kCallT w_is_effect 1 (kCons (kVar 0) kNil))))
  kNever
  kNext)
  kr_checked_1)
def k_checked : KS := (kSeq (kAsg (kFrz 0) (kgTup 2 (kgCons (kgName 1) (kgCons (kgName 2) kgNil))))
  kr_checked_2)
def kxr_checked_1 (p : Prog K mg) (x : XH) : KS := (kRet (kCallT w_least_of 2 (kCons (kVar 1) (kCons (kVar 2) kNil))))
def kxr_checked_2 (p : Prog K mg) (x : XH) : KS := (kSeq (kIfS (kTNot (kTest (kCallT w_is_effect 1 (kCons (kVar 0) kNil))))
  (kRaise x p.C_InvalidEffect (kCons (kMk false 2 (kCons (kVar 1) (kCons (kListOf (kCons (kVar 2) kNil)) kNil))) kNil))
  kNext)
  (kxr_checked_1 p x))
def kx_checked (p : Prog K mg) (x : XH) : KS := (kSeq (kAsg (kFrz 0) (kgTup 2 (kgCons (kgName 1) (kgCons (kgName 2) kgNil))))
  (kxr_checked_2 p x))
abbrev W_checked (p : Prog K mg) : TwX := twX w_checked (x_checked p)
local macro_rules | `(tactic| walk_at "go") => `(tactic| ((first | unfold kr_checked_1 | unfold kxr_checked_1 | unfold kr_checked_2 | unfold kxr_checked_2); walk_at "ev"))
theorem val_checked : ∀ ds G, w_checked ds G → k_checked ⟨ds.map Sl.fz ++ [.jk, .jk], [], 0⟩ (edT G) := by
  rintro ds Gq ⟨n, gs, rfl, ef, lg, q⟩
  unfold k_checked
  walk_at "ev"
  walk_at "go"
  refine ⟨n, gs, rfl, lg, ?_⟩
  rw [effB.mpr ef]
  walk_at "ev"
  walk_at "go"
  exact ⟨n, gs, rfl, ef.ge, lg, q⟩
theorem valx_checked (p : Prog K mg) : ∀ ds c d, x_checked p ds c d → kx_checked p (fun c' d' _ => c' = c ∧ d' = d) ⟨ds.map Sl.fz ++ [.jk, .jk], [], 0⟩ (edT fun _ => False) := by
  rintro ds c d ⟨n, gs, rfl, lg, ne, rfl, rfl⟩
  unfold kx_checked
  walk_at "ev"
  walk_at "go"
  refine ⟨n, gs, rfl, lg, ?_⟩
  have hb : (decide (0 ≤ n) && gs.all fun x => decide (1 ≤ x) && decide (x ≤ n)) = false := Bool.eq_false_iff.mpr fun z => ne (effB.mp z)
  rw [hb]
  walk_at "ev"
  done
theorem ok_checked (p : Prog K mg) : FnG P w K mg base (L2.CX P w) 3 p.f_checked p.fd_checked ["one"] (spX (W_checked p)) :=
  okF (kx := kx_checked p) p.d_checked.F sc_checked (by decide) ar_checked (arx_checked p) (fun cdv A outer s H E hg hr => ⟨_, (pss_cons (ps_asg (pv 0) (pg_tup rfl (pgs_cons (pg_name (i := 1) sc_checked.nd rfl (Or.inl rfl)) (pgs_cons (pg_name (i := 2) sc_checked.nd rfl (Or.inl rfl)) pgs_nil))))
      (pss_cons (ps_if (pt_not (pt_val (pe_callG ((ok_is_effect p).mono (by decide)) hg hr (by rfl) p.d_is_effect.gl p.d_is_effect.kp p.d_is_effect.bd pass0 (pa_cons (pv 0) pa_nil))))
      (pss_one (ps_raise rfl (takes_of rfl rfl rfl rfl) (pmk_oex p.e_InvalidEffect.T p.e_InvalidEffect.iC p.e_InvalidEffect.tI (ok_VE p.e_InvalidEffect) (hr.mono (by decide)) p.e_InvalidEffect.bd .nil pass0 (by rfl) p.e_InvalidEffect.gl (pa_cons (pe_tup (pa_cons (pv 1) (pa_cons (pe_callTy call_list_of (by rfl) p.blt.list (by decide +kernel) (pa_cons (pv 2) pa_nil)) pa_nil))) pa_nil)))) pss_nil)
      (pss_one (ps_ret (pe_callG ((ok_least_of p).mono (by decide)) hg hr (by rfl) p.d_least_of.gl p.d_least_of.kp p.d_least_of.bd pass0 (pa_cons (pv 1) (pa_cons (pv 2) pa_nil))))))),
    fun C xc => (so_seq (so_asg (so_frz (i := 0)) (so_gtup (so_gcons (so_gname (i := 1)) (so_gcons (so_gname (i := 2)) so_gnil))))
      (so_seq (so_ifS (so_tnot (so_test (so_callT (so_cons (so_var (i := 0)) so_nil))))
      so_neverA so_next)
      (so_ret (so_callT (so_cons (so_var (i := 1)) (so_cons (so_var (i := 2)) so_nil)))))),
    fun C xc hE => (so_seq (so_asg (so_frz (i := 0)) (so_gtup (so_gcons (so_gname (i := 1)) (so_gcons (so_gname (i := 2)) so_gnil))))
      (so_seq (so_ifS (so_tnot (so_test (so_callT (so_cons (so_var (i := 0)) so_nil))))
      (so_raise hE (so_cons (so_tup (so_cons (so_var (i := 1)) (so_cons (so_listOf (so_cons (so_var (i := 2)) so_nil)) so_nil))) so_nil)) so_next)
      (so_ret (so_callT (so_cons (so_var (i := 1)) (so_cons (so_var (i := 2)) so_nil))))))⟩) val_checked (valx_checked p)
def w_came_from : Tw := fun ds Q => ∃ n gs r, ds = [.tuple [.int n, dI gs], .int r] ∧ 1 ≤ r ∧ Q (.int (fromE (n, gs) r))
theorem ok_came_from (p : Prog K mg) : FnG P w K mg base CX0 1 p.f_came_from p.fd_came_from ["one", "spot"] (spT w_came_from) := by
  refine okG p.d_came_from.F sc_came_from (fun vs H Q E h => ?_) (fun cdv A outer s H vs Q E hg hr h => ?_)
  · obtain ⟨S, ds, Gq, r, ⟨n, gs, c, rfl, _⟩, _⟩ := h
    exact r.length
  · obtain ⟨S, ds, Gq, r, ⟨n, gs, c, rfl, c1, q⟩, k⟩ := h
    obtain ⟨v1, v2, rfl, hS⟩ := enter2 r
    obtain rfl := hS.fint (v := v2) (by walk_at "mem")
    obtain ⟨t, w1, w2, rfl, h1⟩ := hS.ftup2 (v := v1) (by walk_at "mem")
    obtain rfl := h1.fint (v := w1) (by walk_at "mem")
    obtain ⟨a, rfl, ha⟩ := h1.rints (v := w2) (ns := gs) (.fz (by walk_at "mem"))
    have ht := h1.tp (t := t) (by walk_at "mem")
    have out : ∀ x : Int, x = fromE (n, gs) c → Q (.int x) H := fun x e => by
      rw [e]
      obtain ⟨sm, nw⟩ := (h1.take (.int _)).leave
      exact k _ _ _ q sm nw
    refine ⟨_, (pss_cons (ps_asg (pv 0) (pg_tup rfl (pgs_cons (pg_name (i := 2) sc_came_from.nd rfl (Or.inl rfl)) (pgs_cons (pg_name (i := 3) sc_came_from.nd rfl (Or.inl rfl)) pgs_nil))))
      (pss_cons (ps_if (pt_cmpR op_le (pv 1) (pe_callB call_len_seq (by rfl) p.blt.len PySem.boot_len (pa_cons (pv 3) pa_nil)) (nomark _))
      (pss_one (ps_ret (pe_ix ix_list (pv 3) (pe_op op_sub (pv 1) pe_int) (fun _ _ => rfl)))) pss_nil)
      (pss_one (ps_ret (pe_op op_sub (pe_op op_add (pv 1) (pv 2)) (pe_callB call_len_seq (by rfl) p.blt.len PySem.boot_len (pa_cons (pv 3) pa_nil))))))), ?_⟩
    refine ⟨_, rfl, t, _, rfl, SqT.of ht, rfl, _, _, rfl, _, _, rfl, rfl, ?_⟩
    refine ⟨_, rfl, _, rfl, a, _, rfl, .inl (SqL.of ha), _, _, rfl, rfl, _, rfl, ?_⟩
    rw [ints_len]
    refine iteB (fun h => ?_) (fun h => ?_)
    · have h := of_decide_eq_true h
      have em : gs[(c - 1).toNat]? = some gs[(c - 1).toNat] := List.getElem?_eq_getElem (by omega)
      refine ⟨_, rfl, _, rfl, _, _, rfl, rfl, a, _, c - 1, _, rfl, rfl, SqL.of ha, at_nat (k := (c - 1).toNat) (by omega) (ints_at em), out _ ?_⟩
      unfold fromE
      rw [if_pos h, List.getD_eq_getElem?_getD, em]
      rfl
    · have h := of_decide_eq_false h
      refine ⟨_, rfl, _, rfl, _, _, rfl, rfl, _, rfl, a, _, rfl, .inl (SqL.of ha), _, _, rfl, rfl, out _ ?_⟩
      unfold fromE
      rw [if_neg h, ints_len]
def w_join_of : Tw := fun ds Q => ∃ n gs d ls, ds = [.tuple [.int n, dI gs], .tuple [.int d, dI ls]] ∧ Eff (n, gs) ∧ Eff (d, ls) ∧ n ≤ 10000 ∧ d ≤ 10000 ∧ gs.length ≤ 10000 ∧ ls.length ≤ 10000 ∧ Q (dE (joinE (n, gs) (d, ls)))
theorem ok_join_of (p : Prog K mg) : FnG P w K mg base CX0 2 p.f_join_of p.fd_join_of ["one", "other"] (spT w_join_of) := by
  refine okG p.d_join_of.F sc_join_of (fun vs H Q E h => ?_) (fun cdv A outer s H vs Q E hg hr h => ?_)
  · obtain ⟨S, ds, Gq, r, ⟨n, gs, d, ls, rfl, _⟩, _⟩ := h
    exact r.length
  · obtain ⟨S, ds, Gq, r, ⟨n, gs, d, ls, rfl, ef, eg, n1, d1, l1, l2, q⟩, k⟩ := h
    obtain ⟨v1, v2, rfl, hS⟩ := enter2 r
    have n0 : 0 ≤ n := ef.nn
    have d0 : 0 ≤ d := eg.nn
    obtain ⟨t, w1, w2, rfl, h1⟩ := hS.ftup2 (v := v1) (by walk_at "mem")
    obtain rfl := h1.fint (v := w1) (by walk_at "mem")
    obtain ⟨a, rfl, ha⟩ := h1.rints (v := w2) (ns := gs) (.fz (by walk_at "mem"))
    obtain ⟨t2, w1, w2, rfl, h2⟩ := h1.ftup2 (v := v2) (by walk_at "mem")
    obtain rfl := h2.fint (v := w1) (by walk_at "mem")
    obtain ⟨b, rfl, hb⟩ := h2.rints (v := w2) (ns := ls) (.fz (by walk_at "mem"))
    refine ⟨_, (pss_cons (ps_asg (pv 0) (pg_tup rfl (pgs_cons (pg_name (i := 2) sc_join_of.nd rfl (Or.inl rfl)) (pgs_cons (pg_name (i := 3) sc_join_of.nd rfl (Or.inl rfl)) pgs_nil))))
      (pss_cons (ps_asg (pv 1) (pg_tup rfl (pgs_cons (pg_name (i := 4) sc_join_of.nd rfl (Or.inl rfl)) (pgs_cons (pg_name (i := 5) sc_join_of.nd rfl (Or.inl rfl)) pgs_nil))))
      (pss_cons (ps_set (i := 6) sc_join_of.nd rfl (Or.inl rfl) (pe_callB (call_max2 rfl) (by rfl) p.blt.max (by decide +kernel) (pa_cons pe_int (pa_cons (pe_op op_sub (pv 4) (pe_callB call_len_seq (by rfl) p.blt.len PySem.boot_len (pa_cons (pv 3) pa_nil))) pa_nil))))
      (pss_cons (ps_set (i := 7) sc_join_of.nd rfl (Or.inr rfl) (pe_op op_cat (pv 3) (pe_listRg rfl (by rfl) p.blt.list (prg_2 (by rfl) p.blt.range (pe_op op_add (pv 2) pe_int) (pe_op op_add (pe_op op_add (pv 2) (pv 6)) pe_int)))))
      (pss_one (ps_ret (pe_callG ((ok_least_of p).mono (by decide)) hg hr (by rfl) p.d_least_of.gl p.d_least_of.kp p.d_least_of.bd pass0 (pa_cons (pe_op op_add (pv 2) (pv 6)) (pa_cons (pe_op op_cat (pe_lc (own := [("spot", 8)]) (g := gName 8) (tt := tYes) rfl sc_join_of.nd (pi_list (pv 5)) (blkOk_by (N := N_join_of) (sc := defScope s_join_of) (by decide +kernel)) (fun _ _ _ _ _ => pg_name (i := 8) sc_join_of.nd rfl (Or.inl rfl)) (fun _ _ _ _ _ => pts_nil) (fun _ _ _ _ _ => (pe_ix (show IxR _ (rIxL K) from ix_list) (pv 7) (pe_op op_sub (pv 8) pe_int) (fun _ _ => rfl)))) (pe_slice sl_list (pv 7) (po_some (pv 4)) po_none)) pa_nil))))))))), ?_⟩
    refine ⟨_, rfl, t, _, rfl, SqT.of (h2.tp (by walk_at "mem")), rfl, _, _, rfl, _, _, rfl, rfl, ?_⟩
    refine ⟨_, rfl, t2, _, rfl, SqT.of (h2.tp (by walk_at "mem")), rfl, _, _, rfl, _, _, rfl, rfl, ?_⟩
    -- more = max(0, deep - len(gives))
    refine ⟨_, rfl, _, rfl, a, _, rfl, .inl (SqL.of ha), _, _, rfl, rfl, _, _, rfl, ?_⟩
    rw [ints_len]
    obtain ⟨m, em, hm0, hmd⟩ : ∃ m, moreE (n, gs) d = m ∧ 0 ≤ m ∧ d ≤ gs.length + m := ⟨_, rfl, more_ok⟩
    have em2 : (if 0 < d - (gs.length : Nat) then d - (gs.length : Nat) else 0) = m := em
    rw [em2]
    have mle : m ≤ 10000 := by
      revert em2
      split <;> omega
    -- upper = gives + list(range(needs + 1, needs + more + 1))
    refine ⟨_, rfl, _, rfl, _, _, rfl, rfl, _, rfl, _, rfl, _, _, rfl, rfl, _, _, rfl, rfl, _, _, rfl, rfl, RgOk.of_le (by omega) (by omega) (by omega) (by omega), fun l hl => ?_⟩
    rw [rgV_map]
    have h3 := h2.mkInts (ns := rg (n + 1) (n + m + 1)) hl
    obtain ⟨hl1, _⟩ := h3.putInts
    have lr := rg_length (n + 1) (n + m + 1)
    refine ⟨a, l, _, _, rfl, rfl, same_upd hl _ _ ha, hl1, szle (by rw [ints_len, ints_len]; omega), fun o ho => ?_⟩
    rw [← List.map_append]
    have h4 := h3.mkInts (ns := upE (n, gs) m) ho
    -- return least_of(needs + more, [upper[spot - 1] for spot in later] + upper[deep:])
    obtain ⟨b', e', hb4⟩ := h4.rints (v := .ref b) (ns := ls) (.fz (by walk_at "mem"))
    cases e'
    have ul := up_len (e := (n, gs)) hm0
    have ule : ((upE (n, gs) m).length : Int) = gs.length + m := ul
    refine ⟨_, rfl, _, rfl, _, _, rfl, rfl, _, rfl, b, rfl, ⟨_, SqL.of hb4⟩, fun Dl hD => ?_⟩
    refine lc_map (fun x => (upE (n, gs) m).getD (x - 1).toNat 0) h4 hD (fun _ => (.fz (by walk_at "mem"))) (by omega) (fun x hxm gs' H1 h5 R hR => ?_) (fun H1 h5 => ?_)
    · obtain ⟨o', e, ho1⟩ := h5.rints (v := .ref o) (ns := upE (n, gs) m) (.ow (by walk_at "mem"))
      cases e
      have b1 := eg.ge x hxm
      have b2 : x ≤ d := eg.le x hxm
      have e : (upE (n, gs) m)[(x - 1).toNat]? = some (upE (n, gs) m)[(x - 1).toNat] := List.getElem?_eq_getElem (by omega)
      refine ⟨_, rfl, _, rfl, _, _, rfl, rfl, o, _, x - 1, _, rfl, rfl, SqL.of ho1, at_nat (k := (x - 1).toNat) (by omega) (ints_at e), ?_⟩
      rw [List.getD_eq_getElem?_getD, e] at hR
      exact hR
    · obtain ⟨o', e, ho1⟩ := h5.rints (v := .ref o) (ns := upE (n, gs) m) (.ow (by walk_at "mem"))
      cases e
      refine ⟨_, rfl, _, rfl, _, rfl, o, _, rfl, SqL.of ho1, fun c hc => ?_⟩
      obtain ⟨e, rfl⟩ : ∃ e : Nat, d = (e : Int) := ⟨d.toNat, by omega⟩
      rw [cutV_from, ← List.map_drop]
      have h6 := h5.mkInts (ns := (upE (n, gs) m).drop e) hc
      obtain ⟨hc1, _⟩ := h6.putInts
      obtain ⟨hD1, _⟩ := h5.putInts
      have ldo : (ls.map (fun x => (upE (n, gs) m).getD (x - 1).toNat 0) ++ (upE (n, gs) m).drop e).length ≤ 100000 := by
        rw [List.length_append, List.length_map, List.length_drop]
        omega
      refine ⟨Dl, c, _, _, rfl, rfl, same_upd hc _ _ hD1, hc1, szle (by rw [ints_len, ints_len, ← List.length_append]; omega), fun z hz => ?_⟩
      rw [← List.map_append]
      have h7 := h6.mkInts (ns := ls.map (fun x => (upE (n, gs) m).getD (x - 1).toNat 0) ++ (upE (n, gs) m).drop e) hz
      have ce := cE_eff (m := m) ef eg hm0 hmd
      refine h7.call (vs := [.int (n + m), .ref z]) (.cons (.int _) (.cons (.ow (by walk_at "mem")) .nil)) ⟨n + m, ls.map (fun x => (upE (n, gs) m).getD (x - 1).toNat 0) ++ (upE (n, gs) m).drop e, rfl, ce.ge, by omega, fun v H6 h8 => ?_⟩
      have ej : leastE (n + m) (ls.map (fun x => (upE (n, gs) m).getD (x - 1).toNat 0) ++ (upE (n, gs) m).drop e) = joinE (n, gs) ((e : Int), ls) := by
        unfold joinE
        show _ = leastE (cE (n, gs) ((e : Int), ls) (moreE (n, gs) (e : Int))).1 _
        rw [em]
        rfl
      rw [ej] at h8
      obtain ⟨sm, nw⟩ := h8.leave
      exact k _ _ _ q sm nw
def w_power_of : Tw := fun ds Q => ∃ n gs k, ds = [dE (n, gs), .int k] ∧ Eff (n, gs) ∧ Lst (n, gs) ∧ 0 ≤ k ∧ k ≤ 100 ∧ n ≤ 60 ∧ gs.length ≤ 60 ∧ Q (dE (powE (n, gs) k.toNat))
theorem ar_power_of : ∀ ds G, w_power_of ds G → ds.length = 2 := by
  rintro ds G ⟨n, gs, k, rfl, _⟩
  rfl
def kr_power_of_1 : KS := (kIfS (kTest (kOp (vEq false) (kOp (vI noC fun i j => Builtin.bitAnd i j) (kOp (vI (fun _ j => 0 ≤ j) fun i j => i / 2 ^ j.toNat) (kVar 1) (kVar 3)) (kC (.int 1))) (kC (.int 1))))
  (kAsg (kCallT w_join_of 2 (kCons (kVar 2) (kCons (kVar 0) kNil))) (kgName 2))
  kNext)
def kb_power_of_2 : KS := (kSeq (kAsg (kCallT w_join_of 2 (kCons (kVar 2) (kCons (kVar 2) kNil))) (kgName 2))
  kr_power_of_1)
def kr_power_of_3 : KS := (kRet (kMov 2))
def kr_power_of_4 : KS := (kSeq (kFor (kRngD (kOp (vI noC fun i j => i - j) (kUn vBits (kVar 1)) (kC (.int 1))) (kUn vNeg (kC (.int 1))) (kUn vNeg (kC (.int 1)))) (kgName 3) kb_power_of_2)
  kr_power_of_3)
def k_power_of : KS := (kSeq (kAsg (kLit (.tuple [(.int 0), (.list [])])) (kgName 2))
  kr_power_of_4)
local macro_rules | `(tactic| walk_at "go") => `(tactic| ((first | unfold kr_power_of_1 | unfold kr_power_of_3 | unfold kr_power_of_4); walk_at "ev"))
theorem bits_lt {k : Int} (h : 0 ≤ k) : k < 2 ^ Builtin.Int.intBits k := by
  have e1 : k.natAbs < 2 ^ (Builtin.Int.intBits k) := by
    unfold Builtin.Int.intBits
    split
    · rename_i z
      have : k = 0 := by simpa using z
      subst this
      decide
    · exact Nat.lt_log2_self
  have e2 : ((2 ^ Builtin.Int.intBits k : Nat) : Int) = 2 ^ Builtin.Int.intBits k := by simp
  omega
theorem val_power_of : ∀ ds G, w_power_of ds G → k_power_of ⟨ds.map Sl.fz ++ [.jk, .jk], [], 0⟩ (edT G) := by
  rintro ds Gq ⟨n, gs, k, rfl, ef, lf, k0, k1, n1, l1, q⟩
  have bl := bits_lt k0
  have bs : Builtin.Int.intBits k ≤ 64 := by
    have := PySem.Flt.log2_lt_of (n := k.natAbs) (k := 60) (by decide) (by omega)
    unfold Builtin.Int.intBits
    split <;> omega
  obtain ⟨B, hB⟩ : ∃ B, Builtin.Int.intBits k = B := ⟨_, rfl⟩
  rw [hB] at bl bs
  unfold k_power_of
  walk_at "ev"
  walk_at "go"
  rw [hB]
  refine ⟨⟨by omega, by omega, by omega, by omega⟩, ?_⟩
  have lr := rgD_len ((B : Int) - 1) (-1)
  have lr' : (rgD ((B : Int) - 1) (-1)).length = B := by rw [lr]; omega
  -- behind j turns: the upper j bits
  refine forL_ints (rgD ((B : Int) - 1) (-1)) (fun pre γ => ∃ x, γ = ⟨[.fz (dE (n, gs)), .fz (.int k), .ow true (dE (powE (n, gs) (k / 2 ^ (B - pre.length)).toNat)), x], [], 0⟩) (fun pre x post γ N hl ht hP hN => ?_) (fun γ ht hP => ?_) _ rfl ⟨.jk, ?_⟩
  · obtain ⟨y, rfl⟩ := hP
    have hlen := congrArg List.length hl
    rw [lr', List.length_append, List.length_cons] at hlen
    have hx : x = ((B - pre.length - 1 : Nat) : Int) := by
      have e1 : (rgD ((B : Int) - 1) (-1))[pre.length]? = some x := by rw [hl]; simp
      unfold rgD at e1
      rw [List.getElem?_map, List.getElem?_range (by omega)] at e1
      have := Option.some.inj e1
      dsimp only at this
      omega
    obtain ⟨b, hb⟩ : ∃ b, B - pre.length - 1 = b := ⟨_, rfl⟩
    have hb1 : B - pre.length = b + 1 := by omega
    rw [hb] at hx
    subst hx
    rw [hb1]
    obtain ⟨m, hm⟩ : ∃ m : Nat, (k / 2 ^ (b + 1)).toNat = m := ⟨_, rfl⟩
    have kd : k / 2 ^ b = 2 * (k / 2 ^ (b + 1)) + (k / 2 ^ b) % 2 := by
      have e1 : (2 : Int) ^ (b + 1) = 2 ^ b * 2 := by rw [Int.pow_succ]
      rw [e1, ← Int.ediv_ediv_of_nonneg (Int.le_of_lt (Int.pow_pos (by decide)))]
      have := Int.mul_ediv_add_emod (k / 2 ^ b) 2
      omega
    have kp : 0 ≤ k / 2 ^ (b + 1) := Int.ediv_nonneg k0 (Int.le_of_lt (Int.pow_pos (by decide)))
    have kle : k / 2 ^ (b + 1) ≤ k := Int.ediv_le_self _ k0
    have km : k / 2 ^ (b + 1) = (m : Int) := by omega
    have p0 := pow_bd ef m
    have pe := pow_eff ef m
    have kle2 : k / 2 ^ b ≤ k := Int.ediv_le_self _ k0
    have m100 : m ≤ 50 := by
      have := Int.emod_nonneg (k / 2 ^ b) (show (2 : Int) ≠ 0 by decide)
      omega
    have q1 : (powE (n, gs) m).1 ≤ 3000 := Int.le_trans p0.1 (Int.le_trans (Int.mul_le_mul (show (m : Int) ≤ 50 by omega) n1 ef.nn (by decide)) (by decide))
    have q2 : (powE (n, gs) m).2.length ≤ 3000 := Nat.le_trans p0.2 (Nat.le_trans (Nat.mul_le_mul m100 l1) (by decide))
    have d2 := pow_add ef m m
    have p2 := join_bd pe pe
    rw [d2] at p2
    have pe2 := pow_eff ef (m + m)
    have j2 : joinE (powE (n, gs) (m + m)) (n, gs) = powE (n, gs) (m + m + 1) := rfl
    obtain ⟨⟨u, us⟩, eu⟩ : ∃ e, powE (n, gs) m = e := ⟨_, rfl⟩
    rw [hm]
    rw [eu] at d2 p2 pe q1 q2 ⊢
    dsimp only at q1 q2
    unfold kb_power_of_2
    walk_at "ev"
    refine ⟨u, us, u, us, rfl, pe, pe, by omega, by omega, by omega, by omega, ?_⟩
    rw [d2]
    have n100 : n ≤ 10000 := by omega
    obtain ⟨⟨w1, ws⟩, ew⟩ : ∃ e, powE (n, gs) (m + m) = e := ⟨_, rfl⟩
    rw [ew] at p2 pe2 j2 ⊢
    dsimp only at p2
    walk_at "ev"
    walk_at "go"
    refine ⟨by omega, ?_⟩
    have ebit : Builtin.bitAnd (k / 2 ^ ((b : Nat) : Int).toNat) 1 = (k / 2 ^ b) % 2 := by
      rw [bitAnd_m1]
      rfl
    rw [ebit]
    have fin : ∀ (f : Int × List Int), f = powE (n, gs) (k / 2 ^ b).toNat → N ⟨[.fz (dE (n, gs)), .fz (.int k), .ow true (dE f), .fz (.int (b : Nat))], [], 0⟩ := fun f efq => hN _ rfl ⟨.fz (.int (b : Nat)), by
      have e3 : B - (pre ++ [((b : Nat) : Int)]).length = b := by rw [List.length_append, List.length_singleton]; omega
      rw [e3, ← efq]⟩
    refine iteB (fun c => ?_) (fun c => ?_)
    · have c := of_decide_eq_true c
      refine ⟨w1, ws, n, gs, rfl, pe2, ef, by omega, by omega, by omega, by omega, ?_⟩
      walk_at "ev"
      refine fin _ ?_
      rw [j2]
      congr 1
      omega
    · have c := of_decide_eq_false c
      refine fin (w1, ws) ?_
      rw [← ew]
      congr 1
      have := Int.emod_nonneg (k / 2 ^ b) (show (2 : Int) ≠ 0 by decide)
      have := Int.emod_lt_of_pos (k / 2 ^ b) (show (0 : Int) < 2 by decide)
      omega
  · obtain ⟨y, rfl⟩ := hP
    unfold kr_power_of_3
    walk_at "ev"
    rw [lr', Nat.sub_self] at *
    have e1 : k / 2 ^ 0 = k := by simp
    rw [e1]
    exact q
  · have e1 : k / 2 ^ (B - ([] : List Int).length) = 0 := by
      show k / 2 ^ B = 0
      exact Int.ediv_eq_zero_of_lt k0 bl
    rw [e1]
    rfl
theorem ok_power_of (p : Prog K mg) : FnG P w K mg base CX0 3 p.f_power_of p.fd_power_of ["one", "number"] (spT w_power_of) :=
  okT p.d_power_of.F sc_power_of (by decide) ar_power_of (fun cdv A outer s H E hg hr => ⟨_, (pss_cons (ps_set (i := 2) sc_power_of.nd rfl (Or.inl rfl) (pe_tup (pa_cons pe_int (pa_cons (pe_lst pa_nil) pa_nil))))
      (pss_cons (ps_for PassesOwn.never rfl (pi_range3 (by rfl) p.blt.range (pa_cons (pe_op op_sub (pe_bits (pv 1)) pe_int) (pa_cons (pe_un un_neg pe_int) (pa_cons (pe_un un_neg pe_int) pa_nil)))) (pg_name (i := 3) sc_power_of.nd rfl (Or.inl rfl))
      (pss_cons (ps_set (i := 2) sc_power_of.nd rfl (Or.inl rfl) (pe_callG ((ok_join_of p).mono (by decide)) hg hr (by rfl) p.d_join_of.gl p.d_join_of.kp p.d_join_of.bd pass0 (pa_cons (pv 2) (pa_cons (pv 2) pa_nil))))
      (pss_one (ps_if (pt_cmpR op_eq (pe_op op_and (pe_op op_shr (pv 1) (pv 3)) pe_int) pe_int (nomark _))
      (pss_one (ps_set (i := 2) sc_power_of.nd rfl (Or.inl rfl) (pe_callG ((ok_join_of p).mono (by decide)) hg hr (by rfl) p.d_join_of.gl p.d_join_of.kp p.d_join_of.bd pass0 (pa_cons (pv 2) (pa_cons (pv 0) pa_nil))))) pss_nil))))
      (pss_one (ps_ret (pv 2))))),
    fun C xc => (so_seq (so_asg (so_lit_tup (so_lits_cons (so_lit_c (sca_int _) rfl) (so_lits_cons (so_lit_lst so_lits_nil) so_lits_nil))) (so_gname (i := 2)))
      (so_seq (so_for (so_rngD (so_op sr_I0 (so_bits (so_var (i := 1))) (so_c (sca_int _))) (so_neg (so_c (sca_int _))) (so_neg (so_c (sca_int _)))) (so_gname (i := 3))
      (so_seq (so_asg (so_callT (so_cons (so_var (i := 2)) (so_cons (so_var (i := 2)) so_nil))) (so_gname (i := 2)))
      (so_ifS (so_test (so_op sr_eq (so_op sr_I0 (so_op sr_I (so_var (i := 1)) (so_var (i := 3))) (so_c (sca_int _))) (so_c (sca_int _))))
      (so_asg (so_callT (so_cons (so_var (i := 2)) (so_cons (so_var (i := 0)) so_nil))) (so_gname (i := 2))) so_next)))
      (so_ret (so_mov (i := 2)))))⟩) val_power_of
def w_goes_on : Tw := fun ds Q => ∃ (ns : List Int) (s : Nat) (c : Int), ds = [dI ns, .int s, .int c] ∧ s ≤ ns.length ∧ ns.length ≤ 10000 ∧ ∀ b : Bool, (b = true ↔ ∀ i : Nat, i + s < ns.length → ns.getD (i + s) 0 = ns.getD i 0 + c) → Q (.bool b)
theorem ar_goes_on : ∀ ds G, w_goes_on ds G → ds.length = 3 := by
  rintro ds G ⟨ns, s, c, rfl, _⟩
  rfl
def k_goes_on : KS := (kRet (kF 1 (vAll fun bs => bs.all id) (kCons (kLc (kRng1 (kOp (vI noC fun i j => i - j) (kF 1 vLen (kCons (kVar 0) kNil)) (kVar 1))) 3 kYes (kOp (vEq false) (kIx true (kVar 0) (kOp (vI noC fun i j => i + j) (kVar 3) (kVar 1))) (kOp (vI noC fun i j => i + j) (kIx true (kVar 0) (kVar 3)) (kVar 2)))) kNil)))
theorem lc_boolsN {j : Nat} {ke : KE} {q : VSt → Prop} {sl T : List Sl} {n : Int} (l : List Int) (h : Int → Bool) (hj : (sl.set j .jk) = sl) (na : noAl j T = true) (len : l.length < 10000000)
    (step : ∀ x ∈ l, ∀ acc (Y : VSt → Prop), Y ⟨sl.set j (.fz (.int x)), .fz (.bool (h x)) :: .ow true (.list acc) :: T, n⟩ → ke ⟨sl.set j (.fz (.int x)), .ow true (.list acc) :: T, n⟩ Y)
    (fin : q ⟨sl, .ow true (.list ((l.map h).map PyData.bool)) :: T, n⟩) : lcL j kYes ke (l.map PyData.int) ⟨sl, .ow true (.list []) :: T, n⟩ q := by
  refine lc_inv (j := j) true l PyData.int (fun pre acc n' => acc = (pre.map h).map PyData.bool ∧ n' = n ∧ ∃ post, l = pre ++ post) hj na (fun pre acc n' hp => ?_) (fun pre x post acc n' Y X hl hp hY hX => ?_) (fun acc n' hp => ?_) [] n ⟨rfl, rfl, l, rfl⟩
  · obtain ⟨rfl, _, post, rfl⟩ := hp
    rw [List.length_map, List.length_map]
    rw [List.length_append] at len
    omega
  · obtain ⟨rfl, rfl, _⟩ := hp
    refine ⟨rfl, ?_⟩
    rw [if_pos rfl]
    refine step x (by rw [hl]; simp) _ _ (hY _ true (.bool (h x)) n' rfl rfl ⟨by simp, rfl, post, by rw [hl]; simp⟩)
  · obtain ⟨rfl, rfl, _⟩ := hp
    exact fin
theorem val_goes_on : ∀ ds G, w_goes_on ds G → k_goes_on ⟨ds.map Sl.fz ++ [.jk], [], 0⟩ (edT G) := by
  rintro ds Gq ⟨ns, s, c, rfl, hs, hl, q⟩
  unfold k_goes_on
  walk_at "ev"
  refine ⟨by omega, ?_⟩
  refine lc_boolsN (rg 0 ((ns.length : Int) - s)) (fun x => decide (ns.getD (x + s).toNat 0 = ns.getD x.toNat 0 + c)) rfl rfl (by rw [rg_length]; omega) (fun x hx acc Y hY => ?_) ?_
  · have hx := mem_rg.mp hx
    walk_at "ev"
    refine ixD_ints (by omega) (by omega) ?_
    refine ixD_ints (by omega) (by omega) ?_
    walk_at "ev"
    exact hY
  · walk_at "ev"
    refine q _ ?_
    simp only [List.all_map, List.all_eq_true, Function.comp, id, mem_rg, decide_eq_true_eq]
    constructor
    · intro h i hi
      have := h i (by omega)
      rwa [Int.toNat_natCast, show ((i : Int) + s).toNat = i + s by omega] at this
    · intro h x hx
      have := h x.toNat (by omega)
      rwa [show (x + s).toNat = x.toNat + s by omega]
theorem ok_goes_on (p : Prog K mg) : FnG P w K mg base CX0 1 p.f_goes_on p.fd_goes_on ["ring", "size", "step"] (spT w_goes_on) :=
  okT p.d_goes_on.F sc_goes_on (by decide) ar_goes_on (fun cdv A outer s H E hg hr => ⟨_, (pss_one (ps_ret (pe_callB (cr_all rfl) (by rfl) p.blt.all (by decide +kernel) (pa_cons (pe_lc (own := [("rank", 3)]) (g := gName 3) (tt := tYes) rfl sc_goes_on.nd (pi_range1 (by rfl) p.blt.range (pa_cons (pe_op op_sub (pe_callB call_len_seq (by rfl) p.blt.len PySem.boot_len (pa_cons (pv 0) pa_nil)) (pv 1)) pa_nil)) (blkOk_by (N := N_goes_on) (sc := defScope s_goes_on) (by decide +kernel)) (fun _ _ _ _ _ => pg_name (i := 3) sc_goes_on.nd rfl (Or.inl rfl)) (fun _ _ _ _ _ => pts_nil) (fun _ _ _ _ _ => (pe_cmpR op_eq (pe_ix (show IxR _ (rIxL K) from ix_list) (pv 0) (pe_op op_add (pv 3) (pv 1)) (fun _ _ => rfl)) (pe_op op_add (pe_ix (show IxR _ (rIxL K) from ix_list) (pv 0) (pv 3) (fun _ _ => rfl)) (pv 2)) (nomark _)))) pa_nil)))),
    fun C xc => (so_ret (so_f sc_bools (so_cons (so_lc (so_rng1 (so_op sr_I0 (so_f sc_len (so_cons (so_var (i := 0)) so_nil)) (so_var (i := 1)))) so_yes (so_op sr_eq (so_ixL (so_var (i := 0)) (so_op sr_I0 (so_var (i := 3)) (so_var (i := 1)))) (so_op sr_I0 (so_ixL (so_var (i := 0)) (so_var (i := 3))) (so_var (i := 2))))) so_nil)))⟩) val_goes_on
def w_told_way : Tw := fun ds Q => ∃ (v : Nat → Int) (N T P : Nat) (c : Int), ds = [dI ((List.range N).map v), .int T, .int P, .int c] ∧ T + P ≤ N ∧ Per v T P c ∧ 1 ≤ P ∧ P ≤ 1000 ∧ T ≤ 3000 ∧ -(2 ^ 60) ≤ c ∧ c ≤ 2 ^ 60 ∧
  ∀ (h L : Nat) (g : Int), Tell v h L g → h ≤ T → L ≤ P → Q (.tuple [dI ((List.range h).map v), dI ((List.range L).map fun j => v (h + j)), .int g])
theorem ar_told_way : ∀ ds G, w_told_way ds G → ds.length = 4 := by
  rintro ds G ⟨v, N, T, P, c, rfl, _⟩
  rfl
def kr_told_way_1 : KS := (kAug 5 (fun i j => i + j) (kC (.int 1)))
def kr_told_way_2 : KS := (kSeq (kIfS (kTAnd (kTest (kOp (vEq false) (kOp (vI (fun _ j => 0 < j) fun i j => i % j) (kVar 2) (kVar 5)) (kC (.int 0)))) (kTAnd (kTest (kOp (vEq false) (kVar 7) (kC (.int 0)))) (kTest (kCallT w_goes_on 3 (kCons (kVar 4) (kCons (kVar 5) (kCons (kVar 6) kNil)))))))
  kBreak
  kNext)
  kr_told_way_1)
def kb_told_way_3 : KS := (kSeq (kAsg (kDivmod (kCons (kOp (vI CMulB fun i j => i * j) (kVar 3) (kVar 5)) (kCons (kVar 2) kNil))) (kgTup 2 (kgCons (kgName 6) (kgCons (kgName 7) kgNil))))
  kr_told_way_2)
def kb_told_way_4 : KS := (kAsg (kCat (kMk true 1 (kCons (kPop (kVar 9)) kNil)) (kSl (kVar 4) kNo (kPart (kUn vNeg (kC (.int 1)))))) (kgName 4))
def kr_told_way_5 : KS := (kRet (kMk false 3 (kCons (kMov 9) (kCons (kMov 4) (kCons (kVar 8) kNil)))))
def kr_told_way_6 : KS := (kSeq (kWhile (kTAnd (kTest (kOp (vEqD true) (kVar 9) (kLit (.list [])))) (kTest (kOp (vEq false) (kOp (vI noC fun i j => i + j) (kIx true (kVar 9) (kUn vNeg (kC (.int 1)))) (kVar 8)) (kIx true (kVar 4) (kUn vNeg (kC (.int 1))))))) kb_told_way_4)
  kr_told_way_5)
def kr_told_way_7 : KS := (kSeq (kPar3 8 4 9 (kCons (kOp (vI CDivW fun i j => i / j) (kOp (vI CMulB fun i j => i * j) (kVar 3) (kVar 5)) (kVar 2)) (kCons (kSl (kVar 4) kNo (kPart (kVar 5))) (kCons (kSl (kVar 0) kNo (kPart (kVar 1))) kNil))))
  kr_told_way_6)
def kr_told_way_8 : KS := (kSeq (kWhile (kTest (kOp (vB fun i j => decide (i < j)) (kVar 5) (kVar 2))) kb_told_way_3)
  kr_told_way_7)
def k_told_way : KS := (kSeq (kPar 4 5 (kCons (kSl (kVar 0) (kPart (kVar 1)) (kPart (kOp (vI noC fun i j => i + j) (kVar 1) (kVar 2)))) (kCons (kC (.int 1)) kNil)))
  kr_told_way_8)
local macro_rules | `(tactic| walk_at "go") => `(tactic| ((first | unfold kr_told_way_1 | unfold kr_told_way_2 | unfold kr_told_way_5 | unfold kr_told_way_6 | unfold kr_told_way_7 | unfold kr_told_way_8); walk_at "ev"))
theorem ring_back {v : Nat → Int} {k s : Nat} (hs : 1 ≤ s) : v k :: ((List.range s).map fun j => v (k + 1 + j)).dropLast = (List.range s).map fun j => v (k + j) := by
  obtain ⟨t, rfl⟩ : ∃ t, s = t + 1 := ⟨s - 1, by omega⟩
  rw [List.range_succ, List.map_append, List.map_singleton, List.dropLast_concat, ← List.range_succ, List.range_succ_eq_map, List.map_cons, List.map_map]
  congr 1
  refine List.map_congr_left fun j _ => ?_
  show v (k + 1 + j) = v (k + (j + 1))
  congr 1
  omega
theorem erase_end {v : Nat → Int} {k : Nat} : (((List.range (k + 1)).map v).map PyData.int).eraseIdx k = ((List.range k).map v).map PyData.int := by
  rw [List.range_succ, List.map_append, List.map_append, List.eraseIdx_append_of_length_le (by simp)]
  simp
theorem val_told_way : ∀ ds G, w_told_way ds G → k_told_way ⟨ds.map Sl.fz ++ [.jk, .jk, .jk, .jk, .jk, .jk], [], 0⟩ (edT G) := by
  rintro ds Gq ⟨v, N, T, P, c, rfl, hN, hp, p0, p1, t1, c0, c1, q⟩
  unfold k_told_way
  walk_at "ev"
  rw [cut_rm hN]
  walk_at "ev"
  obtain ⟨nums, hnums⟩ : ∃ d, dI ((List.range N).map v) = d := ⟨_, rfl⟩
  obtain ⟨ring, hring⟩ : ∃ r, (List.range P).map (fun j => v (T + j)) = r := ⟨_, rfl⟩
  have rl : ring.length = P := by rw [← hring]; simp
  have rg0 : ∀ i : Nat, i < P → ring.getD i 0 = v (T + i) := fun i hi => by
    rw [← hring]
    exact rm_get (v := fun j => v (T + j)) hi
  have e60 : (2 : Int) ^ 60 = 1152921504606846976 := by decide
  rw [e60] at c0 c1
  -- behind the first loop
  have rest : ∀ (s : Nat) (a b : Sl), 1 ≤ s → s ≤ P → Per v T s (c * s / P) → (∀ d : Nat, 1 ≤ d → d < s → d ∣ P → ∀ c', ¬ Per v T d c') → kr_told_way_7 ⟨[.fz (dI ((List.range N).map v)), .fz (.int T), .fz (.int P), .fz (.int c), .ow true (dI ring), .fz (.int s), a, b, .jk, .jk], [], 0⟩ (edT Gq) := fun s a b s1 sP hs no => by
    walk_at "go"
    have cs : -(1152921504606846976 * 1000) ≤ c * s ∧ c * s ≤ 1152921504606846976 * 1000 := by
      have a1 : c * s ≤ 1152921504606846976 * s := Int.mul_le_mul_of_nonneg_right c1 (by omega)
      have a2 : -1152921504606846976 * (s : Int) ≤ c * s := Int.mul_le_mul_of_nonneg_right c0 (by omega)
      omega
    refine ⟨cmulB_of (by omega) (by omega), wide_div (b := 20) (by omega) (by omega) (by decide) (by decide), ?_⟩
    obtain ⟨g, hg⟩ : ∃ g, c * s / P = g := ⟨_, rfl⟩
    rw [hg] at hs ⊢
    rw [cut_rm0 (by omega), ← hring, cut_rm0 (v := fun j => v (T + j)) sP]
    walk_at "ev"
    have least := Per.least hp p0 no
    unfold kr_told_way_6
    refine ⟨fun m γ => ∃ h : Nat, γ = ⟨[.fz (dI ((List.range N).map v)), .fz (.int T), .fz (.int P), .fz (.int c), .ow true (dI ((List.range s).map fun j => v (h + j))), .fz (.int s), a, b, .fz (.int g), .ow true (dI ((List.range h).map v))], [], 0⟩ ∧ m = h ∧ h ≤ T ∧ Per v h s g, ⟨_, T, rfl, rfl, Nat.le_refl _, hs⟩, ?_⟩
    rintro m γ ⟨h, rfl, em, hT, hh⟩
    have out : (0 < h → v (h - 1 + s) ≠ v (h - 1) + g) → kr_told_way_5 ⟨[.fz (dI ((List.range N).map v)), .fz (.int T), .fz (.int P), .fz (.int c), .ow true (dI ((List.range s).map fun j => v (h + j))), .fz (.int s), a, b, .fz (.int g), .ow true (dI ((List.range h).map v))], [], 0⟩ (edT Gq) := fun ho => by
      walk_at "go"
      exact q h s g ⟨s1, hh, least, ho⟩ hT sP
    walk_at "ev"
    refine ⟨shaped_ints _, rfl, ?_⟩
    rw [eqv_il0]
    refine iteB (fun c1 => ?_) (fun c1 => out fun h0 => ?_)
    · have h0 : 1 ≤ h := by
        cases h with
        | zero => simp at c1
        | succ h => omega
      refine ixD_last (by rw [List.length_map, List.length_range]; exact h0) ?_
      rw [List.length_map, List.length_range, rm_get (by omega)]
      walk_at "ev"
      refine ixD_last (by rw [List.length_map, List.length_range]; exact s1) ?_
      rw [List.length_map, List.length_range, rm_get (v := fun j => v (h + j)) (by omega)]
      walk_at "ev"
      refine iteB (fun c2 => ?_) (fun c2 => out fun h0 e => of_decide_eq_false c2 ?_)
      · have c2 := of_decide_eq_true c2
        unfold kb_told_way_4
        walk_at "ev"
        obtain ⟨k, rfl⟩ : ∃ k, h = k + 1 := ⟨h - 1, by omega⟩
        rw [List.length_range, show ((k + 1 - 1 : Nat) : Int).toNat = k by omega, erase_end]
        have e1 : (((List.range (k + 1)).map v).map PyData.int)[k]? = some (.int (v k)) := by simp
        rw [e1]
        have e2 := ring_back (v := v) (k := k) s1
        have dl : ((List.range s).map fun j => v (k + 1 + j)).dropLast.length ≤ 1000 := by rw [List.length_dropLast, List.length_map, List.length_range]; omega
        walk_at "ev"
        refine ⟨⟨⟨by omega, by omega, by omega⟩, by omega, k, by omega, k, ?_, rfl, by omega, fun i hi => ?_⟩, by simp⟩
        · rw [← e2]
          rfl
        · by_cases hk : i = k
          · subst hk
            rw [show i + 1 + (s - 1) = i + s by omega, show i + 1 - 1 = i by omega] at c2
            exact c2.symm
          · exact hh i (by omega)
      · rw [← e]
        congr 1
        omega
    · cases h with
      | zero => omega
      | succ h => simp at c1
  unfold kr_told_way_8
  refine ⟨fun m γ => ∃ (s : Nat) (a b : Sl), γ = ⟨[.fz (dI ((List.range N).map v)), .fz (.int T), .fz (.int P), .fz (.int c), .ow true (dI ring), .fz (.int s), a, b, .jk, .jk], [], 0⟩ ∧ m = P - s ∧ 1 ≤ s ∧ s ≤ P ∧ (∀ d : Nat, 1 ≤ d → d < s → d ∣ P → ∀ c', ¬ Per v T d c'), ⟨_, 1, .jk, .jk, by rw [← hring]; rfl, rfl, by omega, p0, fun d d1 d2 => by omega⟩, ?_⟩
  rintro m γ ⟨s, a, b, rfl, rfl, s1, sP, no⟩
  walk_at "ev"
  refine iteB (fun cc => ?_) (fun cc => ?_)
  · have cc := of_decide_eq_true cc
    unfold kb_told_way_3
    walk_at "ev"
    have cs : -(1152921504606846976 * 1000) ≤ c * s ∧ c * s ≤ 1152921504606846976 * 1000 := by
      have a1 : c * s ≤ 1152921504606846976 * s := Int.mul_le_mul_of_nonneg_right c1 (by omega)
      have a2 : -1152921504606846976 * (s : Int) ≤ c * s := Int.mul_le_mul_of_nonneg_right c0 (by omega)
      omega
    refine ⟨cmulB_of (by omega) (by omega), ⟨by omega, by omega⟩, ?_⟩
    have next : ∀ De : KEd, (∀ γ2, (∃ m', m' < P - s ∧ ∃ (s : Nat) (a b : Sl), γ2 = (⟨[.fz (dI ((List.range N).map v)), .fz (.int T), .fz (.int P), .fz (.int c), .ow true (dI ring), .fz (.int s), a, b, .jk, .jk], [], 0⟩ : VSt) ∧ m' = P - s ∧ 1 ≤ s ∧ s ≤ P ∧ (∀ d : Nat, 1 ≤ d → d < s → d ∣ P → ∀ c', ¬ Per v T d c')) → De.nx γ2) → (s ∣ P → ∀ c', ¬ Per v T s c') → kr_told_way_1 ⟨[.fz (dI ((List.range N).map v)), .fz (.int T), .fz (.int P), .fz (.int c), .ow true (dI ring), .fz (.int s), .fz (.int (c * s / P)), .fz (.int (c * s % P)), .jk, .jk], [], 0⟩ De := fun De hN no1 => by
      unfold kr_told_way_1
      walk_at "ev"
      refine hN _ ⟨P - (s + 1), by omega, s + 1, _, _, rfl, rfl, by omega, by omega, fun d d1 d2 dd c' => ?_⟩
      by_cases hd : d = s
      · subst hd
        exact no1 dd c'
      · exact no d d1 (by omega) dd c'
    have rh := hp.ring p0 (l := s) s1
    walk_at "go"
    refine ⟨by omega, ?_⟩
    refine iteB (fun d1 => ?_) (fun d1 => next _ (fun γ2 h => h) fun hd => ?_)
    · have d1 := of_decide_eq_true d1
      have dv : s ∣ P := by
        have : (P % s : Nat) = 0 := by omega
        exact Nat.dvd_of_mod_eq_zero this
      have rh := rh dv
      refine iteB (fun d2 => ?_) (fun d2 => next _ (fun γ2 h => h) fun hd c' hc => of_decide_eq_false d2 (rh.mp ⟨c', hc⟩).1)
      have d2 := of_decide_eq_true d2
      refine ⟨ring, s, c * s / P, rfl, by omega, by omega, fun bb hb => ?_⟩
      have hb : bb = true ↔ ∃ c', Per v T s c' := by
        rw [hb, rh, rl]
        constructor
        · intro z
          refine ⟨d2, fun i hi => ?_⟩
          have := z i hi
          rwa [rg0 _ hi, rg0 _ (by omega)] at this
        · rintro ⟨_, z⟩ i hi
          rw [rg0 _ hi, rg0 _ (by omega)]
          exact z i hi
      cases bb with
      | true =>
        walk_at "ev"
        obtain ⟨c', hc⟩ := hb.mp rfl
        refine rest s _ _ s1 sP ?_ no
        exact hp.grow p0 s1 dv hc
      | false =>
        walk_at "ev"
        refine next _ (fun γ2 h => h) fun hd c' hc => ?_
        have := hb.mpr ⟨c', hc⟩
        cases this
    · have d1 := of_decide_eq_false d1
      obtain ⟨m, rfl⟩ := hd
      exact absurd (by simp) d1
  · have cc := of_decide_eq_false cc
    have : s = P := by omega
    subst this
    refine rest s a b s1 (Nat.le_refl _) ?_ no
    rw [Int.mul_ediv_cancel _ (by omega)]
    exact hp
theorem ok_told_way (p : Prog K mg) : FnG P w K mg base CX0 2 p.f_told_way p.fd_told_way ["numbers", "tail", "every", "more"] (spT w_told_way) :=
  okT p.d_told_way.F sc_told_way (by decide) ar_told_way (fun cdv A outer s H E hg hr => ⟨_, (pss_cons (ps_par (i := 4) (j := 5) rfl sc_told_way.nd rfl rfl (by decide) rfl rfl (pa_cons (pe_slice sl_list (pv 0) (po_some (pv 1)) (po_some (pe_op op_add (pv 1) (pv 2)))) (pa_cons pe_int pa_nil)) (by rfl))
      (pss_cons (ps_while PassesOwn.never (pt_cmpR op_lt (pv 5) (pv 2) (nomark _))
      (pss_cons (ps_asg (pe_callB call_divmod (by rfl) p.blt.divmod (by decide +kernel) (pa_cons (pe_op op_mulB (pv 3) (pv 5)) (pa_cons (pv 2) pa_nil))) (pg_tup rfl (pgs_cons (pg_name (i := 6) sc_told_way.nd rfl (Or.inl rfl)) (pgs_cons (pg_name (i := 7) sc_told_way.nd rfl (Or.inl rfl)) pgs_nil))))
      (pss_cons (ps_if (PW.pt (pw_and (pt_cmpR op_eq (pe_op op_mod (pv 2) (pv 5)) pe_int (nomark _)) (pw_and (pt_cmpR op_eq (pv 7) pe_int (nomark _)) (pw_and1 (pt_val (pe_callG ((ok_goes_on p).mono (by decide)) hg hr (by rfl) p.d_goes_on.gl p.d_goes_on.kp p.d_goes_on.bd pass0 (pa_cons (pv 4) (pa_cons (pv 5) (pa_cons (pv 6) pa_nil)))))))))
      (pss_one ps_break) pss_nil)
      (pss_one (ps_aug (i := 5) sc_told_way.nd rfl (Or.inl rfl) pe_int ip_add)))))
      (pss_cons (ps_par3 (i := 8) (j := 4) (l := 9) rfl sc_told_way.nd rfl rfl rfl (by decide) (by decide) (by decide) rfl rfl rfl (pa_cons (pe_op op_fdivW (pe_op op_mulB (pv 3) (pv 5)) (pv 2)) (pa_cons (pe_slice sl_list (pv 4) po_none (po_some (pv 5))) (pa_cons (pe_slice sl_list (pv 0) po_none (po_some (pv 1))) pa_nil))) (by rfl))
      (pss_cons (ps_while PassesOwn.never (PW.pt (pw_and (pt_cmpR (op_neD hr.units) (pv 9) (pe_lst pa_nil) (nomark _)) (pw_and1 (pt_cmpR op_eq (pe_op op_add (pe_ix ix_list (pv 9) (pe_un un_neg pe_int) (fun _ _ => rfl)) (pv 8)) (pe_ix ix_list (pv 4) (pe_un un_neg pe_int) (fun _ _ => rfl)) (nomark _)))))
      (pss_one (ps_set (i := 4) sc_told_way.nd rfl (Or.inl rfl) (pe_op op_cat (pe_lst (pa_cons (pe_bm0 PySem.F.plainAttrs_list PySem.F.slot_list_pop PySem.F.type_list_pop mt_pop (pv 9)) pa_nil)) (pe_slice sl_list (pv 4) po_none (po_some (pe_un un_neg pe_int)))))))
      (pss_one (ps_ret (pe_tup (pa_cons (pv 9) (pa_cons (pv 4) (pa_cons (pv 8) pa_nil)))))))))),
    fun C xc => (so_seq (so_par (i := 4) (j := 5) (by decide) (so_cons (so_sl (so_var (i := 0)) (so_part (so_var (i := 1))) (so_part (so_op sr_I0 (so_var (i := 1)) (so_var (i := 2))))) (so_cons (so_c (sca_int _)) so_nil)))
      (so_seq (so_while (so_test (so_op sr_B (so_var (i := 5)) (so_var (i := 2))))
      (so_seq (so_asg (so_divmod (so_cons (so_op sr_I (so_var (i := 3)) (so_var (i := 5))) (so_cons (so_var (i := 2)) so_nil))) (so_gtup (so_gcons (so_gname (i := 6)) (so_gcons (so_gname (i := 7)) so_gnil))))
      (so_seq (so_ifS (so_tand (so_test (so_op sr_eq (so_op sr_I (so_var (i := 2)) (so_var (i := 5))) (so_c (sca_int _)))) (so_tand (so_test (so_op sr_eq (so_var (i := 7)) (so_c (sca_int _)))) (so_test (so_callT (so_cons (so_var (i := 4)) (so_cons (so_var (i := 5)) (so_cons (so_var (i := 6)) so_nil)))))))
      so_break so_next)
      (so_aug (i := 5) (so_c (sca_int _))))))
      (so_seq (so_par3 (i := 8) (j := 4) (l := 9) (by decide) (by decide) (by decide) (so_cons (so_op sr_I (so_op sr_I (so_var (i := 3)) (so_var (i := 5))) (so_var (i := 2))) (so_cons (so_sl (so_var (i := 4)) so_no (so_part (so_var (i := 5)))) (so_cons (so_sl (so_var (i := 0)) so_no (so_part (so_var (i := 1)))) so_nil))))
      (so_seq (so_while (so_tand (so_test (so_op sr_neD (so_var (i := 9)) (so_lit_lst so_lits_nil))) (so_test (so_op sr_eq (so_op sr_I0 (so_ixL (so_var (i := 9)) (so_neg (so_c (sca_int _)))) (so_var (i := 8))) (so_ixL (so_var (i := 4)) (so_neg (so_c (sca_int _)))))))
      (so_asg (so_cat (so_lst (so_cons (so_pop (so_var (i := 9))) so_nil)) (so_sl (so_var (i := 4)) so_no (so_part (so_neg (so_c (sca_int _)))))) (so_gname (i := 4))))
      (so_ret (so_tup (so_cons (so_mov (i := 9)) (so_cons (so_mov (i := 4)) (so_cons (so_var (i := 8)) so_nil)))))))))⟩) val_told_way
/-- the places of a walk, till one comes again or it runs off -/
def wkL (e : Int × List Int) (x : Int) (t : Nat) : List Int := (List.range t).map fun j => itE e j x
def w_walked_places : Tw := fun ds Q => ∃ n gs r, ds = [dE (n, gs), .int r] ∧ Eff (n, gs) ∧ 1 ≤ r ∧ r ≤ 1000 ∧ n ≤ 1000 ∧ gs.length ≤ 1000 ∧ ∀ t : Nat, t ≤ 1000 → (wkL (n, gs) r t).Nodup → (∀ j : Nat, j < t → itE (n, gs) j r ≤ 1000) →
  (∀ i : Nat, i < t → itE (n, gs) t r = itE (n, gs) i r → Q (.tuple [dI (wkL (n, gs) r t), .int i, .int (t - i), .int 0])) ∧
  ((gs.length : Int) ≤ n → (gs.length : Int) < itE (n, gs) t r → Q (.tuple [dI (wkL (n, gs) r (t + 1)), .int t, .int 1, .int (n - gs.length)]))
theorem ar_walked_places : ∀ ds G, w_walked_places ds G → ds.length = 2 := by
  rintro ds G ⟨n, gs, r, rfl, _⟩
  rfl
def kr_walked_places_1 : KS := (kAsg (kCallT w_came_from 2 (kCons (kVar 0) (kCons (kVar 1) kNil))) (kgName 1))
def kr_walked_places_2 : KS := (kSeq (kDrop (kApp (kVar 6) (kVar 1)))
  kr_walked_places_1)
def kb_walked_places_3 : KS := (kSeq (kDPut 7 (kF 1 vLen (kCons (kVar 6) kNil)) (kVar 1))
  kr_walked_places_2)
def kr_walked_places_4 : KS := (kRet (kMk false 4 (kCons (kCat (kVar 6) (kMk true 1 (kCons (kVar 1) kNil))) (kCons (kF 1 vLen (kCons (kVar 6) kNil)) (kCons (kC (.int 1)) (kCons (kVar 5) kNil))))))
def kr_walked_places_5 : KS := (kSeq (kIfS (kTest (kDIn false (kVar 1) 7))
  (kRet (kMk false 4 (kSink 3 6 (kCons (kVar 6) (kCons (kDGet 7 (kVar 1)) (kCons (kOp (vI noC fun i j => i - j) (kF 1 vLen (kCons (kVar 6) kNil)) (kDGet 7 (kVar 1))) (kCons (kC (.int 0)) kNil)))))))
  kNext)
  kr_walked_places_4)
def kr_walked_places_6 : KS := (kSeq (kWhile (kTAnd (kTest (kDIn true (kVar 1) 7)) (kTOr (kTest (kOp (vB fun i j => decide (i ≤ j)) (kVar 1) (kVar 4))) (kTest (kOp (vB fun i j => decide (i < j)) (kVar 5) (kC (.int 0)))))) kb_walked_places_3)
  kr_walked_places_5)
def kr_walked_places_7 : KS := (kSeq (kPar 6 7 (kCons (kLit (.list [])) (kCons kDNew kNil)))
  kr_walked_places_6)
def kr_walked_places_8 : KS := (kSeq (kPar 4 5 (kCons (kF 1 vLen (kCons (kVar 3) kNil)) (kCons (kOp (vI noC fun i j => i - j) (kVar 2) (kF 1 vLen (kCons (kVar 3) kNil))) kNil)))
  kr_walked_places_7)
def k_walked_places : KS := (kSeq (kAsg (kFrz 0) (kgTup 2 (kgCons (kgName 2) (kgCons (kgName 3) kgNil))))
  kr_walked_places_8)
local macro_rules | `(tactic| walk_at "go") => `(tactic| ((first | unfold kr_walked_places_1 | unfold kr_walked_places_2 | unfold kr_walked_places_4 | unfold kr_walked_places_5 | unfold kr_walked_places_6 | unfold kr_walked_places_7 | unfold kr_walked_places_8); walk_at "ev"))
theorem val_walked_places : ∀ ds G, w_walked_places ds G → k_walked_places ⟨ds.map Sl.fz ++ [.jk, .jk, .jk, .jk, .jk, .jk], [], 0⟩ (edT G) := by
  rintro ds Gq ⟨n, gs, r, rfl, ef, r0, r1, n1, l1, q⟩
  have n0 : 0 ≤ n := ef.nn
  obtain ⟨X, hX⟩ : ∃ X : Nat → Int, X = fun t => itE (n, gs) t r := ⟨_, rfl⟩
  have XX : ∀ j, X j = itE (n, gs) j r := fun j => by rw [hX]
  have X0 : X 0 = r := by rw [XX]; rfl
  have Xs : ∀ t, X (t + 1) = fromE (n, gs) (X t) := fun t => by rw [hX]; exact it_succ t r
  have Xp : ∀ t, 1 ≤ X t := fun t => by rw [XX]; exact it_ge ef t r0
  have wk : ∀ t, wkL (n, gs) r t = (List.range t).map X := fun t => by rw [hX]; rfl
  unfold k_walked_places
  walk_at "ev"
  walk_at "go"
  walk_at "go"
  walk_at "go"
  refine ⟨fun m γ => ∃ t : Nat, γ = ⟨[.fz (dE (n, gs)), .fz (.int (X t)), .fz (.int n), .fz (dI gs), .fz (.int gs.length), .fz (.int (n - gs.length)), .ow true (dI ((List.range t).map X)), .dc (mkD X (fun j => j) t)], [], 0⟩ ∧ m = 1001 - t ∧ (∀ j : Nat, j < t → X j ≤ 1000) ∧ ((List.range t).map X).Nodup, ⟨_, 0, ?_, rfl, fun j hj => absurd hj (by omega), by simp⟩, fun m γ hW => ?_⟩
  · rw [X0]
    rfl
  obtain ⟨t, rfl, rfl, tlo, tnd⟩ := hW
  have tb := rng_len (N := 1000) tnd fun j hj => ⟨Xp j, tlo j hj⟩
  obtain ⟨q1, q2⟩ := q t tb (by rw [wk]; exact tnd) fun j hj => by rw [← XX]; exact tlo j hj
  walk_at "ev"
  -- behind the loop
  have out : ((∃ d, valM (mkD X (fun j => j) t) (Sum.inl (X t)) = some d) ∨ ((gs.length : Int) < X t ∧ (gs.length : Int) ≤ n)) → kr_walked_places_5 ⟨[.fz (dE (n, gs)), .fz (.int (X t)), .fz (.int n), .fz (dI gs), .fz (.int gs.length), .fz (.int (n - gs.length)), .ow true (dI ((List.range t).map X)), .dc (mkD X (fun j => j) t)], [], 0⟩ (edT Gq) := fun ho => by
    walk_at "go"
    refine iteB (fun c => ?_) (fun c => ?_)
    · obtain ⟨d, hd⟩ : ∃ d, valM (mkD X (fun j => j) t) (Sum.inl (X t)) = some d := by simpa [Option.isSome_iff_exists] using c
      obtain ⟨i, hi, ei, rfl⟩ := mkD_some hd
      refine ⟨_, hd, _, hd, ?_⟩
      walk_at "ev"
      have := q1 i hi (by rw [← XX, ← XX]; exact ei.symm)
      rw [wk] at this
      rw [List.length_range]
      exact ⟨rfl, this⟩
    · have c : valM (mkD X (fun j => j) t) (Sum.inl (X t)) = none := by simpa using c
      walk_at "ev"
      walk_at "go"
      rcases ho with ⟨d, hd⟩ | ⟨h1, h2⟩
      · rw [c] at hd; cases hd
      · have := q2 h2 (by rw [← XX]; exact h1)
        rw [wk, List.range_succ, List.map_append] at this
        have e1 : List.map PyData.int (List.map X (List.range t)) ++ [PyData.int (X t)] = List.map PyData.int (List.map X (List.range t) ++ List.map X [t]) := by rw [List.map_append]; rfl
        rw [List.length_range, e1]
        exact ⟨by omega, this⟩
  -- a round
  have body : valM (mkD X (fun j => j) t) (Sum.inl (X t)) = none → (X t ≤ gs.length ∨ n < gs.length) → X t ≤ 1000 → ∀ De : KEd, (∀ γ2, (∃ m', m' < 1001 - t ∧ ∃ t, γ2 = (⟨[.fz (dE (n, gs)), .fz (.int (X t)), .fz (.int n), .fz (dI gs), .fz (.int gs.length), .fz (.int (n - gs.length)), .ow true (dI ((List.range t).map X)), .dc (mkD X (fun j => j) t)], [], 0⟩ : VSt) ∧ m' = 1001 - t ∧ (∀ j : Nat, j < t → X j ≤ 1000) ∧ ((List.range t).map X).Nodup) → De.nx γ2) → kb_walked_places_3 ⟨[.fz (dE (n, gs)), .fz (.int (X t)), .fz (.int n), .fz (dI gs), .fz (.int gs.length), .fz (.int (n - gs.length)), .ow true (dI ((List.range t).map X)), .dc (mkD X (fun j => j) t)], [], 0⟩ De := fun c3 hc hx De hN => by
    unfold kb_walked_places_3
    walk_at "ev"
    rw [List.length_range, mkD_put c3, mkD_len]
    refine ⟨by omega, ?_⟩
    walk_at "go"
    rw [List.length_range]
    refine ⟨by omega, ?_⟩
    walk_at "go"
    refine ⟨n, gs, _, rfl, Xp t, ?_⟩
    walk_at "ev"
    refine hN _ ⟨_, ?_, t + 1, ?_, rfl, fun j hj => ?_, rng_nodup tnd (mkD_none c3)⟩
    · omega
    · have e1 : List.map PyData.int (List.map X (List.range t)) ++ [PyData.int (X t)] = List.map PyData.int (List.map X (List.range t) ++ List.map X [t]) := by rw [List.map_append]; rfl
      rw [← Xs, List.range_succ, List.map_append, e1]
    · by_cases h : j < t
      · exact tlo j h
      · have : j = t := by omega
        rw [this]
        exact hx
  refine iteB (fun c1 => ?_) (fun c1 => out (.inl (by simpa [Option.isSome_iff_exists] using c1)))
  have c1 : valM (mkD X (fun j => j) t) (Sum.inl (X t)) = none := by simpa using c1
  refine iteB (fun c2 => ?_) (fun c2 => ?_)
  · have c2 := of_decide_eq_true c2
    exact body c1 (.inl c2) (by omega) _ fun γ2 h => h
  · have c2 := of_decide_eq_false c2
    refine iteB (fun c3 => ?_) (fun c3 => out (.inr ?_))
    · have c3 := of_decide_eq_true c3
      refine body c1 (.inr (by omega)) ?_ _ fun γ2 h => h
      cases t with
      | zero => rw [X0]; omega
      | succ u =>
        rw [Xs]
        by_cases hl : X u ≤ gs.length
        · have := from_low ef (Xp u) hl
          dsimp only at this
          omega
        · rw [from_hi (by dsimp only; omega)]
          have := tlo u (by omega)
          dsimp only
          omega
    · have c3 := of_decide_eq_false c3
      exact ⟨by omega, by omega⟩
theorem ok_walked_places (p : Prog K mg) : FnG P w K mg base CX0 2 p.f_walked_places p.fd_walked_places ["one", "spot"] (spT w_walked_places) :=
  okT p.d_walked_places.F sc_walked_places (by decide) ar_walked_places (fun cdv A outer s H E hg hr => ⟨_, (pss_cons (ps_asg (pv 0) (pg_tup rfl (pgs_cons (pg_name (i := 2) sc_walked_places.nd rfl (Or.inl rfl)) (pgs_cons (pg_name (i := 3) sc_walked_places.nd rfl (Or.inl rfl)) pgs_nil))))
      (pss_cons (ps_par (i := 4) (j := 5) rfl sc_walked_places.nd rfl rfl (by decide) rfl rfl (pa_cons (pe_callB call_len_seq (by rfl) p.blt.len PySem.boot_len (pa_cons (pv 3) pa_nil)) (pa_cons (pe_op op_sub (pv 2) (pe_callB call_len_seq (by rfl) p.blt.len PySem.boot_len (pa_cons (pv 3) pa_nil))) pa_nil)) (by rfl))
      (pss_cons (ps_par (i := 6) (j := 7) rfl sc_walked_places.nd rfl rfl (by decide) rfl rfl (pa_cons (pe_lst pa_nil) (pa_cons pe_dnewK pa_nil)) (by rfl))
      (pss_cons (ps_while PassesOwn.never (PW.pt (pw_and (pt_cmp (pc_dnotin (Nat.lt_of_le_of_lt (Nat.add_le_add_left (show 1 ≤ 64 by decide) _) hr.units) (pv 1) (pv 7))) (pw_and1 (PW.pt (pw_or (pt_cmpR op_le (pv 1) (pv 4) (nomark _)) (pw_or1 (pt_cmpR op_lt (pv 5) pe_int (nomark _))))))))
      (pss_cons (ps_dput (Nat.lt_of_le_of_lt (Nat.add_le_add_left (show 1 ≤ 64 by decide) _) hr.units) (pv 7) (pv 1) (pe_callB call_len_seq (by rfl) p.blt.len PySem.boot_len (pa_cons (pv 6) pa_nil)) (by rfl))
      (pss_cons (ps_expr (pe_bm PySem.F.plainAttrs_list PySem.F.slot_list_append PySem.F.type_list_append mt_append (pv 6) (pa_cons (pv 1) pa_nil)))
      (pss_one (ps_set (i := 1) sc_walked_places.nd rfl (Or.inl rfl) (pe_callG ((ok_came_from p).mono (by decide)) hg hr (by rfl) p.d_came_from.gl p.d_came_from.kp p.d_came_from.bd pass0 (pa_cons (pv 0) (pa_cons (pv 1) pa_nil))))))))
      (pss_cons (ps_if (pt_cmp (pc_din (Nat.lt_of_le_of_lt (Nat.add_le_add_left (show 1 ≤ 64 by decide) _) hr.units) (pv 1) (pv 7)))
      (pss_one (ps_ret (pe_tup (pa_cons (pv 6) (pa_cons (pe_dget (Nat.lt_of_le_of_lt (Nat.add_le_add_left (show 1 ≤ 64 by decide) _) hr.units) (pv 7) (pv 1) (fun _ _ => rfl)) (pa_cons (pe_op op_sub (pe_callB call_len_seq (by rfl) p.blt.len PySem.boot_len (pa_cons (pv 6) pa_nil)) (pe_dget (Nat.lt_of_le_of_lt (Nat.add_le_add_left (show 1 ≤ 64 by decide) _) hr.units) (pv 7) (pv 1) (fun _ _ => rfl))) (pa_cons pe_int pa_nil))))))) pss_nil)
      (pss_one (ps_ret (pe_tup (pa_cons (pe_op op_cat (pv 6) (pe_lst (pa_cons (pv 1) pa_nil))) (pa_cons (pe_callB call_len_seq (by rfl) p.blt.len PySem.boot_len (pa_cons (pv 6) pa_nil)) (pa_cons pe_int (pa_cons (pv 5) pa_nil)))))))))))),
    fun C xc => (so_seq (so_asg (so_frz (i := 0)) (so_gtup (so_gcons (so_gname (i := 2)) (so_gcons (so_gname (i := 3)) so_gnil))))
      (so_seq (so_par (i := 4) (j := 5) (by decide) (so_cons (so_f sc_len (so_cons (so_var (i := 3)) so_nil)) (so_cons (so_op sr_I0 (so_var (i := 2)) (so_f sc_len (so_cons (so_var (i := 3)) so_nil))) so_nil)))
      (so_seq (so_par (i := 6) (j := 7) (by decide) (so_cons (so_lit_lst so_lits_nil) (so_cons so_dnew so_nil)))
      (so_seq (so_while (so_tand (so_test (so_dnotin (i := 7) (so_var (i := 1)))) (so_tor (so_test (so_op sr_B (so_var (i := 1)) (so_var (i := 4)))) (so_test (so_op sr_B (so_var (i := 5)) (so_c (sca_int _))))))
      (so_seq (so_dput (i := 7) (so_f sc_len (so_cons (so_var (i := 6)) so_nil)) (so_var (i := 1)))
      (so_seq (so_drop (so_app (so_var (i := 6)) (so_var (i := 1))))
      (so_asg (so_callT (so_cons (so_var (i := 0)) (so_cons (so_var (i := 1)) so_nil))) (so_gname (i := 1))))))
      (so_seq (so_ifS (so_test (so_din (i := 7) (so_var (i := 1))))
      (so_ret (so_tup (so_sink (j := 3) (i := 6) (so_cons (so_var (i := 6)) (so_cons (so_dget (i := 7) (so_var (i := 1))) (so_cons (so_op sr_I0 (so_f sc_len (so_cons (so_var (i := 6)) so_nil)) (so_dget (i := 7) (so_var (i := 1)))) (so_cons (so_c (sca_int _)) so_nil))))))) so_next)
      (so_ret (so_tup (so_cons (so_cat (so_var (i := 6)) (so_lst (so_cons (so_var (i := 1)) so_nil))) (so_cons (so_f sc_len (so_cons (so_var (i := 6)) so_nil)) (so_cons (so_c (sca_int _)) (so_cons (so_var (i := 5)) so_nil)))))))))))⟩) val_walked_places
def w_steps_down : Tw := fun ds Q => ∃ h l s : Int, ds = [.int h, .int l, .int s] ∧ 0 < s ∧ s < 2 ^ 200 ∧ h.natAbs < 2 ^ 200 ∧ l.natAbs < 2 ^ 200 ∧ Q (.int (stepsD h l s))
theorem ar_steps_down : ∀ ds G, w_steps_down ds G → ds.length = 3 := by
  rintro ds G ⟨h, l, s, rfl, _⟩
  rfl
def k_steps_down : KS := (kRet (kF 2 (v2I fun i j => if j > i then j else i) (kCons (kC (.int 0)) (kCons (kUn vNeg (kOp (vI CDivW fun i j => i / j) (kOp (vI noC fun i j => i - j) (kVar 1) (kVar 0)) (kVar 2))) kNil))))
theorem val_steps_down : ∀ ds G, w_steps_down ds G → k_steps_down ⟨ds.map Sl.fz ++ [], [], 0⟩ (edT G) := by
  rintro ds Gq ⟨h, l, s, rfl, s0, s1, h1, l1, q⟩
  unfold k_steps_down
  walk_at "ev"
  have b := PySem.Flt.log2_lt_of (show 0 < 202 by decide) (show s.natAbs < 2 ^ 202 by omega)
  exact ⟨by unfold CDivW; omega, q⟩
theorem ok_steps_down (p : Prog K mg) : FnG P w K mg base CX0 1 p.f_steps_down p.fd_steps_down ["high", "low", "step"] (spT w_steps_down) :=
  okT p.d_steps_down.F sc_steps_down (by decide) ar_steps_down (fun cdv A outer s H E hg hr => ⟨_, (pss_one (ps_ret (pe_callB (call_max2 rfl) (by rfl) p.blt.max (by decide +kernel) (pa_cons pe_int (pa_cons (pe_un un_neg (pe_op op_fdivW (pe_op op_sub (pv 1) (pv 0)) (pv 2))) pa_nil))))),
    fun C xc => (so_ret (so_f sc_2i (so_cons (so_c (sca_int _)) (so_cons (so_neg (so_op sr_I (so_op sr_I0 (so_var (i := 1)) (so_var (i := 0))) (so_var (i := 2)))) so_nil))))⟩) val_steps_down
/-- straight down, then round and round -/
def w_spot_after : Tw := fun ds Q => ∃ n gs k r, ds = [dE (n, gs), .int k, .int r] ∧ Eff (n, gs) ∧ 0 ≤ k ∧ k < 2 ^ 120 ∧ 1 ≤ r ∧ r < 2 ^ 140 ∧ n ≤ 1000 ∧ gs.length ≤ 1000 ∧ Q (.int (itE (n, gs) k.toNat r))
theorem ar_spot_after : ∀ ds G, w_spot_after ds G → ds.length = 3 := by
  rintro ds G ⟨n, gs, k, r, rfl, _⟩
  rfl
def kr_spot_after_1 : KS := (kPar 2 7 (kCons (kOp (vI noC fun i j => i + j) (kVar 2) (kOp (vI CMulB fun i j => i * j) (kVar 8) (kVar 6))) (kCons (kOp (vI noC fun i j => i - j) (kVar 7) (kVar 8)) kNil)))
def kr_spot_after_2 : KS := (kPar 2 7 (kCons (kIx true (kVar 4) (kOp (vI noC fun i j => i - j) (kVar 2) (kC (.int 1)))) (kCons (kOp (vI noC fun i j => i - j) (kVar 7) (kC (.int 1))) kNil)))
def kb_spot_after_3 : KS := (kSeq (kDPut 9 (kVar 7) (kVar 2))
  kr_spot_after_2)
def kb_spot_after_4 : KS := (kAsg (kIx true (kVar 4) (kOp (vI noC fun i j => i - j) (kVar 2) (kC (.int 1)))) (kgName 2))
def kr_spot_after_5 : KS := (kRet (kVar 2))
def kr_spot_after_6 : KS := (kRet (kOp (vI noC fun i j => i + j) (kVar 2) (kOp (vI CMulB fun i j => i * j) (kVar 7) (kVar 6))))
def kr_spot_after_7 : KS := (kSeq (kIfS (kTAnd (kTest (kOp (vB fun i j => decide (j < i)) (kVar 7) (kC (.int 0)))) (kTest (kOp (vB fun i j => decide (i ≤ j)) (kVar 2) (kVar 5))))
  (kSeq (kFor (kRng1 (kOp (vI (fun _ j => 0 < j) fun i j => i % j) (kVar 7) (kOp (vI noC fun i j => i - j) (kDGet 9 (kVar 2)) (kVar 7)))) (kgName 10) kb_spot_after_4)
  kr_spot_after_5)
  kNext)
  kr_spot_after_6)
def kr_spot_after_8 : KS := (kSeq (kWhile (kTAnd (kTest (kOp (vB fun i j => decide (j < i)) (kVar 7) (kC (.int 0)))) (kTAnd (kTest (kOp (vB fun i j => decide (i ≤ j)) (kVar 2) (kVar 5))) (kTest (kDIn true (kVar 2) 9)))) kb_spot_after_3)
  kr_spot_after_7)
def kr_spot_after_9 : KS := (kSeq (kAsg kDNew (kgName 9))
  kr_spot_after_8)
def kr_spot_after_10 : KS := (kSeq (kIfS (kTest (kOp (vB fun i j => decide (i < j)) (kVar 6) (kC (.int 0))))
  (kSeq (kAsg (kF 2 (v2I fun i j => if j < i then j else i) (kCons (kVar 7) (kCons (kCallT w_steps_down 3 (kCons (kVar 2) (kCons (kVar 5) (kCons (kUn vNeg (kVar 6)) kNil)))) kNil))) (kgName 8))
  kr_spot_after_1)
  kNext)
  kr_spot_after_9)
def kr_spot_after_11 : KS := (kSeq (kPar3 5 6 7 (kCons (kF 1 vLen (kCons (kVar 4) kNil)) (kCons (kOp (vI noC fun i j => i - j) (kVar 3) (kF 1 vLen (kCons (kVar 4) kNil))) (kCons (kVar 1) kNil))))
  kr_spot_after_10)
def k_spot_after : KS := (kSeq (kAsg (kFrz 0) (kgTup 2 (kgCons (kgName 3) (kgCons (kgName 4) kgNil))))
  kr_spot_after_11)
local macro_rules | `(tactic| walk_at "go") => `(tactic| ((first | unfold kr_spot_after_1 | unfold kr_spot_after_2 | unfold kr_spot_after_5 | unfold kr_spot_after_6 | unfold kr_spot_after_7 | unfold kr_spot_after_8 | unfold kr_spot_after_9 | unfold kr_spot_after_10 | unfold kr_spot_after_11); walk_at "ev"))
/-- so many steps, and it lies no more above, or the number is used up -/
theorem val_spot_after : ∀ ds G, w_spot_after ds G → k_spot_after ⟨ds.map Sl.fz ++ [.jk, .jk, .jk, .jk, .jk, .jk, .jk, .jk], [], 0⟩ (edT G) := by
  rintro ds Gq ⟨n, gs, k, r, rfl, ef, k0, k1, r0, r1, n1, l1, q⟩
  have n0 : 0 ≤ n := ef.nn
  -- behind the straight way
  have rest : ∀ (x L : Int) (a b : Sl), 0 ≤ L → L < 2 ^ 120 → 1 ≤ x → x < 2 ^ 140 → itE (n, gs) L.toNat x = itE (n, gs) k.toNat r → (n < gs.length → L = 0 ∨ x ≤ gs.length) → kr_spot_after_9 ⟨[.fz (dE (n, gs)), .fz (.int k), .fz (.int x), .fz (.int n), .fz (dI gs), .fz (.int gs.length), .fz (.int (n - gs.length)), .fz (.int L), a, .jk, b], [], 0⟩ (edT Gq) := fun x L a b hL hL1 hx hx1 hit hlow => by
    rw [← hit] at q
    obtain ⟨X, hX⟩ : ∃ X : Nat → Int, X = fun t => itE (n, gs) t x := ⟨_, rfl⟩
    have X0 : X 0 = x := by rw [hX]; rfl
    have XL : X L.toNat = itE (n, gs) L.toNat x := by rw [hX]
    have Xs : ∀ t, X (t + 1) = fromE (n, gs) (X t) := fun t => by rw [hX]; exact it_succ t x
    have Xp : ∀ t, 1 ≤ X t := fun t => by rw [hX]; exact it_ge ef t hx
    have Xlo : ∀ t, X t ≤ gs.length → X (t + 1) = gs.getD (X t - 1).toNat 0 := fun t h => by rw [Xs, from_lo h]
    have Xle : ∀ t, X t ≤ gs.length → X (t + 1) ≤ n := fun t h => by rw [Xs]; exact from_low ef (Xp t) h
    walk_at "go"
    refine ⟨fun m γ => ∃ t : Nat, γ = ⟨[.fz (dE (n, gs)), .fz (.int k), .fz (.int (X t)), .fz (.int n), .fz (dI gs), .fz (.int gs.length), .fz (.int (n - gs.length)), .fz (.int (L - t)), a, .dc (mkD X (fun j => L - j) t), b], [], 0⟩ ∧ m = (L - t).toNat ∧ (t : Int) ≤ L ∧ (∀ j : Nat, j < t → X j ≤ gs.length) ∧ ((List.range t).map X).Nodup, ⟨_, 0, by rw [X0]; simp; rfl, rfl, by omega, fun j hj => absurd hj (by omega), by simp⟩, fun m γ hW => ?_⟩
    obtain ⟨t, rfl, rfl, tL, tlo, tnd⟩ := hW
    walk_at "ev"
    -- behind the loop
    have out : ((L - t : Int) = 0 ∨ (gs.length : Int) < X t ∨ ∃ d, valM (mkD X (fun j => L - j) t) (Sum.inl (X t)) = some d) → kr_spot_after_7 ⟨[.fz (dE (n, gs)), .fz (.int k), .fz (.int (X t)), .fz (.int n), .fz (dI gs), .fz (.int gs.length), .fz (.int (n - gs.length)), .fz (.int (L - t)), a, .dc (mkD X (fun j => L - j) t), b], [], 0⟩ (edT Gq) := fun ho => by
      walk_at "go"
      have last : ((L - t : Int) = 0 ∨ (gs.length : Int) < X t) → kr_spot_after_6 ⟨[.fz (dE (n, gs)), .fz (.int k), .fz (.int (X t)), .fz (.int n), .fz (dI gs), .fz (.int gs.length), .fz (.int (n - gs.length)), .fz (.int (L - t)), a, .dc (mkD X (fun j => L - j) t), b], [], 0⟩ (edT Gq) := fun h => by
        walk_at "go"
        refine ⟨cmulB_of (by omega) (by omega), ?_⟩
        have res : X t + (L - t) * (n - gs.length) = itE (n, gs) L.toNat x := by
          by_cases hz : L - t = 0
          · rw [hz, Int.zero_mul, Int.add_zero, ← XL]
            congr 1
            omega
          · have hgt : (gs.length : Int) < X t := by omega
            have hup : (gs.length : Int) ≤ n := by
              apply Classical.byContradiction
              intro hn
              cases t with
              | zero => rw [X0] at hgt; have := hlow (by omega); omega
              | succ u => have := Xle u (tlo u (by omega)); omega
            have e1 : L.toNat = (L - t).toNat + t := by omega
            have e2 := it_up (e := (n, gs)) hup (L - t).toNat (r := X t) hgt
            rw [e1, it_add, show itE (n, gs) t x = X t from by rw [hX], e2]
            dsimp only
            congr 2
            omega
        rw [res]
        exact q
      refine iteB (fun d1 => ?_) (fun d1 => last (.inl (by have := of_decide_eq_false d1; omega)))
      refine iteB (fun d2 => ?_) (fun d2 => last (.inr (by have := of_decide_eq_false d2; omega)))
      have d1 := of_decide_eq_true d1
      have d2 := of_decide_eq_true d2
      obtain ⟨d, hd⟩ : ∃ d, valM (mkD X (fun j => L - j) t) (Sum.inl (X t)) = some d := by
        rcases ho with h | h | h
        · omega
        · omega
        · exact h
      obtain ⟨i, hi, ei, rfl⟩ := mkD_some hd
      refine ⟨_, hd, ?_⟩
      dsimp only
      have tb := rng_len (N := gs.length) tnd fun j hj => ⟨Xp j, tlo j hj⟩
      have pe : L - (i : Int) - (L - t) = ((t - i : Nat) : Int) := by omega
      rw [pe]
      have md0 := Int.emod_nonneg (L - t) (show ((t - i : Nat) : Int) ≠ 0 by omega)
      have md1 := Int.emod_lt_of_pos (L - t) (show (0 : Int) < ((t - i : Nat) : Int) by omega)
      refine ⟨by omega, ⟨by omega, by omega⟩, ?_⟩
      obtain ⟨w, hw⟩ : ∃ w : Nat, (L - t) % ((t - i : Nat) : Int) = w := ⟨((L - t) % ((t - i : Nat) : Int)).toNat, by omega⟩
      rw [hw] at md1 ⊢
      have per : itE (n, gs) (i + (t - i)) x = itE (n, gs) i x := by
        have : i + (t - i) = t := by omega
        rw [this]
        have := ei
        rw [hX] at this
        exact this.symm
      have XX : ∀ j, X j = itE (n, gs) j x := fun j => by rw [hX]
      -- round and round
      have cyc : ∀ j : Nat, j < t - i → X (t + j) ≤ gs.length := fun j hj => by
        have e1 : t + j = i + j + (t - i) := by omega
        rw [XX, e1, it_per per, ← XX]
        exact tlo _ (by omega)
      have fin : X (t + w) = itE (n, gs) L.toNat x := by
        have e1 : L.toNat = i + (L.toNat - i) := by omega
        have e2 : t + w = i + (w + (t - i)) := by omega
        rw [XX, e1, it_mod per, e2, it_mod per (w + (t - i)), Nat.add_mod_right]
        congr 2
        have e3 : ((L.toNat - i : Nat) : Int) = (L - t) + ((t - i : Nat) : Int) := by omega
        have e4 : (((L.toNat - i) % (t - i) : Nat) : Int) = ((w % (t - i) : Nat) : Int) := by
          rw [Int.natCast_emod, Int.natCast_emod, e3, Int.add_emod_right, ← hw, Int.emod_emod_of_dvd _ (Int.dvd_refl _)]
        exact (Int.ofNat.inj e4).symm
      have lr := rg_length 0 (w : Int)
      refine forL_ints (rg 0 (w : Int)) (fun pre γ => ∃ y : Sl, γ = ⟨[.fz (dE (n, gs)), .fz (.int k), .fz (.int (X (t + pre.length))), .fz (.int n), .fz (dI gs), .fz (.int gs.length), .fz (.int (n - gs.length)), .fz (.int (L - t)), a, .dc (mkD X (fun j => L - j) t), y], [], 0⟩) (fun pre z post γ N hl2 ht hP hN => ?_) (fun γ ht hP => ?_) _ rfl ⟨b, rfl⟩
      · obtain ⟨y, rfl⟩ := hP
        have hlen := congrArg List.length hl2
        rw [lr, List.length_append, List.length_cons] at hlen
        unfold kb_spot_after_4
        walk_at "ev"
        have lo := cyc pre.length (by omega)
        have pos := Xp (t + pre.length)
        refine ixD_ints (by omega) (by omega) ?_
        walk_at "ev"
        rw [← Xlo _ lo]
        refine hN _ rfl ⟨.fz (.int z), ?_⟩
        rw [List.length_append, List.length_singleton]
        rfl
      · obtain ⟨y, rfl⟩ := hP
        rw [lr]
        walk_at "go"
        have e1 : ((w : Int) - 0).toNat = w := by omega
        rw [e1, fin]
        exact q
    refine iteB (fun c1 => ?_) (fun c1 => out (.inl (by have := of_decide_eq_false c1; omega)))
    have c1 := of_decide_eq_true c1
    refine iteB (fun c2 => ?_) (fun c2 => out (.inr (.inl (by have := of_decide_eq_false c2; omega))))
    have c2 := of_decide_eq_true c2
    refine iteB (fun c3 => ?_) (fun c3 => out (.inr (.inr (by simpa [Option.isSome_iff_exists] using c3))))
    have c3 : valM (mkD X (fun j => L - j) t) (Sum.inl (X t)) = none := by simpa using c3
    unfold kb_spot_after_3
    walk_at "ev"
    walk_at "go"
    have tb := rng_len (N := gs.length) tnd fun j hj => ⟨Xp j, tlo j hj⟩
    refine ⟨by rw [mkD_len]; omega, ?_⟩
    have pos := Xp t
    refine ixD_ints (by omega) (by omega) ?_
    walk_at "ev"
    rw [← Xlo _ c2, mkD_put c3]
    refine ⟨_, ?_, t + 1, by rw [show L - ((t + 1 : Nat) : Int) = L - t - 1 by omega], rfl, by omega, fun j hj => ?_, rng_nodup tnd (mkD_none c3)⟩
    · omega
    · by_cases h : j < t
      · exact tlo j h
      · have : j = t := by omega
        rw [this]
        exact c2
  unfold k_spot_after
  walk_at "ev"
  walk_at "go"
  refine iteB (fun c => ?_) (fun c => ?_)
  · have c := of_decide_eq_true c
    refine ⟨r, gs.length, -(n - gs.length), rfl, by omega, by omega, by omega, by omega, ?_⟩
    obtain ⟨s, es, s1, s2, s3, s4⟩ := steps_lin (e := (n, gs)) (r := r) (k := k) (by dsimp only; omega) r0 k0
    dsimp only at es s2 s3
    walk_at "ev"
    rw [es]
    walk_at "go"
    have hb : (s : Int) * (n - gs.length) ≤ 0 := Int.mul_nonpos_of_nonneg_of_nonpos (by omega) (by omega)
    have up : 1 ≤ r + s * (n - gs.length) := by
      rw [← s2]
      exact it_ge ef s r0
    refine ⟨cmulB_of (by omega) (by omega), ?_⟩
    refine rest _ _ _ _ (by omega) (by omega) up (by omega) ?_ fun _ => by omega
    rw [← s2, ← it_add]
    congr 1
    omega
  · have c := of_decide_eq_false c
    walk_at "ev"
    exact rest _ _ _ _ k0 k1 r0 (by omega) rfl (by omega)
theorem ok_spot_after (p : Prog K mg) : FnG P w K mg base CX0 2 p.f_spot_after p.fd_spot_after ["one", "number", "spot"] (spT w_spot_after) :=
  okT p.d_spot_after.F sc_spot_after (by decide) ar_spot_after (fun cdv A outer s H E hg hr => ⟨_, (pss_cons (ps_asg (pv 0) (pg_tup rfl (pgs_cons (pg_name (i := 3) sc_spot_after.nd rfl (Or.inl rfl)) (pgs_cons (pg_name (i := 4) sc_spot_after.nd rfl (Or.inl rfl)) pgs_nil))))
      (pss_cons (ps_par3 (i := 5) (j := 6) (l := 7) rfl sc_spot_after.nd rfl rfl rfl (by decide) (by decide) (by decide) rfl rfl rfl (pa_cons (pe_callB call_len_seq (by rfl) p.blt.len PySem.boot_len (pa_cons (pv 4) pa_nil)) (pa_cons (pe_op op_sub (pv 3) (pe_callB call_len_seq (by rfl) p.blt.len PySem.boot_len (pa_cons (pv 4) pa_nil))) (pa_cons (pv 1) pa_nil))) (by rfl))
      (pss_cons (ps_if (pt_cmpR op_lt (pv 6) pe_int (nomark _))
      (pss_cons (ps_set (i := 8) sc_spot_after.nd rfl (Or.inl rfl) (pe_callB (call_min2 rfl) (by rfl) p.blt.min (by decide +kernel) (pa_cons (pv 7) (pa_cons (pe_callG ((ok_steps_down p).mono (by decide)) hg hr (by rfl) p.d_steps_down.gl p.d_steps_down.kp p.d_steps_down.bd pass0 (pa_cons (pv 2) (pa_cons (pv 5) (pa_cons (pe_un un_neg (pv 6)) pa_nil)))) pa_nil))))
      (pss_one (ps_par (i := 2) (j := 7) rfl sc_spot_after.nd rfl rfl (by decide) rfl rfl (pa_cons (pe_op op_add (pv 2) (pe_op op_mulB (pv 8) (pv 6))) (pa_cons (pe_op op_sub (pv 7) (pv 8)) pa_nil)) (by rfl)))) pss_nil)
      (pss_cons (ps_set (i := 9) sc_spot_after.nd rfl (Or.inl rfl) pe_dnewK)
      (pss_cons (ps_while PassesOwn.never (PW.pt (pw_and (pt_cmpR op_gt (pv 7) pe_int (nomark _)) (pw_and (pt_cmpR op_le (pv 2) (pv 5) (nomark _)) (pw_and1 (pt_cmp (pc_dnotin (Nat.lt_of_le_of_lt (Nat.add_le_add_left (show 1 ≤ 64 by decide) _) hr.units) (pv 2) (pv 9)))))))
      (pss_cons (ps_dput (Nat.lt_of_le_of_lt (Nat.add_le_add_left (show 1 ≤ 64 by decide) _) hr.units) (pv 9) (pv 2) (pv 7) (by rfl))
      (pss_one (ps_par (i := 2) (j := 7) rfl sc_spot_after.nd rfl rfl (by decide) rfl rfl (pa_cons (pe_ix ix_list (pv 4) (pe_op op_sub (pv 2) pe_int) (fun _ _ => rfl)) (pa_cons (pe_op op_sub (pv 7) pe_int) pa_nil)) (by rfl)))))
      (pss_cons (ps_if (PW.pt (pw_and (pt_cmpR op_gt (pv 7) pe_int (nomark _)) (pw_and1 (pt_cmpR op_le (pv 2) (pv 5) (nomark _)))))
      (pss_cons (ps_for PassesOwn.never rfl (pi_range1 (by rfl) p.blt.range (pa_cons (pe_op op_mod (pv 7) (pe_op op_sub (pe_dget (Nat.lt_of_le_of_lt (Nat.add_le_add_left (show 1 ≤ 64 by decide) _) hr.units) (pv 9) (pv 2) (fun _ _ => rfl)) (pv 7))) pa_nil)) (pg_name (i := 10) sc_spot_after.nd rfl (Or.inl rfl))
      (pss_one (ps_set (i := 2) sc_spot_after.nd rfl (Or.inl rfl) (pe_ix ix_list (pv 4) (pe_op op_sub (pv 2) pe_int) (fun _ _ => rfl)))))
      (pss_one (ps_ret (pv 2)))) pss_nil)
      (pss_one (ps_ret (pe_op op_add (pv 2) (pe_op op_mulB (pv 7) (pv 6))))))))))),
    fun C xc => (so_seq (so_asg (so_frz (i := 0)) (so_gtup (so_gcons (so_gname (i := 3)) (so_gcons (so_gname (i := 4)) so_gnil))))
      (so_seq (so_par3 (i := 5) (j := 6) (l := 7) (by decide) (by decide) (by decide) (so_cons (so_f sc_len (so_cons (so_var (i := 4)) so_nil)) (so_cons (so_op sr_I0 (so_var (i := 3)) (so_f sc_len (so_cons (so_var (i := 4)) so_nil))) (so_cons (so_var (i := 1)) so_nil))))
      (so_seq (so_ifS (so_test (so_op sr_B (so_var (i := 6)) (so_c (sca_int _))))
      (so_seq (so_asg (so_f sc_2i (so_cons (so_var (i := 7)) (so_cons (so_callT (so_cons (so_var (i := 2)) (so_cons (so_var (i := 5)) (so_cons (so_neg (so_var (i := 6))) so_nil)))) so_nil))) (so_gname (i := 8)))
      (so_par (i := 2) (j := 7) (by decide) (so_cons (so_op sr_I0 (so_var (i := 2)) (so_op sr_I (so_var (i := 8)) (so_var (i := 6)))) (so_cons (so_op sr_I0 (so_var (i := 7)) (so_var (i := 8))) so_nil)))) so_next)
      (so_seq (so_asg so_dnew (so_gname (i := 9)))
      (so_seq (so_while (so_tand (so_test (so_op sr_B (so_var (i := 7)) (so_c (sca_int _)))) (so_tand (so_test (so_op sr_B (so_var (i := 2)) (so_var (i := 5)))) (so_test (so_dnotin (i := 9) (so_var (i := 2))))))
      (so_seq (so_dput (i := 9) (so_var (i := 7)) (so_var (i := 2)))
      (so_par (i := 2) (j := 7) (by decide) (so_cons (so_ixL (so_var (i := 4)) (so_op sr_I0 (so_var (i := 2)) (so_c (sca_int _)))) (so_cons (so_op sr_I0 (so_var (i := 7)) (so_c (sca_int _))) so_nil)))))
      (so_seq (so_ifS (so_tand (so_test (so_op sr_B (so_var (i := 7)) (so_c (sca_int _)))) (so_test (so_op sr_B (so_var (i := 2)) (so_var (i := 5)))))
      (so_seq (so_for (so_rng1 (so_op sr_I (so_var (i := 7)) (so_op sr_I0 (so_dget (i := 9) (so_var (i := 2))) (so_var (i := 7))))) (so_gname (i := 10))
      (so_asg (so_ixL (so_var (i := 4)) (so_op sr_I0 (so_var (i := 2)) (so_c (sca_int _)))) (so_gname (i := 2))))
      (so_ret (so_var (i := 2)))) so_next)
      (so_ret (so_op sr_I0 (so_var (i := 2)) (so_op sr_I (so_var (i := 7)) (so_var (i := 6)))))))))))⟩) val_spot_after
def w_arrivals_at : Tw := fun ds Q => ∃ (n : Int) (gs : List Int) (x s k : Int), ds = [dE (n, gs), .int x, .int s, .int k] ∧ Eff (n, gs) ∧ n < gs.length ∧ 1 ≤ x ∧ x ≤ 1000 ∧ gs.length ≤ 1000 ∧ 0 ≤ k ∧ k < 2 ^ 120 ∧ ∀ c : Nat, AR (n, gs) k.toNat x s c → (c : Int) ≤ k + 1 → Q (.int c)
theorem ar_arrivals_at : ∀ ds G, w_arrivals_at ds G → ds.length = 4 := by
  rintro ds G ⟨n, gs, x, s, k, rfl, _⟩
  rfl
def kr_arrivals_at_1 : KS := (kRet (kIf (kTest (kOp (vB fun i j => decide (i < j)) (kVar 8) (kVar 5))) (kC (.int 1)) (kOp (vI noC fun i j => i + j) (kOp (vI CDivW fun i j => i / j) (kOp (vI noC fun i j => i - j) (kVar 3) (kVar 8)) (kVar 6)) (kC (.int 1)))))
def kr_arrivals_at_2 : KS := (kSeq (kAsg (kM 1 vIdx (kVar 4) (kCons (kVar 2) kNil)) (kgName 8))
  kr_arrivals_at_1)
def kr_arrivals_at_3 : KS := (kSeq (kIfS (kTOr (kTest (kOp (vIn true) (kVar 2) (kVar 4))) (kTest (kOp (vB fun i j => decide (j < i)) (kM 1 vIdx (kVar 4) (kCons (kVar 2) kNil)) (kVar 3))))
  (kRet (kC (.int 0)))
  kNext)
  kr_arrivals_at_2)
def k_arrivals_at : KS := (kSeq (kAsg (kCallT w_walked_places 2 (kCons (kVar 0) (kCons (kVar 1) kNil))) (kgTup 4 (kgCons (kgName 4) (kgCons (kgName 5) (kgCons (kgName 6) (kgCons (kgName 7) kgNil))))))
  kr_arrivals_at_3)
local macro_rules | `(tactic| walk_at "go") => `(tactic| ((first | unfold kr_arrivals_at_1 | unfold kr_arrivals_at_2 | unfold kr_arrivals_at_3); walk_at "ev"))
theorem val_arrivals_at : ∀ ds G, w_arrivals_at ds G → k_arrivals_at ⟨ds.map Sl.fz ++ [.jk, .jk, .jk, .jk, .jk], [], 0⟩ (edT G) := by
  rintro ds Gq ⟨n, gs, x, s, k, rfl, ef, hs, x0, x1, l1, k0, k1, q⟩
  have n0 : 0 ≤ n := ef.nn
  unfold k_arrivals_at
  walk_at "ev"
  refine ⟨n, gs, x, rfl, ef, x0, x1, by omega, l1, fun t ht nd lo => ⟨fun i hi per => ?_, fun h => absurd h (by omega)⟩⟩
  walk_at "ev"
  walk_at "go"
  have mem : ∀ {j : Nat}, j < t → itE (n, gs) j x ∈ wkL (n, gs) x t := fun hj => List.mem_map.mpr ⟨_, List.mem_range.mpr hj, rfl⟩
  refine iteB (fun c => ?_) (fun c => ?_)
  · have c : s ∉ wkL (n, gs) x t := by simpa using c
    exact q 0 (AR.never hi per fun j hj h => c (h ▸ mem hj)) (by omega)
  have c : s ∈ wkL (n, gs) x t := by simpa using c
  refine ⟨c, ?_⟩
  -- the first time
  obtain ⟨f, hf⟩ : ∃ f : Nat, List.idxOf s (wkL (n, gs) x t) = f := ⟨_, rfl⟩
  have lt : f < t := by
    have := List.idxOf_lt_length_of_mem c
    rw [hf] at this
    unfold wkL at this
    rwa [List.length_map, List.length_range] at this
  have at_f : itE (n, gs) f x = s := by
    have h1 := List.idxOf_lt_length_of_mem c
    have h2 := List.getElem_idxOf h1
    simp only [hf] at h2
    unfold wkL at h2
    simpa using h2
  have before : ∀ j : Nat, j < f → itE (n, gs) j x ≠ s := fun j hj h => by
    have := inj_of_nodup (X := fun j => itE (n, gs) j x) nd (show j < t by omega) lt (h.trans at_f.symm)
    omega
  rw [hf]
  refine iteB (fun d => ?_) (fun d => ?_)
  · have d := of_decide_eq_true d
    exact q 0 (AR.late f before (by omega)) (by omega)
  have d := of_decide_eq_false d
  walk_at "ev"
  walk_at "go"
  refine ⟨c, ?_⟩
  rw [hf]
  walk_at "go"
  refine iteB (fun g => ?_) (fun g => ?_)
  · have g := of_decide_eq_true g
    exact q 1 (AR.once hi per nd (by omega) at_f (by omega)) (by omega)
  · have g := of_decide_eq_false g
    walk_at "ev"
    have b1 := PySem.Flt.log2_lt_of (show 0 < 200 by decide) (show ((t : Int) - i).natAbs < 2 ^ 200 by omega)
    refine ⟨by unfold CDivW; omega, ?_⟩
    have res := q _ (AR.round hi per nd (show i ≤ f by omega) lt at_f (show f ≤ k.toNat by omega)) (by
      have := Nat.div_le_self (k.toNat - f) (t - i)
      omega)
    have e1 : (((k.toNat - f) / (t - i) + 1 : Nat) : Int) = (k - f) / (t - i) + 1 := by
      rw [Int.natCast_add, Int.natCast_ediv, show ((k.toNat - f : Nat) : Int) = k - f by omega, show ((t - i : Nat) : Int) = (t : Int) - i by omega]
      rfl
    rw [e1] at res
    exact res
theorem ok_arrivals_at (p : Prog K mg) : FnG P w K mg base CX0 3 p.f_arrivals_at p.fd_arrivals_at ["one", "spot", "goal", "number"] (spT w_arrivals_at) :=
  okT p.d_arrivals_at.F sc_arrivals_at (by decide) ar_arrivals_at (fun cdv A outer s H E hg hr => ⟨_, (pss_cons (ps_asg (pe_callG ((ok_walked_places p).mono (by decide)) hg hr (by rfl) p.d_walked_places.gl p.d_walked_places.kp p.d_walked_places.bd pass0 (pa_cons (pv 0) (pa_cons (pv 1) pa_nil))) (pg_tup rfl (pgs_cons (pg_name (i := 4) sc_arrivals_at.nd rfl (Or.inl rfl)) (pgs_cons (pg_name (i := 5) sc_arrivals_at.nd rfl (Or.inl rfl)) (pgs_cons (pg_name (i := 6) sc_arrivals_at.nd rfl (Or.inl rfl)) (pgs_cons (pg_name (i := 7) sc_arrivals_at.nd rfl (Or.inl rfl)) pgs_nil))))))
      (pss_cons (ps_if (PW.pt (pw_or (pt_cmpR op_notIn_seq (pv 2) (pv 4) rfl) (pw_or1 (pt_cmpR op_gt (pe_bm PySem.F.plainAttrs_list PySem.F.slot_list_index PySem.F.type_list_index mt_index (pv 4) (pa_cons (pv 2) pa_nil)) (pv 3) (nomark _)))))
      (pss_one (ps_ret pe_int)) pss_nil)
      (pss_cons (ps_set (i := 8) sc_arrivals_at.nd rfl (Or.inl rfl) (pe_bm PySem.F.plainAttrs_list PySem.F.slot_list_index PySem.F.type_list_index mt_index (pv 4) (pa_cons (pv 2) pa_nil)))
      (pss_one (ps_ret (pe_ifExp (pt_cmpR op_lt (pv 8) (pv 5) (nomark _)) pe_int (pe_op op_add (pe_op op_fdivW (pe_op op_sub (pv 3) (pv 8)) (pv 6)) pe_int))))))),
    fun C xc => (so_seq (so_asg (so_callT (so_cons (so_var (i := 0)) (so_cons (so_var (i := 1)) so_nil))) (so_gtup (so_gcons (so_gname (i := 4)) (so_gcons (so_gname (i := 5)) (so_gcons (so_gname (i := 6)) (so_gcons (so_gname (i := 7)) so_gnil))))))
      (so_seq (so_ifS (so_tor (so_test (so_op sr_in (so_var (i := 2)) (so_var (i := 4)))) (so_test (so_op sr_B (so_m sm_index (so_var (i := 4)) (so_cons (so_var (i := 2)) so_nil)) (so_var (i := 3)))))
      (so_ret (so_c (sca_int _))) so_next)
      (so_seq (so_asg (so_m sm_index (so_var (i := 4)) (so_cons (so_var (i := 2)) so_nil)) (so_gname (i := 8)))
      (so_ret (so_if (so_test (so_op sr_B (so_var (i := 8)) (so_var (i := 5)))) (so_c (sca_int _)) (so_op sr_I0 (so_op sr_I (so_op sr_I0 (so_var (i := 3)) (so_var (i := 8))) (so_var (i := 6))) (so_c (sca_int _))))))))⟩) val_arrivals_at
def w_count_after : Tw := fun ds Q => ∃ (n : Int) (gs : List Int) (k s : Int), ds = [dE (n, gs), .int k, .int s] ∧ Eff (n, gs) ∧ 0 ≤ k ∧ k < 2 ^ 110 ∧ 1 ≤ s ∧ s < 2 ^ 110 ∧ n ≤ 1000 ∧ gs.length ≤ 1000 ∧ ∀ c : Nat, HC (n, gs) k.toNat s c → (c : Int) < 2 ^ 130 → Q (.int c)
theorem ar_count_after : ∀ ds G, w_count_after ds G → ds.length = 3 := by
  rintro ds G ⟨n, gs, k, s, rfl, _⟩
  rfl
def kr_count_after_1 : KS := (kPar 2 1 (kCons (kOp (vI noC fun i j => i - j) (kVar 2) (kOp (vI CMulB fun i j => i * j) (kVar 7) (kVar 6))) (kCons (kOp (vI noC fun i j => i - j) (kVar 1) (kVar 7)) kNil)))
def kb_count_after_2 : KS := (kIfS (kTest (kOp (vEq false) (kCallT w_spot_after 3 (kCons (kVar 0) (kCons (kVar 1) (kCons (kVar 9) kNil)))) (kVar 2)))
  (kAug 8 (fun i j => i + j) (kC (.int 1)))
  kNext)
def kb_count_after_3 : KS := (kAug 8 (fun i j => i + j) (kCallT w_arrivals_at 4 (kCons (kVar 0) (kCons (kVar 9) (kCons (kVar 2) (kCons (kVar 1) kNil))))))
def kr_count_after_4 : KS := (kRet (kVar 8))
def kr_count_after_5 : KS := (kSeq (kFor (kRng2 (kOp (vI noC fun i j => i + j) (kVar 3) (kC (.int 1))) (kOp (vI noC fun i j => i + j) (kVar 5) (kC (.int 1)))) (kgName 9) kb_count_after_3)
  kr_count_after_4)
def kr_count_after_6 : KS := (kSeq (kFor (kRng2 (kC (.int 1)) (kOp (vI noC fun i j => i + j) (kF 2 (v2I fun i j => if j < i then j else i) (kCons (kVar 3) (kCons (kVar 5) kNil))) (kC (.int 1)))) (kgName 9) kb_count_after_2)
  kr_count_after_5)
def kr_count_after_7 : KS := (kSeq (kAsg (kC (.int 0)) (kgName 8))
  kr_count_after_6)
def kr_count_after_8 : KS := (kSeq (kIfS (kTOr (kTest (kOp (vEq false) (kVar 1) (kC (.int 0)))) (kTest (kOp (vB fun i j => decide (j < i)) (kVar 2) (kVar 3))))
  (kRet (kC (.int 1)))
  kNext)
  kr_count_after_7)
def kr_count_after_9 : KS := (kSeq (kIfS (kTest (kOp (vB fun i j => decide (j < i)) (kVar 6) (kC (.int 0))))
  (kSeq (kAsg (kF 2 (v2I fun i j => if j < i then j else i) (kCons (kVar 1) (kCons (kCallT w_steps_down 3 (kCons (kVar 2) (kCons (kVar 3) (kCons (kVar 6) kNil)))) kNil))) (kgName 7))
  kr_count_after_1)
  kNext)
  kr_count_after_8)
def kr_count_after_10 : KS := (kSeq (kPar 5 6 (kCons (kF 1 vLen (kCons (kVar 4) kNil)) (kCons (kOp (vI noC fun i j => i - j) (kVar 3) (kF 1 vLen (kCons (kVar 4) kNil))) kNil)))
  kr_count_after_9)
def k_count_after : KS := (kSeq (kAsg (kFrz 0) (kgTup 2 (kgCons (kgName 3) (kgCons (kgName 4) kgNil))))
  kr_count_after_10)
local macro_rules | `(tactic| walk_at "go") => `(tactic| ((first | unfold kr_count_after_1 | unfold kr_count_after_4 | unfold kr_count_after_5 | unfold kr_count_after_6 | unfold kr_count_after_7 | unfold kr_count_after_8 | unfold kr_count_after_9 | unfold kr_count_after_10); walk_at "ev"))
theorem stepsD_ge0 {h l s : Int} : 0 ≤ stepsD h l s := by unfold stepsD; split <;> omega
theorem stepsD_gen {h l c : Int} (c0 : 0 < c) : (∀ j : Nat, (j : Int) < stepsD h l c → l < h - j * c) ∧ h - stepsD h l c * c ≤ (if l < h then l else h) := by
  have dv := Int.emod_add_mul_ediv (l - h) c
  have m0 := Int.emod_nonneg (l - h) (show c ≠ 0 by omega)
  have m1 := Int.emod_lt_of_pos (l - h) c0
  refine ⟨fun j hj => ?_, ?_⟩
  · have h1 : (j : Int) + 1 ≤ -((l - h) / c) := by
      unfold stepsD at hj
      split at hj <;> omega
    have h2 : ((j : Int) + 1) * c ≤ -((l - h) / c) * c := Int.mul_le_mul_of_nonneg_right h1 (by omega)
    rw [Int.neg_mul, Int.mul_comm ((l - h) / c), Int.add_mul, Int.one_mul] at h2
    omega
  · unfold stepsD
    split
    · rename_i hp
      have h5 : c * ((l - h) / c) ≤ c * (-1) := Int.mul_le_mul_of_nonneg_left (by omega) (by omega)
      rw [Int.neg_mul, Int.mul_comm ((l - h) / c) c]
      split <;> omega
    · rename_i hp
      have : 0 ≤ (l - h) / c := by omega
      have h4 : 0 ≤ c * ((l - h) / c) := Int.mul_nonneg (by omega) this
      rw [Int.zero_mul]
      split <;> omega
theorem val_count_after : ∀ ds G, w_count_after ds G → k_count_after ⟨ds.map Sl.fz ++ [.jk, .jk, .jk, .jk, .jk, .jk, .jk], [], 0⟩ (edT G) := by
  rintro ds Gq ⟨n, gs, k, s, rfl, ef, k0, k1, s0, s1, n1, l1, q⟩
  have n0 : 0 ≤ n := ef.nn
  -- behind the straight way
  have rest : ∀ (x L : Int) (a : Sl), 0 ≤ L → L ≤ k → 1 ≤ x → (0 < L → (gs.length : Int) < n → x ≤ n) → (∀ c, HC (n, gs) L.toNat x c → HC (n, gs) k.toNat s c) → kr_count_after_8 ⟨[.fz (dE (n, gs)), .fz (.int L), .fz (.int x), .fz (.int n), .fz (dI gs), .fz (.int gs.length), .fz (.int (n - gs.length)), a, .jk, .jk], [], 0⟩ (edT Gq) := fun x L a hL hLk hx hlow hup => by
    have q := fun c h => q c (hup c h)
    walk_at "go"
    refine iteB (fun c => ?_) (fun c => ?_)
    · have c := of_decide_eq_true c
      subst c
      exact q 1 (HC.zero hx) (by decide)
    have c := of_decide_eq_false c
    refine iteB (fun d => ?_) (fun d => ?_)
    · have d := of_decide_eq_true d
      exact q 1 (HC.one ef (by dsimp only; by_cases h : (gs.length : Int) < n; (have := hlow (by omega) h; omega); omega) d hx _) (by decide)
    have d := of_decide_eq_false d
    walk_at "ev"
    walk_at "go"
    walk_at "go"
    obtain ⟨mm, hm⟩ : ∃ mm : Int, (if (gs.length : Int) < n then (gs.length : Int) else n) = mm := ⟨_, rfl⟩
    rw [hm]
    have m0 : 0 ≤ mm ∧ mm ≤ n ∧ mm ≤ gs.length ∧ (mm = n ∨ mm = gs.length) := by split at hm <;> omega
    refine ⟨⟨by decide, by decide, by omega, by omega⟩, ?_⟩
    refine forL_ints (rg 1 (mm + 1)) (fun pre γ => ∃ y : Sl, γ = ⟨[.fz (dE (n, gs)), .fz (.int L), .fz (.int x), .fz (.int n), .fz (dI gs), .fz (.int gs.length), .fz (.int (n - gs.length)), a, .fz (.int ((pre.filter fun r => decide (itE (n, gs) L.toNat r = x)).length : Nat)), y], [], 0⟩) (fun pre z post γ N hl2 ht hP hN => ?_) (fun γ ht hP => ?_) _ rfl ⟨.jk, rfl⟩
    · obtain ⟨y, rfl⟩ := hP
      obtain ⟨z1, z2⟩ := rg_mid hl2
      unfold kb_count_after_2
      walk_at "ev"
      refine ⟨n, gs, L, z, rfl, ef, hL, by omega, by omega, by omega, n1, l1, ?_⟩
      walk_at "ev"
      refine iteB (fun g => ?_) (fun g => ?_)
      · walk_at "ev"
        refine hN _ rfl ⟨.fz (.int z), ?_⟩
        rw [List.filter_append, List.filter_cons, if_pos g, List.length_append]
        simp
      · walk_at "ev"
        refine hN _ rfl ⟨.fz (.int z), ?_⟩
        rw [List.filter_append, List.filter_cons, if_neg (by rw [g]; decide), List.length_append]
        simp
    · obtain ⟨y, rfl⟩ := hP
      obtain ⟨c0, hc0⟩ : ∃ c0 : Nat, ((rg 1 (mm + 1)).filter fun r => decide (itE (n, gs) L.toNat r = x)).length = c0 := ⟨_, rfl⟩
      have c0b : c0 ≤ 1000 := by
        have h1 := List.length_filter_le (fun r => decide (itE (n, gs) L.toNat r = x)) (rg 1 (mm + 1))
        rw [hc0, rg_length] at h1
        omega
      rw [hc0]
      walk_at "go"
      refine ⟨⟨by omega, by omega, by omega, by omega⟩, ?_⟩
      have lr := rg_length (n + 1) ((gs.length : Int) + 1)
      refine forL_ints (rg (n + 1) ((gs.length : Int) + 1)) (fun pre γ => (∃ y : Sl, γ = ⟨[.fz (dE (n, gs)), .fz (.int L), .fz (.int x), .fz (.int n), .fz (dI gs), .fz (.int gs.length), .fz (.int (n - gs.length)), a, .fz (.int ((c0 + (pre.map (arN (n, gs) L.toNat x)).sum : Nat) : Int)), y], [], 0⟩) ∧ (((pre.map (arN (n, gs) L.toNat x)).sum : Nat) : Int) ≤ pre.length * (L + 1)) (fun pre z post γ N hl2 ht hP hN => ?_) (fun γ ht hP => ?_) _ rfl ⟨⟨y, by simp⟩, by simp⟩
      · obtain ⟨⟨y, rfl⟩, hb⟩ := hP
        obtain ⟨z1, z2⟩ := rg_mid hl2
        unfold kb_count_after_3
        walk_at "ev"
        refine ⟨n, gs, z, x, L, rfl, ef, by omega, by omega, by omega, l1, hL, by omega, fun c hc hcb => ?_⟩
        have ec : c = arN (n, gs) L.toNat x z := Cnt.uniq hc arN_ok
        subst ec
        walk_at "ev"
        refine hN _ rfl ⟨⟨.fz (.int z), ?_⟩, ?_⟩
        · rw [List.map_append, List.sum_append]
          simp
          omega
        · rw [List.map_append, List.sum_append, List.length_append, List.length_singleton, Int.natCast_add, Int.natCast_add, Int.add_mul]
          simp
          omega
      · obtain ⟨⟨y, rfl⟩, hb⟩ := hP
        walk_at "go"
        have bd : (((rg (n + 1) ((gs.length : Int) + 1)).length : Nat) : Int) * (L + 1) ≤ 1000 * (L + 1) := Int.mul_le_mul_of_nonneg_right (by omega) (by omega)
        refine q _ ?_ (by omega)
        by_cases hs : n < gs.length
        · have e1 : mm = n := by omega
          subst e1
          have := HC.deep (e := (mm, gs)) ef hs (s := x) (by dsimp only; omega) (k := L.toNat) (A := arN (mm, gs) L.toNat x) fun y _ => arN_ok
          dsimp only at this
          rw [hc0] at this
          exact this
        · have e1 : mm = gs.length := by omega
          subst e1
          rw [rg_nil (by omega)]
          have := HC.low (e := (n, gs)) ef (by dsimp only; omega) (s := x) (by dsimp only; omega) (k := L.toNat) (by omega)
          dsimp only at this
          rw [hc0] at this
          exact this
  unfold k_count_after
  walk_at "ev"
  walk_at "go"
  walk_at "go"
  refine iteB (fun c => ?_) (fun c => ?_)
  · have c := of_decide_eq_true c
    walk_at "ev"
    refine ⟨s, n, n - gs.length, rfl, by omega, by omega, by omega, by omega, ?_⟩
    walk_at "ev"
    obtain ⟨g1, g2⟩ := @stepsD_gen s n (n - gs.length) (by omega)
    have g0 := @stepsD_ge0 s n (n - gs.length)
    obtain ⟨t, ht⟩ : ∃ t : Nat, (if stepsD s n (n - gs.length) < k then stepsD s n (n - gs.length) else k) = (t : Int) := ⟨(if stepsD s n (n - gs.length) < k then stepsD s n (n - gs.length) else k).toNat, by split <;> omega⟩
    rw [ht]
    have t1 : (t : Int) ≤ k := by split at ht <;> omega
    have t2 : (t : Int) ≤ stepsD s n (n - gs.length) := by split at ht <;> omega
    have t3 : (t : Int) = k ∨ (t : Int) = stepsD s n (n - gs.length) := by split at ht <;> omega
    walk_at "go"
    have pos : 1 ≤ s - t * (n - gs.length) := by
      cases t with
      | zero => simp; omega
      | succ u =>
        have := g1 u (by omega)
        rw [Int.natCast_add, Int.add_mul]
        simp
        omega
    refine ⟨cmulB_of (by omega) (by omega), ?_⟩
    refine rest _ _ _ (by omega) (by omega) pos (fun h1 h2 => ?_) fun c hc => ?_
    · have : (t : Int) = stepsD s n (n - gs.length) := by omega
      rw [this]
      split at g2 <;> omega
    · have := HC.ups ef t s (fun i hi => by
        have := g1 i (by omega)
        exact this) hc
      rwa [show (k - t).toNat + t = k.toNat by omega] at this
  · have c := of_decide_eq_false c
    walk_at "ev"
    exact rest _ _ _ k0 (Int.le_refl _) s0 (fun _ h => by omega) fun c h => h
theorem ok_count_after (p : Prog K mg) : FnG P w K mg base CX0 4 p.f_count_after p.fd_count_after ["one", "number", "spot"] (spT w_count_after) :=
  okT p.d_count_after.F sc_count_after (by decide) ar_count_after (fun cdv A outer s H E hg hr => ⟨_, (pss_cons (ps_asg (pv 0) (pg_tup rfl (pgs_cons (pg_name (i := 3) sc_count_after.nd rfl (Or.inl rfl)) (pgs_cons (pg_name (i := 4) sc_count_after.nd rfl (Or.inl rfl)) pgs_nil))))
      (pss_cons (ps_par (i := 5) (j := 6) rfl sc_count_after.nd rfl rfl (by decide) rfl rfl (pa_cons (pe_callB call_len_seq (by rfl) p.blt.len PySem.boot_len (pa_cons (pv 4) pa_nil)) (pa_cons (pe_op op_sub (pv 3) (pe_callB call_len_seq (by rfl) p.blt.len PySem.boot_len (pa_cons (pv 4) pa_nil))) pa_nil)) (by rfl))
      (pss_cons (ps_if (pt_cmpR op_gt (pv 6) pe_int (nomark _))
      (pss_cons (ps_set (i := 7) sc_count_after.nd rfl (Or.inl rfl) (pe_callB (call_min2 rfl) (by rfl) p.blt.min (by decide +kernel) (pa_cons (pv 1) (pa_cons (pe_callG ((ok_steps_down p).mono (by decide)) hg hr (by rfl) p.d_steps_down.gl p.d_steps_down.kp p.d_steps_down.bd pass0 (pa_cons (pv 2) (pa_cons (pv 3) (pa_cons (pv 6) pa_nil)))) pa_nil))))
      (pss_one (ps_par (i := 2) (j := 1) rfl sc_count_after.nd rfl rfl (by decide) rfl rfl (pa_cons (pe_op op_sub (pv 2) (pe_op op_mulB (pv 7) (pv 6))) (pa_cons (pe_op op_sub (pv 1) (pv 7)) pa_nil)) (by rfl)))) pss_nil)
      (pss_cons (ps_if (PW.pt (pw_or (pt_cmpR op_eq (pv 1) pe_int (nomark _)) (pw_or1 (pt_cmpR op_gt (pv 2) (pv 3) (nomark _)))))
      (pss_one (ps_ret pe_int)) pss_nil)
      (pss_cons (ps_set (i := 8) sc_count_after.nd rfl (Or.inl rfl) pe_int)
      (pss_cons (ps_for PassesOwn.never rfl (pi_range2 (by rfl) p.blt.range (pa_cons pe_int (pa_cons (pe_op op_add (pe_callB (call_min2 rfl) (by rfl) p.blt.min (by decide +kernel) (pa_cons (pv 3) (pa_cons (pv 5) pa_nil))) pe_int) pa_nil))) (pg_name (i := 9) sc_count_after.nd rfl (Or.inl rfl))
      (pss_one (ps_if (pt_cmpR op_eq (pe_callG ((ok_spot_after p).mono (by decide)) hg hr (by rfl) p.d_spot_after.gl p.d_spot_after.kp p.d_spot_after.bd pass0 (pa_cons (pv 0) (pa_cons (pv 1) (pa_cons (pv 9) pa_nil)))) (pv 2) (nomark _))
      (pss_one (ps_aug (i := 8) sc_count_after.nd rfl (Or.inl rfl) pe_int ip_add)) pss_nil)))
      (pss_cons (ps_for PassesOwn.never rfl (pi_range2 (by rfl) p.blt.range (pa_cons (pe_op op_add (pv 3) pe_int) (pa_cons (pe_op op_add (pv 5) pe_int) pa_nil))) (pg_name (i := 9) sc_count_after.nd rfl (Or.inl rfl))
      (pss_one (ps_aug (i := 8) sc_count_after.nd rfl (Or.inl rfl) (pe_callG ((ok_arrivals_at p).mono (by decide)) hg hr (by rfl) p.d_arrivals_at.gl p.d_arrivals_at.kp p.d_arrivals_at.bd pass0 (pa_cons (pv 0) (pa_cons (pv 9) (pa_cons (pv 2) (pa_cons (pv 1) pa_nil))))) ip_add)))
      (pss_one (ps_ret (pv 8)))))))))),
    fun C xc => (so_seq (so_asg (so_frz (i := 0)) (so_gtup (so_gcons (so_gname (i := 3)) (so_gcons (so_gname (i := 4)) so_gnil))))
      (so_seq (so_par (i := 5) (j := 6) (by decide) (so_cons (so_f sc_len (so_cons (so_var (i := 4)) so_nil)) (so_cons (so_op sr_I0 (so_var (i := 3)) (so_f sc_len (so_cons (so_var (i := 4)) so_nil))) so_nil)))
      (so_seq (so_ifS (so_test (so_op sr_B (so_var (i := 6)) (so_c (sca_int _))))
      (so_seq (so_asg (so_f sc_2i (so_cons (so_var (i := 1)) (so_cons (so_callT (so_cons (so_var (i := 2)) (so_cons (so_var (i := 3)) (so_cons (so_var (i := 6)) so_nil)))) so_nil))) (so_gname (i := 7)))
      (so_par (i := 2) (j := 1) (by decide) (so_cons (so_op sr_I0 (so_var (i := 2)) (so_op sr_I (so_var (i := 7)) (so_var (i := 6)))) (so_cons (so_op sr_I0 (so_var (i := 1)) (so_var (i := 7))) so_nil)))) so_next)
      (so_seq (so_ifS (so_tor (so_test (so_op sr_eq (so_var (i := 1)) (so_c (sca_int _)))) (so_test (so_op sr_B (so_var (i := 2)) (so_var (i := 3)))))
      (so_ret (so_c (sca_int _))) so_next)
      (so_seq (so_asg (so_c (sca_int _)) (so_gname (i := 8)))
      (so_seq (so_for (so_rng2 (so_c (sca_int _)) (so_op sr_I0 (so_f sc_2i (so_cons (so_var (i := 3)) (so_cons (so_var (i := 5)) so_nil))) (so_c (sca_int _)))) (so_gname (i := 9))
      (so_ifS (so_test (so_op sr_eq (so_callT (so_cons (so_var (i := 0)) (so_cons (so_var (i := 1)) (so_cons (so_var (i := 9)) so_nil)))) (so_var (i := 2))))
      (so_aug (i := 8) (so_c (sca_int _))) so_next))
      (so_seq (so_for (so_rng2 (so_op sr_I0 (so_var (i := 3)) (so_c (sca_int _))) (so_op sr_I0 (so_var (i := 5)) (so_c (sca_int _)))) (so_gname (i := 9))
      (so_aug (i := 8) (so_callT (so_cons (so_var (i := 0)) (so_cons (so_var (i := 9)) (so_cons (so_var (i := 2)) (so_cons (so_var (i := 1)) so_nil)))))))
      (so_ret (so_var (i := 8))))))))))⟩) val_count_after
def w_ring_size : Tw := fun ds Q => ∃ (n : Int) (gs : List Int) (r : Int), ds = [dE (n, gs), .int r] ∧ Eff (n, gs) ∧ 1 ≤ r ∧ gs.length ≤ 1000 ∧ ∀ P : Nat, RingOk (n, gs) r P → Q (.int P)
theorem ar_ring_size : ∀ ds G, w_ring_size ds G → ds.length = 2 := by
  rintro ds G ⟨n, gs, r, rfl, _⟩
  rfl
def kr_ring_size_1 : KS := (kIfS (kTest (kOp (vEq false) (kVar 2) (kVar 1)))
  (kRet (kVar 3))
  kNext)
def kb_ring_size_2 : KS := (kSeq (kAsg (kCallT w_came_from 2 (kCons (kVar 0) (kCons (kVar 2) kNil))) (kgName 2))
  kr_ring_size_1)
def kr_ring_size_3 : KS := (kRet (kC (.int 1)))
def kr_ring_size_4 : KS := (kSeq (kFor (kRng2 (kC (.int 1)) (kOp (vI noC fun i j => i + j) (kF 1 vLen (kCons (kIx false (kVar 0) (kC (.int 1))) kNil)) (kC (.int 1)))) (kgName 3) kb_ring_size_2)
  kr_ring_size_3)
def k_ring_size : KS := (kSeq (kAsg (kVar 1) (kgName 2))
  kr_ring_size_4)
local macro_rules | `(tactic| walk_at "go") => `(tactic| ((first | unfold kr_ring_size_1 | unfold kr_ring_size_3 | unfold kr_ring_size_4); walk_at "ev"))
theorem val_ring_size : ∀ ds G, w_ring_size ds G → k_ring_size ⟨ds.map Sl.fz ++ [.jk, .jk], [], 0⟩ (edT G) := by
  rintro ds Gq ⟨n, gs, r, rfl, ef, r0, l1, q⟩
  obtain ⟨X, hX⟩ : ∃ X : Nat → Int, X = fun t => itE (n, gs) t r := ⟨_, rfl⟩
  have XX : ∀ j, X j = itE (n, gs) j r := fun j => by rw [hX]
  have X0 : X 0 = r := by rw [XX]; rfl
  have Xs : ∀ t, fromE (n, gs) (X t) = X (t + 1) := fun t => by rw [hX]; exact (it_succ t r).symm
  have Xp : ∀ t, 1 ≤ X t := fun t => by rw [XX]; exact it_ge ef t r0
  have lr := rg_length 1 ((gs.length : Int) + 1)
  unfold k_ring_size
  walk_at "ev"
  walk_at "go"
  refine ⟨by omega, ?_⟩
  refine forL_ints (rg 1 ((gs.length : Int) + 1)) (fun pre γ => ∃ a : Sl, γ = ⟨[.fz (dE (n, gs)), .fz (.int r), .fz (.int (X pre.length)), a], [], 0⟩ ∧ ∀ j : Nat, 1 ≤ j → j ≤ pre.length → X j ≠ r) (fun pre x post γ N hl ht hP hN => ?_) (fun γ ht hP => ?_) _ rfl ⟨.jk, by rw [List.length_nil, X0], fun j j1 j2 => by rw [List.length_nil] at j2; omega⟩
  · obtain ⟨a, rfl, hP⟩ := hP
    obtain ⟨z1, z2⟩ := rg_mid hl
    unfold kb_ring_size_2
    walk_at "ev"
    refine ⟨n, gs, _, rfl, Xp _, ?_⟩
    rw [Xs]
    walk_at "ev"
    walk_at "go"
    refine iteB (fun c => ?_) (fun c => ?_)
    · have c := of_decide_eq_true c
      rw [show x = ((pre.length + 1 : Nat) : Int) by omega]
      exact q _ ⟨by omega, .inl (by dsimp only; omega), .inl (by rw [← XX]; exact c)⟩
    · have c := of_decide_eq_false c
      refine hN _ rfl ⟨.fz (.int x), by rw [List.length_append, List.length_singleton], fun j j1 j2 => ?_⟩
      rw [List.length_append, List.length_singleton] at j2
      by_cases h : j = pre.length + 1
      · rw [h]; exact c
      · exact hP j j1 (by omega)
  · obtain ⟨a, rfl, hP⟩ := hP
    walk_at "go"
    rw [lr] at hP
    exact q 1 ⟨Nat.le_refl _, .inr rfl, .inr fun j j1 j2 => by rw [← XX]; exact hP j j1 (by dsimp only at j2; omega)⟩
theorem ok_ring_size (p : Prog K mg) : FnG P w K mg base CX0 2 p.f_ring_size p.fd_ring_size ["one", "spot"] (spT w_ring_size) :=
  okT p.d_ring_size.F sc_ring_size (by decide) ar_ring_size (fun cdv A outer s H E hg hr => ⟨_, (pss_cons (ps_set (i := 2) sc_ring_size.nd rfl (Or.inl rfl) (pv 1))
      (pss_cons (ps_for PassesOwn.never rfl (pi_range2 (by rfl) p.blt.range (pa_cons pe_int (pa_cons (pe_op op_add (pe_callB call_len_seq (by rfl) p.blt.len PySem.boot_len (pa_cons (pe_ix ix_tup (pv 0) pe_int (fun _ _ => rfl)) pa_nil)) pe_int) pa_nil))) (pg_name (i := 3) sc_ring_size.nd rfl (Or.inl rfl))
      (pss_cons (ps_set (i := 2) sc_ring_size.nd rfl (Or.inl rfl) (pe_callG ((ok_came_from p).mono (by decide)) hg hr (by rfl) p.d_came_from.gl p.d_came_from.kp p.d_came_from.bd pass0 (pa_cons (pv 0) (pa_cons (pv 2) pa_nil))))
      (pss_one (ps_if (pt_cmpR op_eq (pv 2) (pv 1) (nomark _))
      (pss_one (ps_ret (pv 3))) pss_nil))))
      (pss_one (ps_ret pe_int)))),
    fun C xc => (so_seq (so_asg (so_var (i := 1)) (so_gname (i := 2)))
      (so_seq (so_for (so_rng2 (so_c (sca_int _)) (so_op sr_I0 (so_f sc_len (so_cons (so_ixT (so_var (i := 0)) (so_c (sca_int _))) so_nil)) (so_c (sca_int _)))) (so_gname (i := 3))
      (so_seq (so_asg (so_callT (so_cons (so_var (i := 0)) (so_cons (so_var (i := 2)) so_nil))) (so_gname (i := 2)))
      (so_ifS (so_test (so_op sr_eq (so_var (i := 2)) (so_var (i := 1))))
      (so_ret (so_var (i := 3))) so_next)))
      (so_ret (so_c (sca_int _)))))⟩) val_ring_size
def w_size_after_times : Tw := fun ds Q => ∃ (n : Int) (gs : List Int) (k : Int), ds = [dE (n, gs), .int k] ∧ Eff (n, gs) ∧ 0 ≤ k ∧ k < 2 ^ 103 ∧ n ≤ 6 ∧ gs.length ≤ 8 ∧ Q (.tuple [.int (powE (n, gs) k.toNat).1, .int (powE (n, gs) k.toNat).2.length])
theorem ar_size_after_times : ∀ ds G, w_size_after_times ds G → ds.length = 2 := by
  rintro ds G ⟨n, gs, k, rfl, _⟩
  rfl
def kr_size_after_times_1 : KS := (kPar 5 6 (kCons (kOp (vI noC fun i j => i - j) (kVar 5) (kC (.int 1))) (kCons (kOp (vI noC fun i j => i - j) (kVar 6) (kC (.int 1))) kNil)))
def kb_size_after_times_2 : KS := (kSeq (kIfS (kTest (kOp (vB fun i j => decide (j < i)) (kCallT w_count_after 3 (kCons (kVar 0) (kCons (kVar 1) (kCons (kVar 5) kNil)))) (kC (.int 1))))
  kBreak
  kNext)
  kr_size_after_times_1)
def kr_size_after_times_3 : KS := (kRet (kMk false 2 (kCons (kVar 5) (kCons (kVar 6) kNil))))
def kr_size_after_times_4 : KS := (kSeq (kWhile (kTAnd (kTest (kOp (vB fun i j => decide (j < i)) (kVar 5) (kC (.int 0)))) (kTAnd (kTest (kOp (vB fun i j => decide (j < i)) (kVar 6) (kC (.int 0)))) (kTest (kOp (vEq false) (kCallT w_spot_after 3 (kCons (kVar 0) (kCons (kVar 1) (kCons (kVar 6) kNil)))) (kVar 5))))) kb_size_after_times_2)
  kr_size_after_times_3)
def kr_size_after_times_5 : KS := (kSeq (kAsg (kOp (vI noC fun i j => i - j) (kVar 5) (kOp (vI CMulB fun i j => i * j) (kVar 1) (kVar 4))) (kgName 6))
  kr_size_after_times_4)
def kr_size_after_times_6 : KS := (kSeq (kAsg (kIf (kTest (kOp (vB fun i j => decide (j < i)) (kVar 1) (kC (.int 0)))) (kOp (vI noC fun i j => i + j) (kVar 2) (kOp (vI CMulB fun i j => i * j) (kF 2 (v2I fun i j => if j > i then j else i) (kCons (kC (.int 0)) (kCons (kVar 4) kNil))) (kOp (vI noC fun i j => i - j) (kVar 1) (kC (.int 1))))) (kC (.int 0))) (kgName 5))
  kr_size_after_times_5)
def kr_size_after_times_7 : KS := (kSeq (kAsg (kOp (vI noC fun i j => i - j) (kVar 2) (kF 1 vLen (kCons (kVar 3) kNil))) (kgName 4))
  kr_size_after_times_6)
def k_size_after_times : KS := (kSeq (kAsg (kFrz 0) (kgTup 2 (kgCons (kgName 2) (kgCons (kgName 3) kgNil))))
  kr_size_after_times_7)
local macro_rules | `(tactic| walk_at "go") => `(tactic| ((first | unfold kr_size_after_times_1 | unfold kr_size_after_times_3 | unfold kr_size_after_times_4 | unfold kr_size_after_times_5 | unfold kr_size_after_times_6 | unfold kr_size_after_times_7); walk_at "ev"))
theorem val_size_after_times : ∀ ds G, w_size_after_times ds G → k_size_after_times ⟨ds.map Sl.fz ++ [.jk, .jk, .jk, .jk, .jk], [], 0⟩ (edT G) := by
  rintro ds Gq ⟨n, gs, k, rfl, ef, k0, k1, n1, l1, q⟩
  have n0 : 0 ≤ n := ef.nn
  unfold k_size_after_times
  walk_at "ev"
  walk_at "go"
  walk_at "go"
  -- behind the beginning
  have rest : ∀ D L : Int, Fit (n, gs) k.toNat D L → 0 < k → D ≤ 2 ^ 107 → L ≤ 2 ^ 108 → kr_size_after_times_4 ⟨[.fz (dE (n, gs)), .fz (.int k), .fz (.int n), .fz (dI gs), .fz (.int (n - gs.length)), .fz (.int D), .fz (.int L)], [], 0⟩ (edT Gq) := fun D L hF kp hD hL => by
    have out : ∀ d l : Int, Siz (n, gs) k.toNat d l → kr_size_after_times_3 ⟨[.fz (dE (n, gs)), .fz (.int k), .fz (.int n), .fz (dI gs), .fz (.int (n - gs.length)), .fz (.int d), .fz (.int l)], [], 0⟩ (edT Gq) := fun d l h => by
      obtain ⟨e1, e2⟩ := siz_pow ef h
      rw [e1, e2] at q
      walk_at "go"
      exact q
    unfold kr_size_after_times_4
    refine ⟨fun m γ => ∃ d l : Int, (m : Int) = d ∧ d ≤ D ∧ l ≤ L ∧ Fit (n, gs) k.toNat d l ∧ γ = ⟨[.fz (dE (n, gs)), .fz (.int k), .fz (.int n), .fz (dI gs), .fz (.int (n - gs.length)), .fz (.int d), .fz (.int l)], [], 0⟩, ⟨D.toNat, D, L, by have := hF.d0; omega, Int.le_refl _, Int.le_refl _, hF, rfl⟩, ?_⟩
    rintro m γ ⟨d, l, hm, hd, hl, hf, rfl⟩
    have d0 := hf.d0
    have l0 := hf.l0
    have kk : 0 < k.toNat := by omega
    walk_at "ev"
    refine iteB (fun c1 => ?_) (fun c1 => out d l ⟨hf, .inl (by have := of_decide_eq_false c1; omega)⟩)
    refine iteB (fun c2 => ?_) (fun c2 => out d l ⟨hf, .inr (.inl (by have := of_decide_eq_false c2; omega))⟩)
    have c1 := of_decide_eq_true c1
    have c2 := of_decide_eq_true c2
    have fl := fit_less ef hf c1 c2
    refine ⟨n, gs, k, l, rfl, ef, k0, by omega, by omega, by omega, by omega, by omega, ?_⟩
    walk_at "ev"
    refine iteB (fun c3 => ?_) (fun c3 => out d l ⟨hf, .inr (.inr fun g => of_decide_eq_false c3 (fl.mp g).1)⟩)
    have c3 := of_decide_eq_true c3
    unfold kb_size_after_times_2
    walk_at "ev"
    refine ⟨n, gs, k, d, rfl, ef, k0, by omega, by omega, by omega, by omega, by omega, fun c hc hb => ?_⟩
    walk_at "ev"
    obtain ⟨hs, nh, mh, lh⟩ := hc
    refine iteB (fun c4 => ?_) (fun c4 => ?_)
    · have c4 := of_decide_eq_true c4
      refine out d l ⟨hf, .inr (.inr fun g => ?_)⟩
      have one := (fl.mp g).2
      have : hs.length ≤ [l].length := nh.length_le_of_subset fun r hr => by
        have := (mh r).mp hr
        simp [one r this.1 this.2]
      simp at this
      omega
    · have c4 := of_decide_eq_false c4
      have g : Fit (n, gs) k.toNat (d - 1) (l - 1) := fl.mpr ⟨c3, fun r h1 h2 => by
        apply Classical.byContradiction
        intro no
        have sub : ∀ x ∈ [r, l], x ∈ hs := fun x hx => by
          simp at hx
          rcases hx with rfl | rfl
          · exact (mh _).mpr ⟨h1, h2⟩
          · exact (mh _).mpr ⟨by omega, c3⟩
        have := (show [r, l].Nodup by simp [no]).length_le_of_subset sub
        simp at this
        omega⟩
      walk_at "go"
      exact ⟨m - 1, by omega, d - 1, l - 1, by omega, by omega, by omega, g, rfl⟩
  refine iteB (fun c => ?_) (fun c => ?_)
  · have c := of_decide_eq_true c
    have fs := fit_start (k := k.toNat) ef (by omega)
    dsimp only at fs
    rw [show ((k.toNat : Nat) : Int) = k by omega] at fs
    obtain ⟨s, hs⟩ : ∃ s : Int, n - (gs.length : Int) = s := ⟨_, rfl⟩
    obtain ⟨M, hM⟩ : ∃ M : Int, (if n - (gs.length : Int) > 0 then n - (gs.length : Int) else 0) = M := ⟨_, rfl⟩
    rw [show (if 0 < n - (gs.length : Int) then n - (gs.length : Int) else 0) = M from hM] at fs
    have m0 : 0 ≤ M ∧ M ≤ 6 := by rw [← hM]; split <;> omega
    have mk0 : 0 ≤ M * (k - 1) := Int.mul_nonneg m0.1 (by omega)
    have mk1 : M * (k - 1) ≤ 6 * k := Int.le_trans (Int.mul_le_mul_of_nonneg_right m0.2 (by omega)) (by omega)
    have ks : -(8 * k) ≤ k * (n - gs.length) := by
      have : k * (-8) ≤ k * (n - gs.length) := Int.mul_le_mul_of_nonneg_left (by omega) k0
      omega
    rw [hM]
    refine ⟨cmulB_of (by omega) (by omega), ?_⟩
    walk_at "go"
    refine ⟨cmulB_of (by omega) (by omega), ?_⟩
    exact rest _ _ fs c (by omega) (by omega)
  · have c := of_decide_eq_false c
    have : k = 0 := by omega
    subst this
    walk_at "go"
    refine ⟨cmulB_of (by omega) (by omega), ?_⟩
    rw [Int.zero_mul, Int.sub_zero]
    unfold kr_size_after_times_4
    refine ⟨fun m γ => γ = ⟨[.fz (dE (n, gs)), .fz (.int 0), .fz (.int n), .fz (dI gs), .fz (.int (n - gs.length)), .fz (.int 0), .fz (.int 0)], [], 0⟩, ⟨0, rfl⟩, ?_⟩
    rintro m γ rfl
    walk_at "ev"
    refine iteB (fun z => absurd z (by decide)) (fun _ => ?_)
    walk_at "go"
    exact q
theorem ok_size_after_times (p : Prog K mg) : FnG P w K mg base CX0 5 p.f_size_after_times p.fd_size_after_times ["one", "number"] (spT w_size_after_times) :=
  okT p.d_size_after_times.F sc_size_after_times (by decide) ar_size_after_times (fun cdv A outer s H E hg hr => ⟨_, (pss_cons (ps_asg (pv 0) (pg_tup rfl (pgs_cons (pg_name (i := 2) sc_size_after_times.nd rfl (Or.inl rfl)) (pgs_cons (pg_name (i := 3) sc_size_after_times.nd rfl (Or.inl rfl)) pgs_nil))))
      (pss_cons (ps_set (i := 4) sc_size_after_times.nd rfl (Or.inl rfl) (pe_op op_sub (pv 2) (pe_callB call_len_seq (by rfl) p.blt.len PySem.boot_len (pa_cons (pv 3) pa_nil))))
      (pss_cons (ps_set (i := 5) sc_size_after_times.nd rfl (Or.inl rfl) (pe_ifExp (pt_cmpR op_gt (pv 1) pe_int (nomark _)) (pe_op op_add (pv 2) (pe_op op_mulB (pe_callB (call_max2 rfl) (by rfl) p.blt.max (by decide +kernel) (pa_cons pe_int (pa_cons (pv 4) pa_nil))) (pe_op op_sub (pv 1) pe_int))) pe_int))
      (pss_cons (ps_set (i := 6) sc_size_after_times.nd rfl (Or.inl rfl) (pe_op op_sub (pv 5) (pe_op op_mulB (pv 1) (pv 4))))
      (pss_cons (ps_while PassesOwn.never (PW.pt (pw_and (pt_cmpR op_gt (pv 5) pe_int (nomark _)) (pw_and (pt_cmpR op_gt (pv 6) pe_int (nomark _)) (pw_and1 (pt_cmpR op_eq (pe_callG ((ok_spot_after p).mono (by decide)) hg hr (by rfl) p.d_spot_after.gl p.d_spot_after.kp p.d_spot_after.bd pass0 (pa_cons (pv 0) (pa_cons (pv 1) (pa_cons (pv 6) pa_nil)))) (pv 5) (nomark _))))))
      (pss_cons (ps_if (pt_cmpR op_gt (pe_callG ((ok_count_after p).mono (by decide)) hg hr (by rfl) p.d_count_after.gl p.d_count_after.kp p.d_count_after.bd pass0 (pa_cons (pv 0) (pa_cons (pv 1) (pa_cons (pv 5) pa_nil)))) pe_int (nomark _))
      (pss_one ps_break) pss_nil)
      (pss_one (ps_par (i := 5) (j := 6) rfl sc_size_after_times.nd rfl rfl (by decide) rfl rfl (pa_cons (pe_op op_sub (pv 5) pe_int) (pa_cons (pe_op op_sub (pv 6) pe_int) pa_nil)) (by rfl)))))
      (pss_one (ps_ret (pe_tup (pa_cons (pv 5) (pa_cons (pv 6) pa_nil)))))))))),
    fun C xc => (so_seq (so_asg (so_frz (i := 0)) (so_gtup (so_gcons (so_gname (i := 2)) (so_gcons (so_gname (i := 3)) so_gnil))))
      (so_seq (so_asg (so_op sr_I0 (so_var (i := 2)) (so_f sc_len (so_cons (so_var (i := 3)) so_nil))) (so_gname (i := 4)))
      (so_seq (so_asg (so_if (so_test (so_op sr_B (so_var (i := 1)) (so_c (sca_int _)))) (so_op sr_I0 (so_var (i := 2)) (so_op sr_I (so_f sc_2i (so_cons (so_c (sca_int _)) (so_cons (so_var (i := 4)) so_nil))) (so_op sr_I0 (so_var (i := 1)) (so_c (sca_int _))))) (so_c (sca_int _))) (so_gname (i := 5)))
      (so_seq (so_asg (so_op sr_I0 (so_var (i := 5)) (so_op sr_I (so_var (i := 1)) (so_var (i := 4)))) (so_gname (i := 6)))
      (so_seq (so_while (so_tand (so_test (so_op sr_B (so_var (i := 5)) (so_c (sca_int _)))) (so_tand (so_test (so_op sr_B (so_var (i := 6)) (so_c (sca_int _)))) (so_test (so_op sr_eq (so_callT (so_cons (so_var (i := 0)) (so_cons (so_var (i := 1)) (so_cons (so_var (i := 6)) so_nil)))) (so_var (i := 5))))))
      (so_seq (so_ifS (so_test (so_op sr_B (so_callT (so_cons (so_var (i := 0)) (so_cons (so_var (i := 1)) (so_cons (so_var (i := 5)) so_nil)))) (so_c (sca_int _))))
      so_break so_next)
      (so_par (i := 5) (j := 6) (by decide) (so_cons (so_op sr_I0 (so_var (i := 5)) (so_c (sca_int _))) (so_cons (so_op sr_I0 (so_var (i := 6)) (so_c (sca_int _))) so_nil)))))
      (so_ret (so_tup (so_cons (so_var (i := 5)) (so_cons (so_var (i := 6)) so_nil)))))))))⟩) val_size_after_times
def w_counts_told : Tw := fun ds Q => ∃ (n : Int) (gs : List Int) (r : Int), ds = [dE (n, gs), .int r] ∧ Eff (n, gs) ∧ 1 ≤ r ∧ r ≤ 100 ∧ n ≤ 6 ∧ gs.length ≤ 8 ∧
  ∀ (S : Nat) (low : Int), UpOk (n, gs) r S low → ∀ (h L : Nat) (g : Int), Tell (cV (n, gs) S low) h L g → h ≤ 1000 → L ≤ 1000 → Q (.tuple [dI ((List.range h).map (cV (n, gs) S low)), dI ((List.range L).map fun j => cV (n, gs) S low (h + j)), .int g])
theorem ar_counts_told : ∀ ds G, w_counts_told ds G → ds.length = 2 := by
  rintro ds G ⟨n, gs, r, rfl, _⟩
  rfl
def kr_counts_told_1 : KS := (kRet (kCallT w_told_way 4 (kCons (kCat (kRepN (kLit (.list [(.int 1)])) (kVar 5)) (kVar 9)) (kCons (kOp (vI noC fun i j => i + j) (kVar 5) (kVar 7)) (kCons (kVar 8) (kCons (kOp (vI noC fun i j => i - j) (kIx true (kVar 9) (kOp (vI noC fun i j => i + j) (kVar 7) (kVar 8))) (kIx true (kVar 9) (kVar 7))) kNil))))))
def kr_counts_told_2 : KS := (kSeq (kAsg (kLc (kRng1 (kOp (vI noC fun i j => i + j) (kOp (vI noC fun i j => i + j) (kVar 7) (kVar 8)) (kC (.int 1)))) 10 kYes (kCallT w_count_after 3 (kCons (kVar 0) (kCons (kVar 10) (kCons (kVar 6) kNil))))) (kgName 9))
  kr_counts_told_1)
def kr_counts_told_3 : KS := (kSeq (kAsg (kCallT w_ring_size 2 (kCons (kVar 0) (kCons (kVar 6) kNil))) (kgName 8))
  kr_counts_told_2)
def kr_counts_told_4 : KS := (kSeq (kAsg (kMk false 2 (kCons (kOp (vI noC fun i j => i - j) (kVar 1) (kOp (vI CMulB fun i j => i * j) (kVar 5) (kVar 4))) (kCons (kOp (vI noC fun i j => i + j) (kF 1 vLen (kCons (kVar 3) kNil)) (kC (.int 1))) kNil))) (kgTup 2 (kgCons (kgName 6) (kgCons (kgName 7) kgNil))))
  kr_counts_told_3)
def kr_counts_told_5 : KS := (kSeq (kAsg (kIf (kTest (kOp (vB fun i j => decide (j < i)) (kVar 4) (kC (.int 0)))) (kCallT w_steps_down 3 (kCons (kVar 1) (kCons (kVar 2) (kCons (kVar 4) kNil)))) (kC (.int 0))) (kgName 5))
  kr_counts_told_4)
def kr_counts_told_6 : KS := (kSeq (kIfS (kTAnd (kTest (kOp (vB fun i j => decide (j < i)) (kVar 1) (kVar 2))) (kTest (kOp (vB fun i j => decide (i ≤ j)) (kVar 4) (kC (.int 0)))))
  (kRet (kLit (.tuple [(.list []), (.list [(.int 1)]), (.int 0)])))
  kNext)
  kr_counts_told_5)
def kr_counts_told_7 : KS := (kSeq (kAsg (kOp (vI noC fun i j => i - j) (kVar 2) (kF 1 vLen (kCons (kVar 3) kNil))) (kgName 4))
  kr_counts_told_6)
def k_counts_told : KS := (kSeq (kAsg (kFrz 0) (kgTup 2 (kgCons (kgName 2) (kgCons (kgName 3) kgNil))))
  kr_counts_told_7)
local macro_rules | `(tactic| walk_at "go") => `(tactic| ((first | unfold kr_counts_told_1 | unfold kr_counts_told_2 | unfold kr_counts_told_3 | unfold kr_counts_told_4 | unfold kr_counts_told_5 | unfold kr_counts_told_6 | unfold kr_counts_told_7); walk_at "ev"))
theorem val_counts_told : ∀ ds G, w_counts_told ds G → k_counts_told ⟨ds.map Sl.fz ++ [.jk, .jk, .jk, .jk, .jk, .jk, .jk, .jk, .jk], [], 0⟩ (edT G) := by
  rintro ds Gq ⟨n, gs, r, rfl, ef, r0, r1, n1, l1, q⟩
  have n0 : 0 ≤ n := ef.nn
  have u := up_ok (e := (n, gs)) ef r0 (fun h => stepsD_gen h) stepsD_ge0
  dsimp only at u
  obtain ⟨S, hS⟩ : ∃ S : Nat, (if 0 < n - (gs.length : Int) then stepsD r n (n - gs.length) else 0) = S := by
    refine ⟨(if 0 < n - (gs.length : Int) then stepsD r n (n - gs.length) else 0).toNat, ?_⟩
    have := @stepsD_ge0 r n (n - gs.length)
    split <;> omega
  rw [hS, Int.toNat_natCast] at u
  obtain ⟨low, hlow⟩ : ∃ low, r - (S : Int) * (n - gs.length) = low := ⟨_, rfl⟩
  rw [hlow] at u
  have S1 := u.sr
  have lp := u.pos
  have q := q S low u
  have rest : low ≤ n → kr_counts_told_4 ⟨[.fz (dE (n, gs)), .fz (.int r), .fz (.int n), .fz (dI gs), .fz (.int (n - gs.length)), .fz (.int S), .jk, .jk, .jk, .jk, .jk], [], 0⟩ (edT Gq) := fun ll => by
    walk_at "go"
    rw [hlow]
    refine ⟨cmulB_of (by omega) (by omega), ?_⟩
    walk_at "go"
    refine ⟨n, gs, low, rfl, ef, lp, by omega, fun P hR => ?_⟩
    walk_at "ev"
    have P1 := hR.1
    have P8 : P ≤ 8 := by
      have := hR.2.1
      dsimp only at this
      omega
    obtain ⟨c, hc⟩ := cRow_per (P := P) ef lp ll (K0 := gs.length + 1) (by omega) fun x h1 h2 k hk => ring_key ef ll hR h1 h2 hk
    have per := cV_per (S := S) ll hc
    have cb : c ≤ 1000 := by
      have a := hc (gs.length + 1) (Nat.le_refl _)
      have b := cRow_le (k := gs.length + 1 + P) ef n1 l1 lp ll
      omega
    walk_at "go"
    refine ⟨by omega, ?_⟩
    refine lc_ints' (rg 0 ((gs.length : Int) + 1 + P + 1)) (fun k => (cRow (n, gs) k.toNat low : Int)) rfl rfl (by rw [rg_length]; omega) (fun x hx acc Y hY => ?_) ?_
    · have hx := mem_rg.mp hx
      walk_at "ev"
      refine ⟨n, gs, x, low, rfl, ef, by omega, by omega, lp, by omega, by omega, by omega, fun d hd hb => ?_⟩
      have := hd.uniq (HC.row ef x.toNat lp ll)
      subst this
      walk_at "ev"
      exact hY
    walk_at "ev"
    have el : (rg 0 ((gs.length : Int) + 1 + P + 1)).map (fun k => (cRow (n, gs) k.toNat low : Int)) = (List.range (gs.length + 1 + P + 1)).map fun k => (cRow (n, gs) k low : Int) := by
      unfold rg
      rw [List.map_map, show ((gs.length : Int) + 1 + P + 1 - 0).toNat = gs.length + 1 + P + 1 by omega]
      refine List.map_congr_left fun k _ => ?_
      show (cRow (n, gs) (0 + (k : Int)).toNat low : Int) = _
      rw [show (0 + (k : Int)).toNat = k by omega]
    rw [el]
    walk_at "go"
    rw [show intsOf [PyData.int 1] = some [1] from rfl]
    walk_at "ev"
    have fl : (List.replicate ((S : Int)).toNat [(1 : Int)]).flatten = List.replicate S 1 := by
      rw [Int.toNat_natCast]
      clear hS
      induction S with
      | zero => rfl
      | succ S ih => rw [List.replicate_succ, List.flatten_cons, List.replicate_succ]; simp
    rw [fl]
    refine ⟨⟨by omega, by omega, by decide⟩, by rw [List.length_replicate, List.length_range]; omega, ?_⟩
    refine ixD_ints (by omega) (by rw [List.length_map, List.length_range]; omega) ?_
    rw [show ((gs.length : Int) + 1 + P).toNat = gs.length + 1 + P by omega, rm_get (v := fun k => (cRow (n, gs) k low : Int)) (by omega)]
    refine ixD_ints (by omega) (by rw [List.length_map, List.length_range]; omega) ?_
    rw [show ((gs.length : Int) + 1).toNat = gs.length + 1 by omega, rm_get (v := fun k => (cRow (n, gs) k low : Int)) (by omega)]
    walk_at "ev"
    have e60 : (2 : Int) ^ 60 = 1152921504606846976 := by decide
    refine ⟨cV (n, gs) S low, S + (gs.length + 1 + P + 1), S + (gs.length + 1), P, c, ?_, by omega, per, by omega, by omega, by omega, by omega, by omega, fun h L g tl hh hL => ?_⟩
    · rw [cV_list ll, hc (gs.length + 1) (Nat.le_refl _), show ((cRow (n, gs) (gs.length + 1) low + c : Nat) : Int) - (cRow (n, gs) (gs.length + 1) low : Int) = c by omega, show ((S + (gs.length + 1) : Nat) : Int) = (S : Int) + ((gs.length : Int) + 1) by omega, ← List.map_append]
    · exact q h L g tl (by omega) (by omega)
  unfold k_counts_told
  walk_at "ev"
  walk_at "go"
  walk_at "go"
  have go5 : low ≤ n → kr_counts_told_5 ⟨[.fz (dE (n, gs)), .fz (.int r), .fz (.int n), .fz (dI gs), .fz (.int (n - gs.length)), .jk, .jk, .jk, .jk, .jk, .jk], [], 0⟩ (edT Gq) := fun ll => by
    have rest := rest ll
    walk_at "go"
    refine iteB (fun c => ?_) (fun c => ?_)
    · have c := of_decide_eq_true c
      rw [if_pos c] at hS
      refine ⟨r, n, n - gs.length, rfl, by omega, by omega, by omega, by omega, ?_⟩
      rw [hS]
      walk_at "ev"
      exact rest
    · have c := of_decide_eq_false c
      rw [if_neg c] at hS
      rw [← hS] at rest
      walk_at "ev"
      exact rest
  have up : n < low → n < r ∧ n - (gs.length : Int) ≤ 0 := fun h => by
    obtain ⟨h1, h2⟩ := u.hi h
    dsimp only at h1
    subst h2
    simp at hlow
    omega
  refine iteB (fun c => ?_) (fun c => go5 ?_)
  · have c := of_decide_eq_true c
    refine iteB (fun c2 => ?_) (fun c2 => go5 ?_)
    · have c2 := of_decide_eq_true c2
      rw [if_neg (by omega)] at hS
      have S0 : S = 0 := by omega
      have hl : n < low := by
        rw [← hlow, S0]
        simp
        exact c
      have := q 0 1 0 (cV_one hl) (by decide) (by decide)
      have e1 : cV (n, gs) S low (0 + 0) = 1 := if_pos hl
      have e2 : (PyData.tuple [dI ((List.range 0).map (cV (n, gs) S low)), dI ((List.range 1).map fun j => cV (n, gs) S low (0 + j)), .int 0]) = .tuple [.list [], .list [.int 1], .int 0] := by
        rw [show List.range 1 = [0] from rfl, List.map_singleton, e1]
        rfl
      rw [e2] at this
      exact this
    · have c2 := of_decide_eq_false c2
      apply Classical.byContradiction
      intro no
      have := up (by omega)
      omega
  · have c := of_decide_eq_false c
    apply Classical.byContradiction
    intro no
    have := up (by omega)
    omega
theorem ok_counts_told (p : Prog K mg) : FnG P w K mg base CX0 5 p.f_counts_told p.fd_counts_told ["one", "spot"] (spT w_counts_told) :=
  okT p.d_counts_told.F sc_counts_told (by decide) ar_counts_told (fun cdv A outer s H E hg hr => ⟨_, (pss_cons (ps_asg (pv 0) (pg_tup rfl (pgs_cons (pg_name (i := 2) sc_counts_told.nd rfl (Or.inl rfl)) (pgs_cons (pg_name (i := 3) sc_counts_told.nd rfl (Or.inl rfl)) pgs_nil))))
      (pss_cons (ps_set (i := 4) sc_counts_told.nd rfl (Or.inl rfl) (pe_op op_sub (pv 2) (pe_callB call_len_seq (by rfl) p.blt.len PySem.boot_len (pa_cons (pv 3) pa_nil))))
      (pss_cons (ps_if (PW.pt (pw_and (pt_cmpR op_gt (pv 1) (pv 2) (nomark _)) (pw_and1 (pt_cmpR op_le (pv 4) pe_int (nomark _)))))
      (pss_one (ps_ret (pe_tup (pa_cons (pe_lst pa_nil) (pa_cons (pe_lst (pa_cons pe_int pa_nil)) (pa_cons pe_int pa_nil)))))) pss_nil)
      (pss_cons (ps_set (i := 5) sc_counts_told.nd rfl (Or.inl rfl) (pe_ifExp (pt_cmpR op_gt (pv 4) pe_int (nomark _)) (pe_callG ((ok_steps_down p).mono (by decide)) hg hr (by rfl) p.d_steps_down.gl p.d_steps_down.kp p.d_steps_down.bd pass0 (pa_cons (pv 1) (pa_cons (pv 2) (pa_cons (pv 4) pa_nil)))) pe_int))
      (pss_cons (ps_asg (pe_tup (pa_cons (pe_op op_sub (pv 1) (pe_op op_mulB (pv 5) (pv 4))) (pa_cons (pe_op op_add (pe_callB call_len_seq (by rfl) p.blt.len PySem.boot_len (pa_cons (pv 3) pa_nil)) pe_int) pa_nil))) (pg_tup rfl (pgs_cons (pg_name (i := 6) sc_counts_told.nd rfl (Or.inr rfl)) (pgs_cons (pg_name (i := 7) sc_counts_told.nd rfl (Or.inl rfl)) pgs_nil))))
      (pss_cons (ps_set (i := 8) sc_counts_told.nd rfl (Or.inl rfl) (pe_callG ((ok_ring_size p).mono (by decide)) hg hr (by rfl) p.d_ring_size.gl p.d_ring_size.kp p.d_ring_size.bd pass0 (pa_cons (pv 0) (pa_cons (pv 6) pa_nil))))
      (pss_cons (ps_setLc (i := 9) (own := [("number", 10)]) (g := gName 10) (tt := tYes) rfl sc_counts_told.nd rfl rfl (sw_true rfl rfl rfl (by decide +kernel)) (pi_range1 (by rfl) p.blt.range (pa_cons (pe_op op_add (pe_op op_add (pv 7) (pv 8)) pe_int) pa_nil)) (blkOk_by (N := N_counts_told) (sc := defScope s_counts_told) (by decide +kernel)) (fun _ _ _ _ _ => pg_name (i := 10) sc_counts_told.nd rfl (Or.inl rfl)) (fun _ _ _ _ _ => pts_nil) (fun _ _ _ _ _ => (pe_callG ((ok_count_after p).mono (by decide)) hg hr (by rfl) p.d_count_after.gl p.d_count_after.kp p.d_count_after.bd pass0 (pa_cons (pv 0) (pa_cons (pv 10) (pa_cons (pv 6) pa_nil))))))
      (pss_one (ps_ret (pe_callG ((ok_told_way p).mono (by decide)) hg hr (by rfl) p.d_told_way.gl p.d_told_way.kp p.d_told_way.bd pass0 (pa_cons (pe_op op_cat (pe_op op_rep (pe_lst (pa_cons pe_int pa_nil)) (pv 5)) (pv 9)) (pa_cons (pe_op op_add (pv 5) (pv 7)) (pa_cons (pv 8) (pa_cons (pe_op op_sub (pe_ix ix_list (pv 9) (pe_op op_add (pv 7) (pv 8)) (fun _ _ => rfl)) (pe_ix ix_list (pv 9) (pv 7) (fun _ _ => rfl))) pa_nil)))))))))))))),
    fun C xc => (so_seq (so_asg (so_frz (i := 0)) (so_gtup (so_gcons (so_gname (i := 2)) (so_gcons (so_gname (i := 3)) so_gnil))))
      (so_seq (so_asg (so_op sr_I0 (so_var (i := 2)) (so_f sc_len (so_cons (so_var (i := 3)) so_nil))) (so_gname (i := 4)))
      (so_seq (so_ifS (so_tand (so_test (so_op sr_B (so_var (i := 1)) (so_var (i := 2)))) (so_test (so_op sr_B (so_var (i := 4)) (so_c (sca_int _)))))
      (so_ret (so_lit_tup (so_lits_cons (so_lit_lst so_lits_nil) (so_lits_cons (so_lit_lst (so_lits_cons (so_lit_c (sca_int _) rfl) so_lits_nil)) (so_lits_cons (so_lit_c (sca_int _) rfl) so_lits_nil))))) so_next)
      (so_seq (so_asg (so_if (so_test (so_op sr_B (so_var (i := 4)) (so_c (sca_int _)))) (so_callT (so_cons (so_var (i := 1)) (so_cons (so_var (i := 2)) (so_cons (so_var (i := 4)) so_nil)))) (so_c (sca_int _))) (so_gname (i := 5)))
      (so_seq (so_asg (so_tup (so_cons (so_op sr_I0 (so_var (i := 1)) (so_op sr_I (so_var (i := 5)) (so_var (i := 4)))) (so_cons (so_op sr_I0 (so_f sc_len (so_cons (so_var (i := 3)) so_nil)) (so_c (sca_int _))) so_nil))) (so_gtup (so_gcons (so_gname (i := 6)) (so_gcons (so_gname (i := 7)) so_gnil))))
      (so_seq (so_asg (so_callT (so_cons (so_var (i := 0)) (so_cons (so_var (i := 6)) so_nil))) (so_gname (i := 8)))
      (so_seq (so_asg (so_lc (so_rng1 (so_op sr_I0 (so_op sr_I0 (so_var (i := 7)) (so_var (i := 8))) (so_c (sca_int _)))) so_yes (so_callT (so_cons (so_var (i := 0)) (so_cons (so_var (i := 10)) (so_cons (so_var (i := 6)) so_nil))))) (so_gname (i := 9)))
      (so_ret (so_callT (so_cons (so_cat (so_repN (so_lit_lst (so_lits_cons (so_lit_c (sca_int _) rfl) so_lits_nil)) (so_var (i := 5))) (so_var (i := 9))) (so_cons (so_op sr_I0 (so_var (i := 5)) (so_var (i := 7))) (so_cons (so_var (i := 8)) (so_cons (so_op sr_I0 (so_ixL (so_var (i := 9)) (so_op sr_I0 (so_var (i := 7)) (so_var (i := 8)))) (so_ixL (so_var (i := 9)) (so_var (i := 7)))) so_nil)))))))))))))⟩) val_counts_told
def w_lost_from : Tw := fun ds Q => ∃ (n : Int) (gs : List Int) (r : Int), ds = [dE (n, gs), .int r] ∧ Eff (n, gs) ∧ n ≤ 1000 ∧ gs.length ≤ 1000 ∧ 1 ≤ r ∧ r < 2 ^ 105 ∧ ∀ o, GN (n, gs) r o → MB o → Q (oD o)
theorem ar_lost_from : ∀ ds G, w_lost_from ds G → ds.length = 2 := by
  rintro ds G ⟨n, gs, r, rfl, _⟩
  rfl
def kb_lost_from_1 : KS := (kIfS (kTest (kOp (vEq false) (kCallT w_count_after 3 (kCons (kVar 0) (kCons (kOp (vI noC fun i j => i + j) (kVar 5) (kVar 6)) (kCons (kVar 1) kNil)))) (kC (.int 0))))
  (kRet (kOp (vI noC fun i j => i + j) (kVar 5) (kVar 6)))
  kNext)
def kr_lost_from_2 : KS := (kRet (kC .none))
def kr_lost_from_3 : KS := (kSeq (kFor (kRng2 (kC (.int 1)) (kOp (vI noC fun i j => i + j) (kVar 2) (kC (.int 2)))) (kgName 6) kb_lost_from_1)
  kr_lost_from_2)
def kr_lost_from_4 : KS := (kSeq (kAsg (kIf (kTest (kOp (vB fun i j => decide (j < i)) (kVar 4) (kC (.int 0)))) (kCallT w_steps_down 3 (kCons (kVar 1) (kCons (kVar 2) (kCons (kVar 4) kNil)))) (kC (.int 0))) (kgName 5))
  kr_lost_from_3)
def kr_lost_from_5 : KS := (kSeq (kAsg (kOp (vI noC fun i j => i - j) (kVar 2) (kF 1 vLen (kCons (kVar 3) kNil))) (kgName 4))
  kr_lost_from_4)
def k_lost_from : KS := (kSeq (kAsg (kFrz 0) (kgTup 2 (kgCons (kgName 2) (kgCons (kgName 3) kgNil))))
  kr_lost_from_5)
local macro_rules | `(tactic| walk_at "go") => `(tactic| ((first | unfold kr_lost_from_2 | unfold kr_lost_from_3 | unfold kr_lost_from_4 | unfold kr_lost_from_5); walk_at "ev"))
theorem val_lost_from : ∀ ds G, w_lost_from ds G → k_lost_from ⟨ds.map Sl.fz ++ [.jk, .jk, .jk, .jk, .jk], [], 0⟩ (edT G) := by
  rintro ds Gq ⟨n, gs, r, rfl, ef, n1, l1, r0, r1, q⟩
  have n0 : 0 ≤ n := ef.nn
  unfold k_lost_from
  walk_at "ev"
  walk_at "go"
  obtain ⟨S, hS⟩ : ∃ S : Int, (if 0 < n - (gs.length : Int) then stepsD r n (n - gs.length) else 0) = S := ⟨_, rfl⟩
  have u := up_ok (e := (n, gs)) ef r0 (fun h => stepsD_gen h) stepsD_ge0
  dsimp only at u
  rw [hS] at u
  have S0 : 0 ≤ S := by
    rw [← hS]
    have := @stepsD_ge0 r n (n - gs.length)
    split <;> omega
  have S1 := u.sr
  have lr := rg_length 1 (n + 2)
  have rest : kr_lost_from_3 ⟨[.fz (dE (n, gs)), .fz (.int r), .fz (.int n), .fz (dI gs), .fz (.int (n - gs.length)), .fz (.int S), .jk], [], 0⟩ (edT Gq) := by
    walk_at "go"
    refine ⟨⟨by omega, by omega, by omega, by omega⟩, ?_⟩
    refine forL_ints (rg 1 (n + 2)) (fun pre γ => (∃ y : Sl, γ = ⟨[.fz (dE (n, gs)), .fz (.int r), .fz (.int n), .fz (dI gs), .fz (.int (n - gs.length)), .fz (.int S), y], [], 0⟩) ∧ ∀ j : Nat, j < pre.length → Alive (n, gs) (S.toNat + (j + 1)) r) (fun pre x post γ N hl ht hP hN => ?_) (fun γ ht hP => ?_) _ rfl ⟨⟨.jk, rfl⟩, fun j hj => absurd hj (by simp)⟩
    · obtain ⟨⟨y, rfl⟩, hA⟩ := hP
      obtain ⟨z1, z2⟩ := rg_mid hl
      obtain ⟨t, ht⟩ : ∃ t, pre.length = t := ⟨_, rfl⟩
      rw [ht] at hA z1 z2
      have nx : Alive (n, gs) (S.toNat + (t + 1)) r → N ⟨[.fz (dE (n, gs)), .fz (.int r), .fz (.int n), .fz (dI gs), .fz (.int (n - gs.length)), .fz (.int S), .fz (.int x)], [], 0⟩ := fun h => hN _ rfl ⟨⟨_, rfl⟩, fun j hj => by
        rw [List.length_append, List.length_singleton, ht] at hj
        by_cases c : j < t
        · exact hA j c
        · rw [show j = t by omega]
          exact h⟩
      clear hN
      unfold kb_lost_from_1
      walk_at "ev"
      refine ⟨n, gs, S + x, r, rfl, ef, by omega, by omega, r0, by omega, n1, l1, fun c hc hb => ?_⟩
      have ek : (S + x).toNat = S.toNat + (t + 1) := by omega
      rw [ek] at hc
      walk_at "ev"
      refine iteB (fun d => ?_) (fun d => ?_)
      · have d := of_decide_eq_true d
        have := q (some (S.toNat + (t + 1))) ⟨fun z => by have := hc.pos.mpr z; omega, fun j hj => by
          by_cases c : j ≤ S.toNat
          · exact u.alive_up ef r0 c
          · have := hA (j - S.toNat - 1) (by omega)
            rwa [show S.toNat + (j - S.toNat - 1 + 1) = j by omega] at this⟩ (fun t h => by cases h; omega)
        rw [oD, ← ek, show (((S + x).toNat : Nat) : Int) = S + x by omega] at this
        exact this
      · have d := of_decide_eq_false d
        exact nx (hc.pos.mp (by omega))
    · obtain ⟨⟨y, rfl⟩, hA⟩ := hP
      walk_at "go"
      refine q none ?_ (fun t h => nomatch h)
      obtain ⟨low, hlow⟩ : ∃ low : Int, r - S * (n - (gs.length : Int)) = low := ⟨_, rfl⟩
      rw [hlow] at u
      by_cases c : n < low
      · exact fun k => u.alive_hi ef c k
      · have h1 := hA n.toNat (by omega)
        rw [Nat.add_comm] at h1
        have h2 := (u.alive_row ef (show low ≤ n by omega) (n.toNat + 1)).mp h1
        exact u.never ef r0 (show low ≤ n by omega) (by dsimp only; omega) h2
  refine iteB (fun c => ?_) (fun c => ?_)
  · have c := of_decide_eq_true c
    rw [if_pos c] at hS
    refine ⟨r, n, n - gs.length, rfl, by omega, by omega, by omega, by omega, ?_⟩
    rw [hS]
    walk_at "ev"
    exact rest
  · have c := of_decide_eq_false c
    rw [if_neg c] at hS
    subst hS
    walk_at "ev"
    exact rest
theorem ok_lost_from (p : Prog K mg) : FnG P w K mg base CX0 5 p.f_lost_from p.fd_lost_from ["one", "spot"] (spT w_lost_from) :=
  okT p.d_lost_from.F sc_lost_from (by decide) ar_lost_from (fun cdv A outer s H E hg hr => ⟨_, (pss_cons (ps_asg (pv 0) (pg_tup rfl (pgs_cons (pg_name (i := 2) sc_lost_from.nd rfl (Or.inl rfl)) (pgs_cons (pg_name (i := 3) sc_lost_from.nd rfl (Or.inl rfl)) pgs_nil))))
      (pss_cons (ps_set (i := 4) sc_lost_from.nd rfl (Or.inl rfl) (pe_op op_sub (pv 2) (pe_callB call_len_seq (by rfl) p.blt.len PySem.boot_len (pa_cons (pv 3) pa_nil))))
      (pss_cons (ps_set (i := 5) sc_lost_from.nd rfl (Or.inl rfl) (pe_ifExp (pt_cmpR op_gt (pv 4) pe_int (nomark _)) (pe_callG ((ok_steps_down p).mono (by decide)) hg hr (by rfl) p.d_steps_down.gl p.d_steps_down.kp p.d_steps_down.bd pass0 (pa_cons (pv 1) (pa_cons (pv 2) (pa_cons (pv 4) pa_nil)))) pe_int))
      (pss_cons (ps_for PassesOwn.never rfl (pi_range2 (by rfl) p.blt.range (pa_cons pe_int (pa_cons (pe_op op_add (pv 2) pe_int) pa_nil))) (pg_name (i := 6) sc_lost_from.nd rfl (Or.inl rfl))
      (pss_one (ps_if (pt_cmpR op_eq (pe_callG ((ok_count_after p).mono (by decide)) hg hr (by rfl) p.d_count_after.gl p.d_count_after.kp p.d_count_after.bd pass0 (pa_cons (pv 0) (pa_cons (pe_op op_add (pv 5) (pv 6)) (pa_cons (pv 1) pa_nil)))) pe_int (nomark _))
      (pss_one (ps_ret (pe_op op_add (pv 5) (pv 6)))) pss_nil)))
      (pss_one (ps_ret pe_non)))))),
    fun C xc => (so_seq (so_asg (so_frz (i := 0)) (so_gtup (so_gcons (so_gname (i := 2)) (so_gcons (so_gname (i := 3)) so_gnil))))
      (so_seq (so_asg (so_op sr_I0 (so_var (i := 2)) (so_f sc_len (so_cons (so_var (i := 3)) so_nil))) (so_gname (i := 4)))
      (so_seq (so_asg (so_if (so_test (so_op sr_B (so_var (i := 4)) (so_c (sca_int _)))) (so_callT (so_cons (so_var (i := 1)) (so_cons (so_var (i := 2)) (so_cons (so_var (i := 4)) so_nil)))) (so_c (sca_int _))) (so_gname (i := 5)))
      (so_seq (so_for (so_rng2 (so_c (sca_int _)) (so_op sr_I0 (so_var (i := 2)) (so_c (sca_int _)))) (so_gname (i := 6))
      (so_ifS (so_test (so_op sr_eq (so_callT (so_cons (so_var (i := 0)) (so_cons (so_op sr_I0 (so_var (i := 5)) (so_var (i := 6))) (so_cons (so_var (i := 1)) so_nil)))) (so_c (sca_int _))))
      (so_ret (so_op sr_I0 (so_var (i := 5)) (so_var (i := 6)))) so_next))
      (so_ret (so_c sca_non))))))⟩) val_lost_from
def w_merged_from : Tw := fun ds Q => ∃ n gs a b, ds = [dE (n, gs), .int a, .int b] ∧ Eff (n, gs) ∧ 1 ≤ a ∧ a < 2 ^ 110 ∧ 1 ≤ b ∧ b < 2 ^ 110 ∧ n ≤ 1000 ∧ gs.length ≤ 1000 ∧ ∀ o, MI (n, gs) a b o → MB o → Q (oD o)
theorem ar_merged_from : ∀ ds G, w_merged_from ds G → ds.length = 3 := by
  rintro ds G ⟨n, gs, a, b, rfl, _⟩
  rfl
def kr_merged_from_1 : KS := (kPar 8 9 (kCons (kCallT w_came_from 2 (kCons (kVar 0) (kCons (kVar 8) kNil))) (kCons (kCallT w_came_from 2 (kCons (kVar 0) (kCons (kVar 9) kNil))) kNil)))
def kb_merged_from_2 : KS := (kSeq (kIfS (kTest (kOp (vEq false) (kVar 8) (kVar 9)))
  (kRet (kOp (vI noC fun i j => i + j) (kVar 7) (kVar 10)))
  kNext)
  kr_merged_from_1)
def kr_merged_from_3 : KS := (kRet (kC .none))
def kr_merged_from_4 : KS := (kSeq (kFor (kRng1 (kOp (vI noC fun i j => i + j) (kVar 5) (kC (.int 1)))) (kgName 10) kb_merged_from_2)
  kr_merged_from_3)
def kr_merged_from_5 : KS := (kSeq (kPar 8 9 (kCons (kCallT w_spot_after 3 (kCons (kVar 0) (kCons (kVar 7) (kCons (kVar 1) kNil)))) (kCons (kCallT w_spot_after 3 (kCons (kVar 0) (kCons (kVar 7) (kCons (kVar 2) kNil)))) kNil)))
  kr_merged_from_4)
def kr_merged_from_6 : KS := (kSeq (kAsg (kIf (kTest (kOp (vB fun i j => decide (i < j)) (kVar 6) (kC (.int 0)))) (kCallT w_steps_down 3 (kCons (kF 2 (v2I fun i j => if j > i then j else i) (kCons (kVar 1) (kCons (kVar 2) kNil))) (kCons (kVar 5) (kCons (kUn vNeg (kVar 6)) kNil)))) (kC (.int 0))) (kgName 7))
  kr_merged_from_5)
def kr_merged_from_7 : KS := (kSeq (kPar 5 6 (kCons (kF 1 vLen (kCons (kVar 4) kNil)) (kCons (kOp (vI noC fun i j => i - j) (kVar 3) (kF 1 vLen (kCons (kVar 4) kNil))) kNil)))
  kr_merged_from_6)
def kr_merged_from_8 : KS := (kSeq (kAsg (kFrz 0) (kgTup 2 (kgCons (kgName 3) (kgCons (kgName 4) kgNil))))
  kr_merged_from_7)
def k_merged_from : KS := (kSeq (kIfS (kTest (kOp (vEq false) (kVar 1) (kVar 2)))
  (kRet (kC (.int 0)))
  kNext)
  kr_merged_from_8)
local macro_rules | `(tactic| walk_at "go") => `(tactic| ((first | unfold kr_merged_from_1 | unfold kr_merged_from_3 | unfold kr_merged_from_4 | unfold kr_merged_from_5 | unfold kr_merged_from_6 | unfold kr_merged_from_7 | unfold kr_merged_from_8); walk_at "ev"))
theorem stepsD_ge {h l s : Int} : 0 ≤ stepsD h l s := by unfold stepsD; split <;> omega
/-- apart, while one of them lies above -/
theorem apart_hi {e : Int × List Int} (ef : Eff e) {a b : Int} (ha : 1 ≤ a) (hb : 1 ≤ b) (hs : e.1 < e.2.length) (hab : a < b) {s : Nat} (h : ∀ j : Nat, j < s → (e.2.length : Int) < b + j * (e.1 - e.2.length)) : ∀ j : Nat, j < s → itE e j a ≠ itE e j b := by
  have key : ∀ j : Nat, j < s → itE e j a < itE e j b := fun j hj => by
    have eb := it_lin j b fun i hi => h i (by omega)
    have hj2 := h j hj
    by_cases hall : ∀ i : Nat, i < j → (e.2.length : Int) < a + i * (e.1 - e.2.length)
    · rw [it_lin j a hall, eb]
      omega
    · -- it came down ahead of it
      obtain ⟨i, hi⟩ := Classical.not_forall.mp hall
      obtain ⟨hij, hi2⟩ := Classical.not_imp.mp hi
      -- the first time that it lies not above
      have low : ∃ t : Nat, t ≤ j ∧ itE e t a ≤ e.2.length := by
        apply Classical.byContradiction
        intro no
        have up : ∀ t : Nat, t ≤ j → (e.2.length : Int) < itE e t a := fun t ht => by
          apply Classical.byContradiction
          intro hn
          exact no ⟨t, ht, by omega⟩
        have lin : ∀ t : Nat, t ≤ j → itE e t a = a + t * (e.1 - e.2.length) := fun t => by
          induction t with
          | zero => intro _; simp [itE]
          | succ t ih =>
            intro ht
            have := up t (by omega)
            rw [it_succ, from_hi this, ih (by omega), Int.natCast_add, Int.add_mul]
            simp
            omega
        have := up i (by omega)
        rw [lin i (by omega)] at this
        exact hi2 this
      obtain ⟨t, ht, hlo⟩ := low
      have := it_all_lo ef (it_ge ef t ha) hs hlo (j - t)
      rw [← it_add, show j - t + t = j by omega] at this
      rw [eb]
      omega
  exact fun j hj => by have := key j hj; omega
theorem stepsD_hi {e : Int × List Int} {b : Int} (hs : e.1 < e.2.length) : ∀ j : Nat, (j : Int) < stepsD b e.2.length (-(e.1 - e.2.length)) → (e.2.length : Int) < b + j * (e.1 - e.2.length) := fun j hj => by
  obtain ⟨c, hc⟩ : ∃ c : Int, e.2.length - e.1 = c := ⟨_, rfl⟩
  obtain ⟨z, hz⟩ : ∃ z : Int, (e.2.length : Int) = z := ⟨_, rfl⟩
  rw [hz] at hj ⊢
  have e1 : -(e.1 - z) = c := by omega
  have e2 : e.1 - z = -c := by omega
  rw [e1] at hj
  rw [e2, Int.mul_neg]
  have dv := Int.emod_add_mul_ediv (z - b) c
  have m0 := Int.emod_nonneg (z - b) (show c ≠ 0 by omega)
  have m1 := Int.emod_lt_of_pos (z - b) (show 0 < c by omega)
  have h1 : (j : Int) + 1 ≤ -((z - b) / c) := by
    unfold stepsD at hj
    split at hj <;> omega
  have h2 : ((j : Int) + 1) * c ≤ -((z - b) / c) * c := Int.mul_le_mul_of_nonneg_right h1 (by omega)
  rw [Int.neg_mul, Int.mul_comm ((z - b) / c), Int.add_mul, Int.one_mul] at h2
  omega
/-- the straight way of the further one brings both down -/
theorem stepsD_lo {e : Int × List Int} (ef : Eff e) {a b : Int} (ha : 1 ≤ a) (hb : 1 ≤ b) (hs : e.1 < e.2.length) (hab : a ≤ b) : itE e (stepsD b e.2.length (-(e.1 - e.2.length))).toNat a ≤ e.2.length := by
  obtain ⟨s, hst⟩ : ∃ s : Nat, stepsD b e.2.length (-(e.1 - e.2.length)) = s := ⟨(stepsD b e.2.length (-(e.1 - e.2.length))).toNat, by have := @stepsD_ge b e.2.length (-(e.1 - e.2.length)); omega⟩
  have hb2 := steps_lin (e := e) (r := b) (k := s) hs hb (by omega)
  rw [hst, if_neg (by omega)] at hb2
  obtain ⟨t, e1, e2, e3, e4, e5⟩ := hb2
  have ts : t = s := by omega
  subst ts
  -- b comes down: the number is large enough
  have blo : itE e t b ≤ e.2.length := by
    have := steps_lin (e := e) (r := b) (k := t + 1) hs hb (by omega)
    rw [hst, if_pos (by omega)] at this
    obtain ⟨u, f1, f2, f3, f4, f5⟩ := this
    have : u = t := by omega
    subst this
    rw [f3]
    omega
  rw [hst, Int.toNat_natCast]
  apply Classical.byContradiction
  intro no
  have all : ∀ i : Nat, i ≤ t → (e.2.length : Int) < itE e i a := fun i hi => by
    apply Classical.byContradiction
    intro hn
    have := it_all_lo ef (it_ge ef i ha) hs (show itE e i a ≤ e.2.length by omega) (t - i)
    rw [← it_add, show t - i + i = t by omega] at this
    exact no this
  have lin : ∀ i : Nat, i ≤ t → itE e i a = a + i * (e.1 - e.2.length) := fun i => by
    induction i with
    | zero => intro _; simp [itE]
    | succ i ih =>
      intro hi
      have := all i (by omega)
      rw [it_succ, from_hi this, ih (by omega), Int.natCast_add, Int.add_mul]
      simp
      omega
  rw [lin t (by omega)] at no
  rw [e3] at blo
  omega
theorem merge_key {n : Int} {gs : List Int} (ef : Eff (n, gs)) (hn : n < gs.length) (l1 : gs.length ≤ 1000) {u v : Int} (hu : 1 ≤ u) (hv : 1 ≤ v) (huv : u < v) (hv2 : v < 2 ^ 110) : ((stepsD v gs.length (-(n - gs.length))).toNat : Int) = stepsD v gs.length (-(n - gs.length)) ∧ ((stepsD v gs.length (-(n - gs.length))).toNat : Int) < 2 ^ 119 ∧ (∀ j : Nat, j < (stepsD v gs.length (-(n - gs.length))).toNat → itE (n, gs) j u ≠ itE (n, gs) j v) ∧ itE (n, gs) (stepsD v gs.length (-(n - gs.length))).toNat u ≤ gs.length ∧ itE (n, gs) (stepsD v gs.length (-(n - gs.length))).toNat v ≤ gs.length := by
  have g0 := @stepsD_ge v gs.length (-(n - gs.length))
  have cast : ((stepsD v gs.length (-(n - gs.length))).toNat : Int) = stepsD v gs.length (-(n - gs.length)) := by omega
  have hs : (n, gs).1 < (n, gs).2.length := by dsimp only; omega
  have lo1 := stepsD_lo (e := (n, gs)) ef hu hv hs (by omega)
  have lo2 := stepsD_lo (e := (n, gs)) ef hv hv hs (by omega)
  have bd := steps_lin (e := (n, gs)) (r := v) (k := stepsD v gs.length (-(n - gs.length))) hs hv g0
  rw [if_neg (by dsimp only; omega)] at bd
  obtain ⟨t, t1, t2, t3, t4, t5⟩ := bd
  exact ⟨cast, by omega, apart_hi ef hu hv hs huv fun j hj => stepsD_hi hs j (by dsimp only; omega), lo1, lo2⟩
theorem val_merged_from : ∀ ds G, w_merged_from ds G → k_merged_from ⟨ds.map Sl.fz ++ [.jk, .jk, .jk, .jk, .jk, .jk, .jk, .jk], [], 0⟩ (edT G) := by
  rintro ds Gq ⟨n, gs, a, b, rfl, ef, a0, a1, b0, b1, n1, l1, q⟩
  have n0 : 0 ≤ n := ef.nn
  unfold k_merged_from
  walk_at "ev"
  refine iteB (fun c => ?_) (fun c => ?_)
  · have c := of_decide_eq_true c
    subst c
    exact q (some 0) ⟨rfl, fun j hj => absurd hj (by omega)⟩ fun t h => by cases h; decide
  have c := of_decide_eq_false c
  -- behind the straight way
  have rest : ∀ s : Nat, (s : Int) < 2 ^ 120 → (∀ j : Nat, j < s → itE (n, gs) j a ≠ itE (n, gs) j b) → ((gs.length : Int) ≤ n ∨ (itE (n, gs) s a ≤ gs.length ∧ itE (n, gs) s b ≤ gs.length)) → kr_merged_from_5 ⟨[.fz (dE (n, gs)), .fz (.int a), .fz (.int b), .fz (.int n), .fz (dI gs), .fz (.int gs.length), .fz (.int (n - gs.length)), .fz (.int s), .jk, .jk, .jk], [], 0⟩ (edT Gq) := fun s hs hne hlo => by
    have res : ∀ o, MI (n, gs) (itE (n, gs) s a) (itE (n, gs) s b) o → (∀ t, o = some t → t ≤ gs.length) → Gq (oD (o.map (s + ·))) := fun o ho hb => q _ (MI.add hne ho) fun t h => by
      cases o with
      | none => cases h
      | some u =>
        have := hb u rfl
        have e : s + u = t := Option.some.inj h
        omega
    obtain ⟨x, hx⟩ : ∃ x, itE (n, gs) s a = x := ⟨_, rfl⟩
    obtain ⟨y, hy⟩ : ∃ y, itE (n, gs) s b = y := ⟨_, rfl⟩
    have x1 : 1 ≤ x := by rw [← hx]; exact it_ge ef s a0
    have y1 : 1 ≤ y := by rw [← hy]; exact it_ge ef s b0
    rw [hx, hy] at res hlo
    walk_at "go"
    refine ⟨n, gs, s, a, rfl, ef, by omega, hs, a0, by omega, n1, l1, ?_⟩
    walk_at "ev"
    refine ⟨n, gs, s, b, rfl, ef, by omega, hs, b0, by omega, n1, l1, ?_⟩
    rw [Int.toNat_natCast, hx, hy]
    walk_at "ev"
    walk_at "go"
    refine ⟨⟨by omega, by omega⟩, ?_⟩
    have lr := rg_length 0 ((gs.length : Int) + 1)
    have e1 : ((gs.length : Int) + 1 - 0).toNat = gs.length + 1 := by omega
    rw [e1] at lr
    refine forL_ints (rg 0 ((gs.length : Int) + 1)) (fun pre γ => ∃ z : Sl, γ = ⟨[.fz (dE (n, gs)), .fz (.int a), .fz (.int b), .fz (.int n), .fz (dI gs), .fz (.int gs.length), .fz (.int (n - gs.length)), .fz (.int s), .fz (.int (itE (n, gs) pre.length x)), .fz (.int (itE (n, gs) pre.length y)), z], [], 0⟩ ∧ ∀ j : Nat, j < pre.length → itE (n, gs) j x ≠ itE (n, gs) j y) (fun pre z post γ N hl2 ht hP hN => ?_) (fun γ ht hP => ?_) _ rfl ⟨.jk, rfl, fun j hj => absurd hj (by simp)⟩
    · obtain ⟨z0, rfl, hP⟩ := hP
      have hlen := congrArg List.length hl2
      rw [lr, List.length_append, List.length_cons] at hlen
      have hz : z = (pre.length : Int) := by
        have := (rg_mid hl2).1
        omega
      unfold kb_merged_from_2
      walk_at "ev"
      refine iteB (fun d => ?_) (fun d => ?_)
      · have d := of_decide_eq_true d
        walk_at "ev"
        rw [hz]
        have := res (some pre.length) ⟨d, hP⟩ fun t h => by cases h; omega
        have e2 : oD (Option.map (fun x => s + x) (some pre.length)) = .int ((s : Int) + pre.length) := by
          show PyData.int ((s + pre.length : Nat) : Int) = _
          rw [Int.natCast_add]
        rw [e2] at this
        exact this
      · have d := of_decide_eq_false d
        walk_at "ev"
        walk_at "go"
        refine ⟨n, gs, _, rfl, it_ge ef _ x1, ?_⟩
        walk_at "ev"
        refine ⟨n, gs, _, rfl, it_ge ef _ y1, ?_⟩
        walk_at "ev"
        rw [← it_succ, ← it_succ]
        refine hN _ rfl ⟨.fz (.int z), by rw [List.length_append, List.length_singleton], fun j hj => ?_⟩
        rw [List.length_append, List.length_singleton] at hj
        by_cases h : j < pre.length
        · exact hP j h
        · have : j = pre.length := by omega
          rw [this]
          exact d
    · obtain ⟨z0, rfl, hP⟩ := hP
      rw [lr] at hP
      walk_at "go"
      exact res none (merge_bd ef x1 y1 hlo fun j hj => hP j (by dsimp only at hj; omega)) fun t h => nomatch h
  walk_at "go"
  walk_at "go"
  refine iteB (fun d => ?_) (fun d => ?_)
  · have d := of_decide_eq_true d
    walk_at "ev"
    have h1 : 1 ≤ (if b > a then b else a) := by split <;> omega
    have h2 : (if b > a then b else a) < 2 ^ 110 := by split <;> omega
    refine ⟨_, gs.length, -(n - gs.length), rfl, by omega, by omega, by omega, by omega, ?_⟩
    walk_at "ev"
    have key := fun u v hu hv huv hv2 => merge_key (u := u) (v := v) ef (by omega) l1 hu hv huv hv2
    rcases Int.lt_or_gt_of_ne c with ab | ab
    · rw [if_pos ab]
      obtain ⟨k1, k2, k3, k4, k5⟩ := key a b a0 b0 ab b1
      rw [← k1]
      exact rest _ (by omega) k3 (.inr ⟨k4, k5⟩)
    · rw [if_neg (by omega)]
      obtain ⟨k1, k2, k3, k4, k5⟩ := key b a b0 a0 ab a1
      rw [← k1]
      exact rest _ (by omega) (fun j hj h => k3 j hj h.symm) (.inr ⟨k5, k4⟩)
  · have d := of_decide_eq_false d
    walk_at "ev"
    exact rest 0 (by decide) (fun j hj => absurd hj (by omega)) (.inl (by omega))
theorem ok_merged_from (p : Prog K mg) : FnG P w K mg base CX0 3 p.f_merged_from p.fd_merged_from ["one", "spot", "second"] (spT w_merged_from) :=
  okT p.d_merged_from.F sc_merged_from (by decide) ar_merged_from (fun cdv A outer s H E hg hr => ⟨_, (pss_cons (ps_if (pt_cmpR op_eq (pv 1) (pv 2) (nomark _))
      (pss_one (ps_ret pe_int)) pss_nil)
      (pss_cons (ps_asg (pv 0) (pg_tup rfl (pgs_cons (pg_name (i := 3) sc_merged_from.nd rfl (Or.inl rfl)) (pgs_cons (pg_name (i := 4) sc_merged_from.nd rfl (Or.inl rfl)) pgs_nil))))
      (pss_cons (ps_par (i := 5) (j := 6) rfl sc_merged_from.nd rfl rfl (by decide) rfl rfl (pa_cons (pe_callB call_len_seq (by rfl) p.blt.len PySem.boot_len (pa_cons (pv 4) pa_nil)) (pa_cons (pe_op op_sub (pv 3) (pe_callB call_len_seq (by rfl) p.blt.len PySem.boot_len (pa_cons (pv 4) pa_nil))) pa_nil)) (by rfl))
      (pss_cons (ps_set (i := 7) sc_merged_from.nd rfl (Or.inl rfl) (pe_ifExp (pt_cmpR op_lt (pv 6) pe_int (nomark _)) (pe_callG ((ok_steps_down p).mono (by decide)) hg hr (by rfl) p.d_steps_down.gl p.d_steps_down.kp p.d_steps_down.bd pass0 (pa_cons (pe_callB (call_max2 rfl) (by rfl) p.blt.max (by decide +kernel) (pa_cons (pv 1) (pa_cons (pv 2) pa_nil))) (pa_cons (pv 5) (pa_cons (pe_un un_neg (pv 6)) pa_nil)))) pe_int))
      (pss_cons (ps_par (i := 8) (j := 9) rfl sc_merged_from.nd rfl rfl (by decide) rfl rfl (pa_cons (pe_callG ((ok_spot_after p).mono (by decide)) hg hr (by rfl) p.d_spot_after.gl p.d_spot_after.kp p.d_spot_after.bd pass0 (pa_cons (pv 0) (pa_cons (pv 7) (pa_cons (pv 1) pa_nil)))) (pa_cons (pe_callG ((ok_spot_after p).mono (by decide)) hg hr (by rfl) p.d_spot_after.gl p.d_spot_after.kp p.d_spot_after.bd pass0 (pa_cons (pv 0) (pa_cons (pv 7) (pa_cons (pv 2) pa_nil)))) pa_nil)) (by rfl))
      (pss_cons (ps_for PassesOwn.never rfl (pi_range1 (by rfl) p.blt.range (pa_cons (pe_op op_add (pv 5) pe_int) pa_nil)) (pg_name (i := 10) sc_merged_from.nd rfl (Or.inl rfl))
      (pss_cons (ps_if (pt_cmpR op_eq (pv 8) (pv 9) (nomark _))
      (pss_one (ps_ret (pe_op op_add (pv 7) (pv 10)))) pss_nil)
      (pss_one (ps_par (i := 8) (j := 9) rfl sc_merged_from.nd rfl rfl (by decide) rfl rfl (pa_cons (pe_callG ((ok_came_from p).mono (by decide)) hg hr (by rfl) p.d_came_from.gl p.d_came_from.kp p.d_came_from.bd pass0 (pa_cons (pv 0) (pa_cons (pv 8) pa_nil))) (pa_cons (pe_callG ((ok_came_from p).mono (by decide)) hg hr (by rfl) p.d_came_from.gl p.d_came_from.kp p.d_came_from.bd pass0 (pa_cons (pv 0) (pa_cons (pv 9) pa_nil))) pa_nil)) (by rfl)))))
      (pss_one (ps_ret pe_non)))))))),
    fun C xc => (so_seq (so_ifS (so_test (so_op sr_eq (so_var (i := 1)) (so_var (i := 2))))
      (so_ret (so_c (sca_int _))) so_next)
      (so_seq (so_asg (so_frz (i := 0)) (so_gtup (so_gcons (so_gname (i := 3)) (so_gcons (so_gname (i := 4)) so_gnil))))
      (so_seq (so_par (i := 5) (j := 6) (by decide) (so_cons (so_f sc_len (so_cons (so_var (i := 4)) so_nil)) (so_cons (so_op sr_I0 (so_var (i := 3)) (so_f sc_len (so_cons (so_var (i := 4)) so_nil))) so_nil)))
      (so_seq (so_asg (so_if (so_test (so_op sr_B (so_var (i := 6)) (so_c (sca_int _)))) (so_callT (so_cons (so_f sc_2i (so_cons (so_var (i := 1)) (so_cons (so_var (i := 2)) so_nil))) (so_cons (so_var (i := 5)) (so_cons (so_neg (so_var (i := 6))) so_nil)))) (so_c (sca_int _))) (so_gname (i := 7)))
      (so_seq (so_par (i := 8) (j := 9) (by decide) (so_cons (so_callT (so_cons (so_var (i := 0)) (so_cons (so_var (i := 7)) (so_cons (so_var (i := 1)) so_nil)))) (so_cons (so_callT (so_cons (so_var (i := 0)) (so_cons (so_var (i := 7)) (so_cons (so_var (i := 2)) so_nil)))) so_nil)))
      (so_seq (so_for (so_rng1 (so_op sr_I0 (so_var (i := 5)) (so_c (sca_int _)))) (so_gname (i := 10))
      (so_seq (so_ifS (so_test (so_op sr_eq (so_var (i := 8)) (so_var (i := 9))))
      (so_ret (so_op sr_I0 (so_var (i := 7)) (so_var (i := 10)))) so_next)
      (so_par (i := 8) (j := 9) (by decide) (so_cons (so_callT (so_cons (so_var (i := 0)) (so_cons (so_var (i := 8)) so_nil))) (so_cons (so_callT (so_cons (so_var (i := 0)) (so_cons (so_var (i := 9)) so_nil))) so_nil)))))
      (so_ret (so_c sca_non))))))))⟩) val_merged_from
def w_check_number : Tw := fun ds Q => ∃ n : Int, ds = [.int n] ∧ 0 ≤ n ∧ Q .none
theorem ar_check_number : ∀ ds G, w_check_number ds G → ds.length = 1 := by
  rintro ds G ⟨n, rfl, _⟩
  rfl
def x_check_number (p : Prog K mg) : List D → Addr → D → Prop := x_low p.C_InvalidNumber 0
theorem arx_check_number (p : Prog K mg) : ∀ ds c d, x_check_number p ds c d → ds.length = 1 := arx_low
def k_check_number : KS := (kIfS (kTest (kOp (vB fun i j => decide (i < j)) (kVar 0) (kC (.int 0))))
  kNever
  kNext)
def kx_check_number (p : Prog K mg) (x : XH) : KS := (kIfS (kTest (kOp (vB fun i j => decide (i < j)) (kVar 0) (kC (.int 0))))
  (kRaise x p.C_InvalidNumber (kCons (kVar 0) kNil))
  kNext)
abbrev W_check_number (p : Prog K mg) : TwX := twX w_check_number (x_check_number p)
theorem val_check_number : ∀ ds G, w_check_number ds G → k_check_number ⟨ds.map Sl.fz ++ [], [], 0⟩ (edT G) := by
  rintro ds Gq ⟨n, rfl, n0, q⟩
  unfold k_check_number
  walk_at "ev"
  rw [decide_eq_false (by omega)]
  exact iteF q
theorem valx_check_number (p : Prog K mg) : ∀ ds c d, x_check_number p ds c d → kx_check_number p (fun c' d' _ => c' = c ∧ d' = d) ⟨ds.map Sl.fz ++ [], [], 0⟩ (edT fun _ => False) := by
  rintro ds c e ⟨m, rfl, hm, rfl, rfl⟩
  unfold kx_check_number
  walk_at "ev"
  rw [decide_eq_true hm]
  walk_at "ev"
  done
theorem ok_check_number (p : Prog K mg) : FnG P w K mg base (L2.CX P w) 3 p.f_check_number p.fd_check_number ["number"] (spX (W_check_number p)) :=
  okF (kx := kx_check_number p) p.d_check_number.F sc_check_number (by decide) ar_check_number (arx_check_number p) (fun cdv A outer s H E hg hr => ⟨_, (pss_one (ps_if (pt_cmpR op_lt (pv 0) pe_int (nomark _))
      (pss_one (ps_raise rfl (takes_of rfl rfl rfl rfl) (pmk_oex p.e_InvalidNumber.T p.e_InvalidNumber.iC p.e_InvalidNumber.tI (ok_VE p.e_InvalidNumber) (hr.mono (by decide)) p.e_InvalidNumber.bd .nil pass0 (by rfl) p.e_InvalidNumber.gl (pa_cons (pv 0) pa_nil)))) pss_nil)),
    fun C xc => (so_ifS (so_test (so_op sr_B (so_var (i := 0)) (so_c (sca_int _))))
      so_neverA so_next),
    fun C xc hE => (so_ifS (so_test (so_op sr_B (so_var (i := 0)) (so_c (sca_int _))))
      (so_raise hE (so_cons (so_var (i := 0)) so_nil)) so_next)⟩) val_check_number (valx_check_number p)
def w_check_place : Tw := fun ds Q => ∃ n : Int, ds = [.int n] ∧ 1 ≤ n ∧ Q .none
theorem ar_check_place : ∀ ds G, w_check_place ds G → ds.length = 1 := by
  rintro ds G ⟨n, rfl, _⟩
  rfl
def x_check_place (p : Prog K mg) : List D → Addr → D → Prop := x_low p.C_InvalidPlace 1
theorem arx_check_place (p : Prog K mg) : ∀ ds c d, x_check_place p ds c d → ds.length = 1 := arx_low
def k_check_place : KS := (kIfS (kTest (kOp (vB fun i j => decide (i < j)) (kVar 0) (kC (.int 1))))
  kNever
  kNext)
def kx_check_place (p : Prog K mg) (x : XH) : KS := (kIfS (kTest (kOp (vB fun i j => decide (i < j)) (kVar 0) (kC (.int 1))))
  (kRaise x p.C_InvalidPlace (kCons (kVar 0) kNil))
  kNext)
abbrev W_check_place (p : Prog K mg) : TwX := twX w_check_place (x_check_place p)
theorem val_check_place : ∀ ds G, w_check_place ds G → k_check_place ⟨ds.map Sl.fz ++ [], [], 0⟩ (edT G) := by
  rintro ds Gq ⟨n, rfl, n0, q⟩
  unfold k_check_place
  walk_at "ev"
  rw [decide_eq_false (by omega)]
  exact iteF q
theorem valx_check_place (p : Prog K mg) : ∀ ds c d, x_check_place p ds c d → kx_check_place p (fun c' d' _ => c' = c ∧ d' = d) ⟨ds.map Sl.fz ++ [], [], 0⟩ (edT fun _ => False) := by
  rintro ds c e ⟨m, rfl, hm, rfl, rfl⟩
  unfold kx_check_place
  walk_at "ev"
  rw [decide_eq_true hm]
  walk_at "ev"
  done
theorem ok_check_place (p : Prog K mg) : FnG P w K mg base (L2.CX P w) 3 p.f_check_place p.fd_check_place ["spot"] (spX (W_check_place p)) :=
  okF (kx := kx_check_place p) p.d_check_place.F sc_check_place (by decide) ar_check_place (arx_check_place p) (fun cdv A outer s H E hg hr => ⟨_, (pss_one (ps_if (pt_cmpR op_lt (pv 0) pe_int (nomark _))
      (pss_one (ps_raise rfl (takes_of rfl rfl rfl rfl) (pmk_oex p.e_InvalidPlace.T p.e_InvalidPlace.iC p.e_InvalidPlace.tI (ok_VE p.e_InvalidPlace) (hr.mono (by decide)) p.e_InvalidPlace.bd .nil pass0 (by rfl) p.e_InvalidPlace.gl (pa_cons (pv 0) pa_nil)))) pss_nil)),
    fun C xc => (so_ifS (so_test (so_op sr_B (so_var (i := 0)) (so_c (sca_int _))))
      so_neverA so_next),
    fun C xc hE => (so_ifS (so_test (so_op sr_B (so_var (i := 0)) (so_c (sca_int _))))
      (so_raise hE (so_cons (so_var (i := 0)) so_nil)) so_next)⟩) val_check_place (valx_check_place p)
def w_times : Tw := fun ds Q => ∃ n gs k, ds = [dE (n, gs), .int k] ∧ Eff (n, gs) ∧ 0 ≤ k ∧ k ≤ 100 ∧ n ≤ 60 ∧ gs.length ≤ 60 ∧ Q (dE (powE (leastE n gs) k.toNat))
theorem ar_times : ∀ ds G, w_times ds G → ds.length = 2 := by
  rintro ds G ⟨n, gs, k, rfl, _⟩
  rfl
def x_times (p : Prog K mg) : List D → Addr → D → Prop := x_num p.C_InvalidEffect p.C_InvalidNumber 0
theorem arx_times (p : Prog K mg) : ∀ ds c d, x_times p ds c d → ds.length = 2 := arx_num
def kr_times_1 : KS := (kRet (kCallT w_power_of 2 (kCons (kVar 2) (kCons (kVar 1) kNil))))
def kr_times_2 : KS := (kSeq (kDrop (kCallT w_check_number 1 (kCons (kVar 1) kNil)))
  kr_times_1)
def k_times : KS := (kSeq (kAsg (kCallT w_checked 1 (kCons (kVar 0) kNil)) (kgName 2))
  kr_times_2)
def kxr_times_1 (p : Prog K mg) (x : XH) : KS := (kRet (kCallT w_power_of 2 (kCons (kVar 2) (kCons (kVar 1) kNil))))
def kxr_times_2 (p : Prog K mg) (x : XH) : KS := (kSeq (kDrop (kCallX x (W_check_number p) 1 (kCons (kVar 1) kNil)))
  (kxr_times_1 p x))
def kx_times (p : Prog K mg) (x : XH) : KS := (kSeq (kAsg (kCallX x (W_checked p) 1 (kCons (kVar 0) kNil)) (kgName 2))
  (kxr_times_2 p x))
abbrev W_times (p : Prog K mg) : TwX := twX w_times (x_times p)
local macro_rules | `(tactic| walk_at "go") => `(tactic| ((first | unfold kr_times_1 | unfold kxr_times_1 | unfold kr_times_2 | unfold kxr_times_2); walk_at "ev"))
theorem val_times : ∀ ds G, w_times ds G → k_times ⟨ds.map Sl.fz ++ [.jk], [], 0⟩ (edT G) := by
  rintro ds Gq ⟨n, gs, k, rfl, ef, k0, k1, n1, l1, q⟩
  have lk := leastE_ok ef
  have a1 : (leastE n gs).1 ≤ n := lk.le
  have a2 : (leastE n gs).2.length ≤ gs.length := lk.len
  have a3 : Lst (leastE n gs) := lk.lst
  unfold k_times
  walk_at "ev"
  refine ⟨n, gs, rfl, ef, by omega, ?_⟩
  walk_at "ev"
  walk_at "go"
  refine ⟨k, rfl, k0, ?_⟩
  walk_at "ev"
  walk_at "go"
  refine ⟨(leastE n gs).1, (leastE n gs).2, k, rfl, lk.eff, a3, k0, k1, by omega, by omega, ?_⟩
  walk_at "ev"
  exact q
theorem valx_times (p : Prog K mg) : ∀ ds c d, x_times p ds c d → kx_times p (fun c' d' _ => c' = c ∧ d' = d) ⟨ds.map Sl.fz ++ [.jk], [], 0⟩ (edT fun _ => False) := by
  rintro ds c e ⟨n, gs, m, rfl, l1, hx⟩
  unfold kx_times
  walk_at "ev"
  rcases hx with ⟨ne, rfl, rfl⟩ | ⟨ef, hm, rfl, rfl⟩
  · exact .inr ⟨_, _, ⟨n, gs, rfl, l1, ne, rfl, rfl⟩, rfl, rfl⟩
  · refine .inl ⟨n, gs, rfl, ef, l1, ?_⟩
    walk_at "ev"
    walk_at "go"
    exact .inr ⟨_, _, ⟨m, rfl, hm, rfl, rfl⟩, rfl, rfl⟩
theorem ok_times (p : Prog K mg) : FnG P w K mg base (L2.CX P w) 4 p.f_times p.fd_times ["one", "number"] (spX (W_times p)) :=
  okF (kx := kx_times p) p.d_times.F sc_times (by decide) ar_times (arx_times p) (fun cdv A outer s H E hg hr => ⟨_, (pss_cons (ps_set (i := 2) sc_times.nd rfl (Or.inl rfl) (pe_callG ((ok_checked p).mono (by decide)) hg hr (by rfl) p.d_checked.gl p.d_checked.kp p.d_checked.bd passOwn (pa_cons (pv 0) pa_nil)))
      (pss_cons (ps_expr (pe_callG ((ok_check_number p).mono (by decide)) hg hr (by rfl) p.d_check_number.gl p.d_check_number.kp p.d_check_number.bd passOwn (pa_cons (pv 1) pa_nil)))
      (pss_one (ps_ret (pe_callG ((ok_power_of p).mono (by decide)) hg hr (by rfl) p.d_power_of.gl p.d_power_of.kp p.d_power_of.bd pass0 (pa_cons (pv 2) (pa_cons (pv 1) pa_nil))))))),
    fun C xc => (so_seq (so_asg (so_callF (so_cons (so_var (i := 0)) so_nil)) (so_gname (i := 2)))
      (so_seq (so_drop (so_callF (so_cons (so_var (i := 1)) so_nil)))
      (so_ret (so_callT (so_cons (so_var (i := 2)) (so_cons (so_var (i := 1)) so_nil)))))),
    fun C xc hE => (so_seq (so_asg (so_callX hE (so_cons (so_var (i := 0)) so_nil)) (so_gname (i := 2)))
      (so_seq (so_drop (so_callX hE (so_cons (so_var (i := 1)) so_nil)))
      (so_ret (so_callT (so_cons (so_var (i := 2)) (so_cons (so_var (i := 1)) so_nil))))))⟩) val_times (valx_times p)
def w_place_after : Tw := fun ds Q => ∃ n gs k r, ds = [dE (n, gs), .int k, .int r] ∧ Eff (n, gs) ∧ 0 ≤ k ∧ k < 2 ^ 120 ∧ 1 ≤ r ∧ r < 2 ^ 140 ∧ n ≤ 1000 ∧ gs.length ≤ 1000 ∧ Q (.int (itE (n, gs) k.toNat r))
theorem ar_place_after : ∀ ds G, w_place_after ds G → ds.length = 3 := by
  rintro ds G ⟨n, gs, k, r, rfl, _⟩
  rfl
def x_place_after (p : Prog K mg) : List D → Addr → D → Prop := x_np p.C_InvalidEffect p.C_InvalidNumber p.C_InvalidPlace
theorem arx_place_after (p : Prog K mg) : ∀ ds c d, x_place_after p ds c d → ds.length = 3 := arx_np
def kr_place_after_1 : KS := (kRet (kCallT w_spot_after 3 (kCons (kVar 3) (kCons (kVar 1) (kCons (kVar 2) kNil)))))
def kr_place_after_2 : KS := (kSeq (kDrop (kCallT w_check_place 1 (kCons (kVar 2) kNil)))
  kr_place_after_1)
def kr_place_after_3 : KS := (kSeq (kDrop (kCallT w_check_number 1 (kCons (kVar 1) kNil)))
  kr_place_after_2)
def k_place_after : KS := (kSeq (kAsg (kCallT w_checked 1 (kCons (kVar 0) kNil)) (kgName 3))
  kr_place_after_3)
def kxr_place_after_1 (p : Prog K mg) (x : XH) : KS := (kRet (kCallT w_spot_after 3 (kCons (kVar 3) (kCons (kVar 1) (kCons (kVar 2) kNil)))))
def kxr_place_after_2 (p : Prog K mg) (x : XH) : KS := (kSeq (kDrop (kCallX x (W_check_place p) 1 (kCons (kVar 2) kNil)))
  (kxr_place_after_1 p x))
def kxr_place_after_3 (p : Prog K mg) (x : XH) : KS := (kSeq (kDrop (kCallX x (W_check_number p) 1 (kCons (kVar 1) kNil)))
  (kxr_place_after_2 p x))
def kx_place_after (p : Prog K mg) (x : XH) : KS := (kSeq (kAsg (kCallX x (W_checked p) 1 (kCons (kVar 0) kNil)) (kgName 3))
  (kxr_place_after_3 p x))
abbrev W_place_after (p : Prog K mg) : TwX := twX w_place_after (x_place_after p)
local macro_rules | `(tactic| walk_at "go") => `(tactic| ((first | unfold kr_place_after_1 | unfold kxr_place_after_1 | unfold kr_place_after_2 | unfold kxr_place_after_2 | unfold kr_place_after_3 | unfold kxr_place_after_3); walk_at "ev"))
theorem val_place_after : ∀ ds G, w_place_after ds G → k_place_after ⟨ds.map Sl.fz ++ [.jk], [], 0⟩ (edT G) := by
  rintro ds Gq ⟨n, gs, k, r, rfl, ef, k0, k1, r0, r1, n1, l1, q⟩
  have lk := leastE_ok ef
  have a1 : (leastE n gs).1 ≤ n := lk.le
  have a2 : (leastE n gs).2.length ≤ gs.length := lk.len
  have il := it_least ef k.toNat r0
  unfold k_place_after
  walk_at "ev"
  refine ⟨n, gs, rfl, ef, by omega, ?_⟩
  walk_at "ev"
  walk_at "go"
  refine ⟨k, rfl, k0, ?_⟩
  walk_at "ev"
  walk_at "go"
  refine ⟨r, rfl, r0, ?_⟩
  walk_at "ev"
  walk_at "go"
  refine ⟨(leastE n gs).1, (leastE n gs).2, k, r, rfl, lk.eff, k0, k1, r0, r1, by omega, by omega, ?_⟩
  rw [show itE ((leastE n gs).1, (leastE n gs).2) k.toNat r = itE (n, gs) k.toNat r from il]
  walk_at "ev"
  exact q
theorem valx_place_after (p : Prog K mg) : ∀ ds c d, x_place_after p ds c d → kx_place_after p (fun c' d' _ => c' = c ∧ d' = d) ⟨ds.map Sl.fz ++ [.jk], [], 0⟩ (edT fun _ => False) := by
  rintro ds c e ⟨n, gs, k, r, rfl, l1, hx⟩
  unfold kx_place_after
  walk_at "ev"
  rcases hx with ⟨ne, rfl, rfl⟩ | ⟨ef, hm, rfl, rfl⟩ | ⟨ef, k0, hm, rfl, rfl⟩
  · exact .inr ⟨_, _, ⟨n, gs, rfl, l1, ne, rfl, rfl⟩, rfl, rfl⟩
  · refine .inl ⟨n, gs, rfl, ef, l1, ?_⟩
    walk_at "ev"
    walk_at "go"
    exact .inr ⟨_, _, ⟨k, rfl, hm, rfl, rfl⟩, rfl, rfl⟩
  · refine .inl ⟨n, gs, rfl, ef, l1, ?_⟩
    walk_at "ev"
    walk_at "go"
    refine .inl ⟨k, rfl, k0, ?_⟩
    walk_at "ev"
    walk_at "go"
    exact .inr ⟨_, _, ⟨r, rfl, hm, rfl, rfl⟩, rfl, rfl⟩
theorem ok_place_after (p : Prog K mg) : FnG P w K mg base (L2.CX P w) 4 p.f_place_after p.fd_place_after ["one", "number", "spot"] (spX (W_place_after p)) :=
  okF (kx := kx_place_after p) p.d_place_after.F sc_place_after (by decide) ar_place_after (arx_place_after p) (fun cdv A outer s H E hg hr => ⟨_, (pss_cons (ps_set (i := 3) sc_place_after.nd rfl (Or.inl rfl) (pe_callG ((ok_checked p).mono (by decide)) hg hr (by rfl) p.d_checked.gl p.d_checked.kp p.d_checked.bd passOwn (pa_cons (pv 0) pa_nil)))
      (pss_cons (ps_expr (pe_callG ((ok_check_number p).mono (by decide)) hg hr (by rfl) p.d_check_number.gl p.d_check_number.kp p.d_check_number.bd passOwn (pa_cons (pv 1) pa_nil)))
      (pss_cons (ps_expr (pe_callG ((ok_check_place p).mono (by decide)) hg hr (by rfl) p.d_check_place.gl p.d_check_place.kp p.d_check_place.bd passOwn (pa_cons (pv 2) pa_nil)))
      (pss_one (ps_ret (pe_callG ((ok_spot_after p).mono (by decide)) hg hr (by rfl) p.d_spot_after.gl p.d_spot_after.kp p.d_spot_after.bd pass0 (pa_cons (pv 3) (pa_cons (pv 1) (pa_cons (pv 2) pa_nil))))))))),
    fun C xc => (so_seq (so_asg (so_callF (so_cons (so_var (i := 0)) so_nil)) (so_gname (i := 3)))
      (so_seq (so_drop (so_callF (so_cons (so_var (i := 1)) so_nil)))
      (so_seq (so_drop (so_callF (so_cons (so_var (i := 2)) so_nil)))
      (so_ret (so_callT (so_cons (so_var (i := 3)) (so_cons (so_var (i := 1)) (so_cons (so_var (i := 2)) so_nil)))))))),
    fun C xc hE => (so_seq (so_asg (so_callX hE (so_cons (so_var (i := 0)) so_nil)) (so_gname (i := 3)))
      (so_seq (so_drop (so_callX hE (so_cons (so_var (i := 1)) so_nil)))
      (so_seq (so_drop (so_callX hE (so_cons (so_var (i := 2)) so_nil)))
      (so_ret (so_callT (so_cons (so_var (i := 3)) (so_cons (so_var (i := 1)) (so_cons (so_var (i := 2)) so_nil))))))))⟩) val_place_after (valx_place_after p)
def w_way : Tw := fun ds Q => ∃ (n : Int) (gs : List Int) (r : Int), ds = [dE (n, gs), .int r] ∧ Eff (n, gs) ∧ 1 ≤ r ∧ r ≤ 1000 ∧ n ≤ 1000 ∧ gs.length ≤ 1000 ∧
  ∀ (h L : Nat) (g : Int), Tell (fun t => itE (n, gs) t r) h L g → h ≤ 1000 → L ≤ 1000 → Q (.tuple [dI ((List.range h).map fun t => itE (n, gs) t r), dI ((List.range L).map fun j => itE (n, gs) (h + j) r), .int g])
theorem ar_way : ∀ ds G, w_way ds G → ds.length = 2 := by
  rintro ds G ⟨n, gs, r, rfl, _⟩
  rfl
def x_way (p : Prog K mg) : List D → Addr → D → Prop := x_num p.C_InvalidEffect p.C_InvalidPlace 1
theorem arx_way (p : Prog K mg) : ∀ ds c d, x_way p ds c d → ds.length = 2 := arx_num
def kr_way_1 : KS := (kRet (kCallT w_told_way 4 (kCons (kVar 3) (kCons (kVar 4) (kCons (kVar 5) (kCons (kVar 6) kNil))))))
def kr_way_2 : KS := (kSeq (kAsg (kCallT w_walked_places 2 (kCons (kVar 2) (kCons (kVar 1) kNil))) (kgTup 4 (kgCons (kgName 3) (kgCons (kgName 4) (kgCons (kgName 5) (kgCons (kgName 6) kgNil))))))
  kr_way_1)
def kr_way_3 : KS := (kSeq (kDrop (kCallT w_check_place 1 (kCons (kVar 1) kNil)))
  kr_way_2)
def k_way : KS := (kSeq (kAsg (kCallT w_checked 1 (kCons (kVar 0) kNil)) (kgName 2))
  kr_way_3)
def kxr_way_1 (p : Prog K mg) (x : XH) : KS := (kRet (kCallT w_told_way 4 (kCons (kVar 3) (kCons (kVar 4) (kCons (kVar 5) (kCons (kVar 6) kNil))))))
def kxr_way_2 (p : Prog K mg) (x : XH) : KS := (kSeq (kAsg (kCallT w_walked_places 2 (kCons (kVar 2) (kCons (kVar 1) kNil))) (kgTup 4 (kgCons (kgName 3) (kgCons (kgName 4) (kgCons (kgName 5) (kgCons (kgName 6) kgNil))))))
  (kxr_way_1 p x))
def kxr_way_3 (p : Prog K mg) (x : XH) : KS := (kSeq (kDrop (kCallX x (W_check_place p) 1 (kCons (kVar 1) kNil)))
  (kxr_way_2 p x))
def kx_way (p : Prog K mg) (x : XH) : KS := (kSeq (kAsg (kCallX x (W_checked p) 1 (kCons (kVar 0) kNil)) (kgName 2))
  (kxr_way_3 p x))
abbrev W_way (p : Prog K mg) : TwX := twX w_way (x_way p)
local macro_rules | `(tactic| walk_at "go") => `(tactic| ((first | unfold kr_way_1 | unfold kxr_way_1 | unfold kr_way_2 | unfold kxr_way_2 | unfold kr_way_3 | unfold kxr_way_3); walk_at "ev"))
theorem val_way : ∀ ds G, w_way ds G → k_way ⟨ds.map Sl.fz ++ [.jk, .jk, .jk, .jk, .jk], [], 0⟩ (edT G) := by
  rintro ds Gq ⟨n, gs, r, rfl, ef, r0, r1, n1, l1, q⟩
  have lk := leastE_ok ef
  have a1 : (leastE n gs).1 ≤ n := lk.le
  have a2 : (leastE n gs).2.length ≤ gs.length := lk.len
  unfold k_way
  walk_at "ev"
  refine ⟨n, gs, rfl, ef, by omega, ?_⟩
  walk_at "ev"
  walk_at "go"
  refine ⟨r, rfl, r0, ?_⟩
  walk_at "ev"
  walk_at "go"
  obtain ⟨⟨p, ps⟩, ep⟩ : ∃ e, leastE n gs = e := ⟨_, rfl⟩
  have il : ∀ t : Nat, itE (n, gs) t r = itE (p, ps) t r := fun t => by rw [← ep]; exact (it_least ef t r0).symm
  rw [ep] at lk a1 a2
  simp only [ep]
  simp only [il] at q
  have epf : Eff (p, ps) := lk.eff
  refine ⟨p, ps, r, rfl, epf, r0, r1, by dsimp only at a1; omega, by dsimp only at a2; omega, fun t t1 nd lo => ⟨fun i hi hit => ?_, fun hs hh => ?_⟩⟩
  · have per : Per (fun t => itE (p, ps) t r) i (t - i) 0 := per_cyc (by rw [show i + (t - i) = t by omega]; exact hit)
    walk_at "ev"
    walk_at "go"
    refine ⟨fun t => itE (p, ps) t r, t, i, t - i, 0, by rw [show ((t - i : Nat) : Int) = (t : Int) - i by omega]; rfl, by omega, per, by omega, by omega, by omega, by decide, by decide, fun h L g tt hT hL => ?_⟩
    walk_at "ev"
    exact q h L g tt (by omega) (by omega)
  · have per : Per (fun t => itE (p, ps) t r) t 1 (p - ps.length) := per_hi (e := (p, ps)) hs hh
    walk_at "ev"
    walk_at "go"
    dsimp only at a1 a2
    have e60 : (2 : Int) ^ 60 = 1152921504606846976 := by decide
    refine ⟨fun t => itE (p, ps) t r, t + 1, t, 1, p - ps.length, rfl, by omega, per, by omega, by omega, by omega, by have := epf.nn; dsimp only at this; omega, by omega, fun h L g tt hT hL => ?_⟩
    walk_at "ev"
    exact q h L g tt (by omega) (by omega)
theorem valx_way (p : Prog K mg) : ∀ ds c d, x_way p ds c d → kx_way p (fun c' d' _ => c' = c ∧ d' = d) ⟨ds.map Sl.fz ++ [.jk, .jk, .jk, .jk, .jk], [], 0⟩ (edT fun _ => False) := by
  rintro ds c e ⟨n, gs, m, rfl, l1, hx⟩
  unfold kx_way
  walk_at "ev"
  rcases hx with ⟨ne, rfl, rfl⟩ | ⟨ef, hm, rfl, rfl⟩
  · exact .inr ⟨_, _, ⟨n, gs, rfl, l1, ne, rfl, rfl⟩, rfl, rfl⟩
  · refine .inl ⟨n, gs, rfl, ef, l1, ?_⟩
    walk_at "ev"
    walk_at "go"
    exact .inr ⟨_, _, ⟨m, rfl, hm, rfl, rfl⟩, rfl, rfl⟩
theorem ok_way (p : Prog K mg) : FnG P w K mg base (L2.CX P w) 4 p.f_way p.fd_way ["one", "spot"] (spX (W_way p)) :=
  okF (kx := kx_way p) p.d_way.F sc_way (by decide) ar_way (arx_way p) (fun cdv A outer s H E hg hr => ⟨_, (pss_cons (ps_set (i := 2) sc_way.nd rfl (Or.inl rfl) (pe_callG ((ok_checked p).mono (by decide)) hg hr (by rfl) p.d_checked.gl p.d_checked.kp p.d_checked.bd passOwn (pa_cons (pv 0) pa_nil)))
      (pss_cons (ps_expr (pe_callG ((ok_check_place p).mono (by decide)) hg hr (by rfl) p.d_check_place.gl p.d_check_place.kp p.d_check_place.bd passOwn (pa_cons (pv 1) pa_nil)))
      (pss_cons (ps_asg (pe_callG ((ok_walked_places p).mono (by decide)) hg hr (by rfl) p.d_walked_places.gl p.d_walked_places.kp p.d_walked_places.bd pass0 (pa_cons (pv 2) (pa_cons (pv 1) pa_nil))) (pg_tup rfl (pgs_cons (pg_name (i := 3) sc_way.nd rfl (Or.inl rfl)) (pgs_cons (pg_name (i := 4) sc_way.nd rfl (Or.inl rfl)) (pgs_cons (pg_name (i := 5) sc_way.nd rfl (Or.inl rfl)) (pgs_cons (pg_name (i := 6) sc_way.nd rfl (Or.inl rfl)) pgs_nil))))))
      (pss_one (ps_ret (pe_callG ((ok_told_way p).mono (by decide)) hg hr (by rfl) p.d_told_way.gl p.d_told_way.kp p.d_told_way.bd pass0 (pa_cons (pv 3) (pa_cons (pv 4) (pa_cons (pv 5) (pa_cons (pv 6) pa_nil)))))))))),
    fun C xc => (so_seq (so_asg (so_callF (so_cons (so_var (i := 0)) so_nil)) (so_gname (i := 2)))
      (so_seq (so_drop (so_callF (so_cons (so_var (i := 1)) so_nil)))
      (so_seq (so_asg (so_callT (so_cons (so_var (i := 2)) (so_cons (so_var (i := 1)) so_nil))) (so_gtup (so_gcons (so_gname (i := 3)) (so_gcons (so_gname (i := 4)) (so_gcons (so_gname (i := 5)) (so_gcons (so_gname (i := 6)) so_gnil))))))
      (so_ret (so_callT (so_cons (so_var (i := 3)) (so_cons (so_var (i := 4)) (so_cons (so_var (i := 5)) (so_cons (so_var (i := 6)) so_nil))))))))),
    fun C xc hE => (so_seq (so_asg (so_callX hE (so_cons (so_var (i := 0)) so_nil)) (so_gname (i := 2)))
      (so_seq (so_drop (so_callX hE (so_cons (so_var (i := 1)) so_nil)))
      (so_seq (so_asg (so_callT (so_cons (so_var (i := 2)) (so_cons (so_var (i := 1)) so_nil))) (so_gtup (so_gcons (so_gname (i := 3)) (so_gcons (so_gname (i := 4)) (so_gcons (so_gname (i := 5)) (so_gcons (so_gname (i := 6)) so_gnil))))))
      (so_ret (so_callT (so_cons (so_var (i := 3)) (so_cons (so_var (i := 4)) (so_cons (so_var (i := 5)) (so_cons (so_var (i := 6)) so_nil)))))))))⟩) val_way (valx_way p)
def w_size_after : Tw := fun ds Q => ∃ (n : Int) (gs : List Int) (k : Int), ds = [dE (n, gs), .int k] ∧ Eff (n, gs) ∧ 0 ≤ k ∧ k < 2 ^ 103 ∧ n ≤ 6 ∧ gs.length ≤ 8 ∧ Q (.tuple [.int (powE (leastE n gs) k.toNat).1, .int (powE (leastE n gs) k.toNat).2.length])
theorem ar_size_after : ∀ ds G, w_size_after ds G → ds.length = 2 := by
  rintro ds G ⟨n, gs, k, rfl, _⟩
  rfl
def x_size_after (p : Prog K mg) : List D → Addr → D → Prop := x_num p.C_InvalidEffect p.C_InvalidNumber 0
theorem arx_size_after (p : Prog K mg) : ∀ ds c d, x_size_after p ds c d → ds.length = 2 := arx_num
def kr_size_after_1 : KS := (kRet (kCallT w_size_after_times 2 (kCons (kVar 2) (kCons (kVar 1) kNil))))
def kr_size_after_2 : KS := (kSeq (kDrop (kCallT w_check_number 1 (kCons (kVar 1) kNil)))
  kr_size_after_1)
def k_size_after : KS := (kSeq (kAsg (kCallT w_checked 1 (kCons (kVar 0) kNil)) (kgName 2))
  kr_size_after_2)
def kxr_size_after_1 (p : Prog K mg) (x : XH) : KS := (kRet (kCallT w_size_after_times 2 (kCons (kVar 2) (kCons (kVar 1) kNil))))
def kxr_size_after_2 (p : Prog K mg) (x : XH) : KS := (kSeq (kDrop (kCallX x (W_check_number p) 1 (kCons (kVar 1) kNil)))
  (kxr_size_after_1 p x))
def kx_size_after (p : Prog K mg) (x : XH) : KS := (kSeq (kAsg (kCallX x (W_checked p) 1 (kCons (kVar 0) kNil)) (kgName 2))
  (kxr_size_after_2 p x))
abbrev W_size_after (p : Prog K mg) : TwX := twX w_size_after (x_size_after p)
local macro_rules | `(tactic| walk_at "go") => `(tactic| ((first | unfold kr_size_after_1 | unfold kxr_size_after_1 | unfold kr_size_after_2 | unfold kxr_size_after_2); walk_at "ev"))
theorem val_size_after : ∀ ds G, w_size_after ds G → k_size_after ⟨ds.map Sl.fz ++ [.jk], [], 0⟩ (edT G) := by
  rintro ds Gq ⟨n, gs, k, rfl, ef, k0, k1, n1, l1, q⟩
  have lk := leastE_ok ef
  have a1 : (leastE n gs).1 ≤ n := lk.le
  have a2 : (leastE n gs).2.length ≤ gs.length := lk.len
  unfold k_size_after
  walk_at "ev"
  refine ⟨n, gs, rfl, ef, by omega, ?_⟩
  walk_at "ev"
  walk_at "go"
  refine ⟨k, rfl, k0, ?_⟩
  walk_at "ev"
  walk_at "go"
  refine ⟨(leastE n gs).1, (leastE n gs).2, k, rfl, lk.eff, k0, k1, by omega, by omega, ?_⟩
  walk_at "ev"
  exact q
theorem valx_size_after (p : Prog K mg) : ∀ ds c d, x_size_after p ds c d → kx_size_after p (fun c' d' _ => c' = c ∧ d' = d) ⟨ds.map Sl.fz ++ [.jk], [], 0⟩ (edT fun _ => False) := by
  rintro ds c e ⟨n, gs, m, rfl, l1, hx⟩
  unfold kx_size_after
  walk_at "ev"
  rcases hx with ⟨ne, rfl, rfl⟩ | ⟨ef, hm, rfl, rfl⟩
  · exact .inr ⟨_, _, ⟨n, gs, rfl, l1, ne, rfl, rfl⟩, rfl, rfl⟩
  · refine .inl ⟨n, gs, rfl, ef, l1, ?_⟩
    walk_at "ev"
    walk_at "go"
    exact .inr ⟨_, _, ⟨m, rfl, hm, rfl, rfl⟩, rfl, rfl⟩
theorem ok_size_after (p : Prog K mg) : FnG P w K mg base (L2.CX P w) 6 p.f_size_after p.fd_size_after ["one", "number"] (spX (W_size_after p)) :=
  okF (kx := kx_size_after p) p.d_size_after.F sc_size_after (by decide) ar_size_after (arx_size_after p) (fun cdv A outer s H E hg hr => ⟨_, (pss_cons (ps_set (i := 2) sc_size_after.nd rfl (Or.inl rfl) (pe_callG ((ok_checked p).mono (by decide)) hg hr (by rfl) p.d_checked.gl p.d_checked.kp p.d_checked.bd passOwn (pa_cons (pv 0) pa_nil)))
      (pss_cons (ps_expr (pe_callG ((ok_check_number p).mono (by decide)) hg hr (by rfl) p.d_check_number.gl p.d_check_number.kp p.d_check_number.bd passOwn (pa_cons (pv 1) pa_nil)))
      (pss_one (ps_ret (pe_callG ((ok_size_after_times p).mono (by decide)) hg hr (by rfl) p.d_size_after_times.gl p.d_size_after_times.kp p.d_size_after_times.bd pass0 (pa_cons (pv 2) (pa_cons (pv 1) pa_nil))))))),
    fun C xc => (so_seq (so_asg (so_callF (so_cons (so_var (i := 0)) so_nil)) (so_gname (i := 2)))
      (so_seq (so_drop (so_callF (so_cons (so_var (i := 1)) so_nil)))
      (so_ret (so_callT (so_cons (so_var (i := 2)) (so_cons (so_var (i := 1)) so_nil)))))),
    fun C xc hE => (so_seq (so_asg (so_callX hE (so_cons (so_var (i := 0)) so_nil)) (so_gname (i := 2)))
      (so_seq (so_drop (so_callX hE (so_cons (so_var (i := 1)) so_nil)))
      (so_ret (so_callT (so_cons (so_var (i := 2)) (so_cons (so_var (i := 1)) so_nil))))))⟩) val_size_after (valx_size_after p)
def w_copies : Tw := fun ds Q => ∃ (n : Int) (gs : List Int) (k s : Int), ds = [dE (n, gs), .int k, .int s] ∧ Eff (n, gs) ∧ 0 ≤ k ∧ k < 2 ^ 110 ∧ 1 ≤ s ∧ s < 2 ^ 110 ∧ n ≤ 1000 ∧ gs.length ≤ 1000 ∧ ∀ c : Nat, HC (n, gs) k.toNat s c → (c : Int) < 2 ^ 130 → Q (.int c)
theorem ar_copies : ∀ ds G, w_copies ds G → ds.length = 3 := by
  rintro ds G ⟨n, gs, k, s, rfl, _⟩
  rfl
def x_copies (p : Prog K mg) : List D → Addr → D → Prop := x_np p.C_InvalidEffect p.C_InvalidNumber p.C_InvalidPlace
theorem arx_copies (p : Prog K mg) : ∀ ds c d, x_copies p ds c d → ds.length = 3 := arx_np
def kr_copies_1 : KS := (kRet (kCallT w_count_after 3 (kCons (kVar 3) (kCons (kVar 1) (kCons (kVar 2) kNil)))))
def kr_copies_2 : KS := (kSeq (kDrop (kCallT w_check_place 1 (kCons (kVar 2) kNil)))
  kr_copies_1)
def kr_copies_3 : KS := (kSeq (kDrop (kCallT w_check_number 1 (kCons (kVar 1) kNil)))
  kr_copies_2)
def k_copies : KS := (kSeq (kAsg (kCallT w_checked 1 (kCons (kVar 0) kNil)) (kgName 3))
  kr_copies_3)
def kxr_copies_1 (p : Prog K mg) (x : XH) : KS := (kRet (kCallT w_count_after 3 (kCons (kVar 3) (kCons (kVar 1) (kCons (kVar 2) kNil)))))
def kxr_copies_2 (p : Prog K mg) (x : XH) : KS := (kSeq (kDrop (kCallX x (W_check_place p) 1 (kCons (kVar 2) kNil)))
  (kxr_copies_1 p x))
def kxr_copies_3 (p : Prog K mg) (x : XH) : KS := (kSeq (kDrop (kCallX x (W_check_number p) 1 (kCons (kVar 1) kNil)))
  (kxr_copies_2 p x))
def kx_copies (p : Prog K mg) (x : XH) : KS := (kSeq (kAsg (kCallX x (W_checked p) 1 (kCons (kVar 0) kNil)) (kgName 3))
  (kxr_copies_3 p x))
abbrev W_copies (p : Prog K mg) : TwX := twX w_copies (x_copies p)
local macro_rules | `(tactic| walk_at "go") => `(tactic| ((first | unfold kr_copies_1 | unfold kxr_copies_1 | unfold kr_copies_2 | unfold kxr_copies_2 | unfold kr_copies_3 | unfold kxr_copies_3); walk_at "ev"))
theorem HC.least {n : Int} {gs : List Int} (ef : Eff (n, gs)) {k : Nat} {s : Int} {c : Nat} (h : HC (leastE n gs) k s c) : HC (n, gs) k s c := by
  obtain ⟨l, nl, hl, el⟩ := h
  refine ⟨l, nl, fun r => ?_, el⟩
  rw [hl r]
  constructor
  · rintro ⟨h1, h2⟩
    exact ⟨h1, by rw [← it_least ef k h1]; exact h2⟩
  · rintro ⟨h1, h2⟩
    exact ⟨h1, by rw [it_least ef k h1]; exact h2⟩
theorem val_copies : ∀ ds G, w_copies ds G → k_copies ⟨ds.map Sl.fz ++ [.jk], [], 0⟩ (edT G) := by
  rintro ds Gq ⟨n, gs, k, s, rfl, ef, k0, k1, s0, s1, n1, l1, q⟩
  have lk := leastE_ok ef
  have g1 : (leastE n gs).1 ≤ n := lk.le
  have g2 : (leastE n gs).2.length ≤ gs.length := lk.len
  unfold k_copies
  walk_at "ev"
  refine ⟨n, gs, rfl, ef, by omega, ?_⟩
  walk_at "ev"
  walk_at "go"
  refine ⟨k, rfl, k0, ?_⟩
  walk_at "ev"
  walk_at "go"
  refine ⟨s, rfl, s0, ?_⟩
  walk_at "ev"
  walk_at "go"
  refine ⟨(leastE n gs).1, (leastE n gs).2, k, s, rfl, lk.eff, k0, k1, s0, s1, by omega, by omega, fun c hc hb => ?_⟩
  have := q c (HC.least ef hc) hb
  exact this
theorem valx_copies (p : Prog K mg) : ∀ ds c d, x_copies p ds c d → kx_copies p (fun c' d' _ => c' = c ∧ d' = d) ⟨ds.map Sl.fz ++ [.jk], [], 0⟩ (edT fun _ => False) := by
  rintro ds c e ⟨n, gs, k, r, rfl, l1, hx⟩
  unfold kx_copies
  walk_at "ev"
  rcases hx with ⟨ne, rfl, rfl⟩ | ⟨ef, hm, rfl, rfl⟩ | ⟨ef, k0, hm, rfl, rfl⟩
  · exact .inr ⟨_, _, ⟨n, gs, rfl, l1, ne, rfl, rfl⟩, rfl, rfl⟩
  · refine .inl ⟨n, gs, rfl, ef, l1, ?_⟩
    walk_at "ev"
    walk_at "go"
    exact .inr ⟨_, _, ⟨k, rfl, hm, rfl, rfl⟩, rfl, rfl⟩
  · refine .inl ⟨n, gs, rfl, ef, l1, ?_⟩
    walk_at "ev"
    walk_at "go"
    refine .inl ⟨k, rfl, k0, ?_⟩
    walk_at "ev"
    walk_at "go"
    exact .inr ⟨_, _, ⟨r, rfl, hm, rfl, rfl⟩, rfl, rfl⟩
theorem ok_copies (p : Prog K mg) : FnG P w K mg base (L2.CX P w) 5 p.f_copies p.fd_copies ["one", "number", "spot"] (spX (W_copies p)) :=
  okF (kx := kx_copies p) p.d_copies.F sc_copies (by decide) ar_copies (arx_copies p) (fun cdv A outer s H E hg hr => ⟨_, (pss_cons (ps_set (i := 3) sc_copies.nd rfl (Or.inl rfl) (pe_callG ((ok_checked p).mono (by decide)) hg hr (by rfl) p.d_checked.gl p.d_checked.kp p.d_checked.bd passOwn (pa_cons (pv 0) pa_nil)))
      (pss_cons (ps_expr (pe_callG ((ok_check_number p).mono (by decide)) hg hr (by rfl) p.d_check_number.gl p.d_check_number.kp p.d_check_number.bd passOwn (pa_cons (pv 1) pa_nil)))
      (pss_cons (ps_expr (pe_callG ((ok_check_place p).mono (by decide)) hg hr (by rfl) p.d_check_place.gl p.d_check_place.kp p.d_check_place.bd passOwn (pa_cons (pv 2) pa_nil)))
      (pss_one (ps_ret (pe_callG ((ok_count_after p).mono (by decide)) hg hr (by rfl) p.d_count_after.gl p.d_count_after.kp p.d_count_after.bd pass0 (pa_cons (pv 3) (pa_cons (pv 1) (pa_cons (pv 2) pa_nil))))))))),
    fun C xc => (so_seq (so_asg (so_callF (so_cons (so_var (i := 0)) so_nil)) (so_gname (i := 3)))
      (so_seq (so_drop (so_callF (so_cons (so_var (i := 1)) so_nil)))
      (so_seq (so_drop (so_callF (so_cons (so_var (i := 2)) so_nil)))
      (so_ret (so_callT (so_cons (so_var (i := 3)) (so_cons (so_var (i := 1)) (so_cons (so_var (i := 2)) so_nil)))))))),
    fun C xc hE => (so_seq (so_asg (so_callX hE (so_cons (so_var (i := 0)) so_nil)) (so_gname (i := 3)))
      (so_seq (so_drop (so_callX hE (so_cons (so_var (i := 1)) so_nil)))
      (so_seq (so_drop (so_callX hE (so_cons (so_var (i := 2)) so_nil)))
      (so_ret (so_callT (so_cons (so_var (i := 3)) (so_cons (so_var (i := 1)) (so_cons (so_var (i := 2)) so_nil))))))))⟩) val_copies (valx_copies p)
def w_copies_way : Tw := fun ds Q => ∃ (n : Int) (gs : List Int) (r : Int), ds = [dE (n, gs), .int r] ∧ Eff (n, gs) ∧ 1 ≤ r ∧ r ≤ 100 ∧ n ≤ 6 ∧ gs.length ≤ 8 ∧
  ∀ (S : Nat) (low : Int), UpOk (leastE n gs) r S low → ∀ (h L : Nat) (g : Int), Tell (cV (leastE n gs) S low) h L g → h ≤ 1000 → L ≤ 1000 → Q (.tuple [dI ((List.range h).map (cV (leastE n gs) S low)), dI ((List.range L).map fun j => cV (leastE n gs) S low (h + j)), .int g])
theorem ar_copies_way : ∀ ds G, w_copies_way ds G → ds.length = 2 := by
  rintro ds G ⟨n, gs, r, rfl, _⟩
  rfl
def x_copies_way (p : Prog K mg) : List D → Addr → D → Prop := x_num p.C_InvalidEffect p.C_InvalidPlace 1
theorem arx_copies_way (p : Prog K mg) : ∀ ds c d, x_copies_way p ds c d → ds.length = 2 := arx_num
def kr_copies_way_1 : KS := (kRet (kCallT w_counts_told 2 (kCons (kVar 2) (kCons (kVar 1) kNil))))
def kr_copies_way_2 : KS := (kSeq (kDrop (kCallT w_check_place 1 (kCons (kVar 1) kNil)))
  kr_copies_way_1)
def k_copies_way : KS := (kSeq (kAsg (kCallT w_checked 1 (kCons (kVar 0) kNil)) (kgName 2))
  kr_copies_way_2)
def kxr_copies_way_1 (p : Prog K mg) (x : XH) : KS := (kRet (kCallT w_counts_told 2 (kCons (kVar 2) (kCons (kVar 1) kNil))))
def kxr_copies_way_2 (p : Prog K mg) (x : XH) : KS := (kSeq (kDrop (kCallX x (W_check_place p) 1 (kCons (kVar 1) kNil)))
  (kxr_copies_way_1 p x))
def kx_copies_way (p : Prog K mg) (x : XH) : KS := (kSeq (kAsg (kCallX x (W_checked p) 1 (kCons (kVar 0) kNil)) (kgName 2))
  (kxr_copies_way_2 p x))
abbrev W_copies_way (p : Prog K mg) : TwX := twX w_copies_way (x_copies_way p)
local macro_rules | `(tactic| walk_at "go") => `(tactic| ((first | unfold kr_copies_way_1 | unfold kxr_copies_way_1 | unfold kr_copies_way_2 | unfold kxr_copies_way_2); walk_at "ev"))
theorem val_copies_way : ∀ ds G, w_copies_way ds G → k_copies_way ⟨ds.map Sl.fz ++ [.jk], [], 0⟩ (edT G) := by
  rintro ds Gq ⟨n, gs, r, rfl, ef, r0, r1, n1, l1, q⟩
  have lk := leastE_ok ef
  have a1 : (leastE n gs).1 ≤ n := lk.le
  have a2 : (leastE n gs).2.length ≤ gs.length := lk.len
  unfold k_copies_way
  walk_at "ev"
  refine ⟨n, gs, rfl, ef, by omega, ?_⟩
  walk_at "ev"
  walk_at "go"
  refine ⟨r, rfl, r0, ?_⟩
  walk_at "ev"
  walk_at "go"
  refine ⟨(leastE n gs).1, (leastE n gs).2, r, rfl, lk.eff, r0, r1, by omega, by omega, fun S low u h L g tl hh hL => ?_⟩
  walk_at "ev"
  exact q S low u h L g tl hh hL
theorem valx_copies_way (p : Prog K mg) : ∀ ds c d, x_copies_way p ds c d → kx_copies_way p (fun c' d' _ => c' = c ∧ d' = d) ⟨ds.map Sl.fz ++ [.jk], [], 0⟩ (edT fun _ => False) := by
  rintro ds c e ⟨n, gs, m, rfl, l1, hx⟩
  unfold kx_copies_way
  walk_at "ev"
  rcases hx with ⟨ne, rfl, rfl⟩ | ⟨ef, hm, rfl, rfl⟩
  · exact .inr ⟨_, _, ⟨n, gs, rfl, l1, ne, rfl, rfl⟩, rfl, rfl⟩
  · refine .inl ⟨n, gs, rfl, ef, l1, ?_⟩
    walk_at "ev"
    walk_at "go"
    exact .inr ⟨_, _, ⟨m, rfl, hm, rfl, rfl⟩, rfl, rfl⟩
theorem ok_copies_way (p : Prog K mg) : FnG P w K mg base (L2.CX P w) 6 p.f_copies_way p.fd_copies_way ["one", "spot"] (spX (W_copies_way p)) :=
  okF (kx := kx_copies_way p) p.d_copies_way.F sc_copies_way (by decide) ar_copies_way (arx_copies_way p) (fun cdv A outer s H E hg hr => ⟨_, (pss_cons (ps_set (i := 2) sc_copies_way.nd rfl (Or.inl rfl) (pe_callG ((ok_checked p).mono (by decide)) hg hr (by rfl) p.d_checked.gl p.d_checked.kp p.d_checked.bd passOwn (pa_cons (pv 0) pa_nil)))
      (pss_cons (ps_expr (pe_callG ((ok_check_place p).mono (by decide)) hg hr (by rfl) p.d_check_place.gl p.d_check_place.kp p.d_check_place.bd passOwn (pa_cons (pv 1) pa_nil)))
      (pss_one (ps_ret (pe_callG ((ok_counts_told p).mono (by decide)) hg hr (by rfl) p.d_counts_told.gl p.d_counts_told.kp p.d_counts_told.bd pass0 (pa_cons (pv 2) (pa_cons (pv 1) pa_nil))))))),
    fun C xc => (so_seq (so_asg (so_callF (so_cons (so_var (i := 0)) so_nil)) (so_gname (i := 2)))
      (so_seq (so_drop (so_callF (so_cons (so_var (i := 1)) so_nil)))
      (so_ret (so_callT (so_cons (so_var (i := 2)) (so_cons (so_var (i := 1)) so_nil)))))),
    fun C xc hE => (so_seq (so_asg (so_callX hE (so_cons (so_var (i := 0)) so_nil)) (so_gname (i := 2)))
      (so_seq (so_drop (so_callX hE (so_cons (so_var (i := 1)) so_nil)))
      (so_ret (so_callT (so_cons (so_var (i := 2)) (so_cons (so_var (i := 1)) so_nil))))))⟩) val_copies_way (valx_copies_way p)
def w_lost_after : Tw := fun ds Q => ∃ (n : Int) (gs : List Int) (r : Int), ds = [dE (n, gs), .int r] ∧ Eff (n, gs) ∧ n ≤ 1000 ∧ gs.length ≤ 1000 ∧ 1 ≤ r ∧ r < 2 ^ 105 ∧ ∀ o, GN (n, gs) r o → MB o → Q (oD o)
theorem ar_lost_after : ∀ ds G, w_lost_after ds G → ds.length = 2 := by
  rintro ds G ⟨n, gs, r, rfl, _⟩
  rfl
def x_lost_after (p : Prog K mg) : List D → Addr → D → Prop := x_num p.C_InvalidEffect p.C_InvalidPlace 1
theorem arx_lost_after (p : Prog K mg) : ∀ ds c d, x_lost_after p ds c d → ds.length = 2 := arx_num
def kr_lost_after_1 : KS := (kRet (kCallT w_lost_from 2 (kCons (kVar 2) (kCons (kVar 1) kNil))))
def kr_lost_after_2 : KS := (kSeq (kDrop (kCallT w_check_place 1 (kCons (kVar 1) kNil)))
  kr_lost_after_1)
def k_lost_after : KS := (kSeq (kAsg (kCallT w_checked 1 (kCons (kVar 0) kNil)) (kgName 2))
  kr_lost_after_2)
def kxr_lost_after_1 (p : Prog K mg) (x : XH) : KS := (kRet (kCallT w_lost_from 2 (kCons (kVar 2) (kCons (kVar 1) kNil))))
def kxr_lost_after_2 (p : Prog K mg) (x : XH) : KS := (kSeq (kDrop (kCallX x (W_check_place p) 1 (kCons (kVar 1) kNil)))
  (kxr_lost_after_1 p x))
def kx_lost_after (p : Prog K mg) (x : XH) : KS := (kSeq (kAsg (kCallX x (W_checked p) 1 (kCons (kVar 0) kNil)) (kgName 2))
  (kxr_lost_after_2 p x))
abbrev W_lost_after (p : Prog K mg) : TwX := twX w_lost_after (x_lost_after p)
local macro_rules | `(tactic| walk_at "go") => `(tactic| ((first | unfold kr_lost_after_1 | unfold kxr_lost_after_1 | unfold kr_lost_after_2 | unfold kxr_lost_after_2); walk_at "ev"))
theorem alive_least {n : Int} {gs : List Int} (ef : Eff (n, gs)) {k : Nat} {s : Int} : Alive (leastE n gs) k s ↔ Alive (n, gs) k s := by
  constructor
  · rintro ⟨x, h1, h2⟩
    exact ⟨x, h1, by rw [← it_least ef k h1]; exact h2⟩
  · rintro ⟨x, h1, h2⟩
    exact ⟨x, h1, by rw [it_least ef k h1]; exact h2⟩
theorem GN.least {n : Int} {gs : List Int} (ef : Eff (n, gs)) {r : Int} : ∀ {o : Option Nat}, GN (leastE n gs) r o ↔ GN (n, gs) r o
  | none => ⟨fun h k => (alive_least ef).mp (h k), fun h k => (alive_least ef).mpr (h k)⟩
  | some t => ⟨fun h => ⟨fun z => h.1 ((alive_least ef).mpr z), fun j hj => (alive_least ef).mp (h.2 j hj)⟩, fun h => ⟨fun z => h.1 ((alive_least ef).mp z), fun j hj => (alive_least ef).mpr (h.2 j hj)⟩⟩
theorem val_lost_after : ∀ ds G, w_lost_after ds G → k_lost_after ⟨ds.map Sl.fz ++ [.jk], [], 0⟩ (edT G) := by
  rintro ds Gq ⟨n, gs, r, rfl, ef, n1, l1, r0, r1, q⟩
  have lk := leastE_ok ef
  have a1 : (leastE n gs).1 ≤ n := lk.le
  have a2 : (leastE n gs).2.length ≤ gs.length := lk.len
  unfold k_lost_after
  walk_at "ev"
  refine ⟨n, gs, rfl, ef, by omega, ?_⟩
  walk_at "ev"
  walk_at "go"
  refine ⟨r, rfl, r0, ?_⟩
  walk_at "ev"
  walk_at "go"
  refine ⟨(leastE n gs).1, (leastE n gs).2, r, rfl, lk.eff, by omega, by omega, r0, r1, fun o ho hb => ?_⟩
  walk_at "ev"
  exact q o ((GN.least ef).mp ho) hb
theorem valx_lost_after (p : Prog K mg) : ∀ ds c d, x_lost_after p ds c d → kx_lost_after p (fun c' d' _ => c' = c ∧ d' = d) ⟨ds.map Sl.fz ++ [.jk], [], 0⟩ (edT fun _ => False) := by
  rintro ds c e ⟨n, gs, m, rfl, l1, hx⟩
  unfold kx_lost_after
  walk_at "ev"
  rcases hx with ⟨ne, rfl, rfl⟩ | ⟨ef, hm, rfl, rfl⟩
  · exact .inr ⟨_, _, ⟨n, gs, rfl, l1, ne, rfl, rfl⟩, rfl, rfl⟩
  · refine .inl ⟨n, gs, rfl, ef, l1, ?_⟩
    walk_at "ev"
    walk_at "go"
    exact .inr ⟨_, _, ⟨m, rfl, hm, rfl, rfl⟩, rfl, rfl⟩
theorem ok_lost_after (p : Prog K mg) : FnG P w K mg base (L2.CX P w) 6 p.f_lost_after p.fd_lost_after ["one", "spot"] (spX (W_lost_after p)) :=
  okF (kx := kx_lost_after p) p.d_lost_after.F sc_lost_after (by decide) ar_lost_after (arx_lost_after p) (fun cdv A outer s H E hg hr => ⟨_, (pss_cons (ps_set (i := 2) sc_lost_after.nd rfl (Or.inl rfl) (pe_callG ((ok_checked p).mono (by decide)) hg hr (by rfl) p.d_checked.gl p.d_checked.kp p.d_checked.bd passOwn (pa_cons (pv 0) pa_nil)))
      (pss_cons (ps_expr (pe_callG ((ok_check_place p).mono (by decide)) hg hr (by rfl) p.d_check_place.gl p.d_check_place.kp p.d_check_place.bd passOwn (pa_cons (pv 1) pa_nil)))
      (pss_one (ps_ret (pe_callG ((ok_lost_from p).mono (by decide)) hg hr (by rfl) p.d_lost_from.gl p.d_lost_from.kp p.d_lost_from.bd pass0 (pa_cons (pv 2) (pa_cons (pv 1) pa_nil))))))),
    fun C xc => (so_seq (so_asg (so_callF (so_cons (so_var (i := 0)) so_nil)) (so_gname (i := 2)))
      (so_seq (so_drop (so_callF (so_cons (so_var (i := 1)) so_nil)))
      (so_ret (so_callT (so_cons (so_var (i := 2)) (so_cons (so_var (i := 1)) so_nil)))))),
    fun C xc hE => (so_seq (so_asg (so_callX hE (so_cons (so_var (i := 0)) so_nil)) (so_gname (i := 2)))
      (so_seq (so_drop (so_callX hE (so_cons (so_var (i := 1)) so_nil)))
      (so_ret (so_callT (so_cons (so_var (i := 2)) (so_cons (so_var (i := 1)) so_nil))))))⟩) val_lost_after (valx_lost_after p)
def w_merged_after : Tw := fun ds Q => ∃ n gs a b, ds = [dE (n, gs), .int a, .int b] ∧ Eff (n, gs) ∧ 1 ≤ a ∧ a < 2 ^ 110 ∧ 1 ≤ b ∧ b < 2 ^ 110 ∧ n ≤ 1000 ∧ gs.length ≤ 1000 ∧ ∀ o, MI (n, gs) a b o → MB o → Q (oD o)
theorem ar_merged_after : ∀ ds G, w_merged_after ds G → ds.length = 3 := by
  rintro ds G ⟨n, gs, a, b, rfl, _⟩
  rfl
def x_merged_after (p : Prog K mg) : List D → Addr → D → Prop := x_pp p.C_InvalidEffect p.C_InvalidPlace
theorem arx_merged_after (p : Prog K mg) : ∀ ds c d, x_merged_after p ds c d → ds.length = 3 := arx_pp
def kr_merged_after_1 : KS := (kRet (kCallT w_merged_from 3 (kCons (kVar 3) (kCons (kVar 1) (kCons (kVar 2) kNil)))))
def kr_merged_after_2 : KS := (kSeq (kDrop (kCallT w_check_place 1 (kCons (kVar 2) kNil)))
  kr_merged_after_1)
def kr_merged_after_3 : KS := (kSeq (kDrop (kCallT w_check_place 1 (kCons (kVar 1) kNil)))
  kr_merged_after_2)
def k_merged_after : KS := (kSeq (kAsg (kCallT w_checked 1 (kCons (kVar 0) kNil)) (kgName 3))
  kr_merged_after_3)
def kxr_merged_after_1 (p : Prog K mg) (x : XH) : KS := (kRet (kCallT w_merged_from 3 (kCons (kVar 3) (kCons (kVar 1) (kCons (kVar 2) kNil)))))
def kxr_merged_after_2 (p : Prog K mg) (x : XH) : KS := (kSeq (kDrop (kCallX x (W_check_place p) 1 (kCons (kVar 2) kNil)))
  (kxr_merged_after_1 p x))
def kxr_merged_after_3 (p : Prog K mg) (x : XH) : KS := (kSeq (kDrop (kCallX x (W_check_place p) 1 (kCons (kVar 1) kNil)))
  (kxr_merged_after_2 p x))
def kx_merged_after (p : Prog K mg) (x : XH) : KS := (kSeq (kAsg (kCallX x (W_checked p) 1 (kCons (kVar 0) kNil)) (kgName 3))
  (kxr_merged_after_3 p x))
abbrev W_merged_after (p : Prog K mg) : TwX := twX w_merged_after (x_merged_after p)
local macro_rules | `(tactic| walk_at "go") => `(tactic| ((first | unfold kr_merged_after_1 | unfold kxr_merged_after_1 | unfold kr_merged_after_2 | unfold kxr_merged_after_2 | unfold kr_merged_after_3 | unfold kxr_merged_after_3); walk_at "ev"))
theorem MI.least {n : Int} {gs : List Int} (ef : Eff (n, gs)) {a b : Int} (ha : 1 ≤ a) (hb : 1 ≤ b) : ∀ {o : Option Nat}, MI (leastE n gs) a b o → MI (n, gs) a b o
  | none, h => fun t => by rw [← it_least ef t ha, ← it_least ef t hb]; exact h t
  | some t, h => by
    obtain ⟨h1, h2⟩ := h
    rw [it_least ef t ha, it_least ef t hb] at h1
    exact ⟨h1, fun j hj => by rw [← it_least ef j ha, ← it_least ef j hb]; exact h2 j hj⟩
theorem val_merged_after : ∀ ds G, w_merged_after ds G → k_merged_after ⟨ds.map Sl.fz ++ [.jk], [], 0⟩ (edT G) := by
  rintro ds Gq ⟨n, gs, a, b, rfl, ef, a0, a1, b0, b1, n1, l1, q⟩
  have lk := leastE_ok ef
  have g1 : (leastE n gs).1 ≤ n := lk.le
  have g2 : (leastE n gs).2.length ≤ gs.length := lk.len
  unfold k_merged_after
  walk_at "ev"
  refine ⟨n, gs, rfl, ef, by omega, ?_⟩
  walk_at "ev"
  walk_at "go"
  refine ⟨a, rfl, a0, ?_⟩
  walk_at "ev"
  walk_at "go"
  refine ⟨b, rfl, b0, ?_⟩
  walk_at "ev"
  walk_at "go"
  refine ⟨(leastE n gs).1, (leastE n gs).2, a, b, rfl, lk.eff, a0, a1, b0, b1, by omega, by omega, fun o ho hb => ?_⟩
  have := q o (MI.least ef a0 b0 ho) hb
  cases o with
  | none => exact this
  | some t => exact this
theorem valx_merged_after (p : Prog K mg) : ∀ ds c d, x_merged_after p ds c d → kx_merged_after p (fun c' d' _ => c' = c ∧ d' = d) ⟨ds.map Sl.fz ++ [.jk], [], 0⟩ (edT fun _ => False) := by
  rintro ds c e ⟨n, gs, k, r, rfl, l1, hx⟩
  unfold kx_merged_after
  walk_at "ev"
  rcases hx with ⟨ne, rfl, rfl⟩ | ⟨ef, hm, rfl, rfl⟩ | ⟨ef, k0, hm, rfl, rfl⟩
  · exact .inr ⟨_, _, ⟨n, gs, rfl, l1, ne, rfl, rfl⟩, rfl, rfl⟩
  · refine .inl ⟨n, gs, rfl, ef, l1, ?_⟩
    walk_at "ev"
    walk_at "go"
    exact .inr ⟨_, _, ⟨k, rfl, hm, rfl, rfl⟩, rfl, rfl⟩
  · refine .inl ⟨n, gs, rfl, ef, l1, ?_⟩
    walk_at "ev"
    walk_at "go"
    refine .inl ⟨k, rfl, k0, ?_⟩
    walk_at "ev"
    walk_at "go"
    exact .inr ⟨_, _, ⟨r, rfl, hm, rfl, rfl⟩, rfl, rfl⟩
theorem ok_merged_after (p : Prog K mg) : FnG P w K mg base (L2.CX P w) 4 p.f_merged_after p.fd_merged_after ["one", "spot", "second"] (spX (W_merged_after p)) :=
  okF (kx := kx_merged_after p) p.d_merged_after.F sc_merged_after (by decide) ar_merged_after (arx_merged_after p) (fun cdv A outer s H E hg hr => ⟨_, (pss_cons (ps_set (i := 3) sc_merged_after.nd rfl (Or.inl rfl) (pe_callG ((ok_checked p).mono (by decide)) hg hr (by rfl) p.d_checked.gl p.d_checked.kp p.d_checked.bd passOwn (pa_cons (pv 0) pa_nil)))
      (pss_cons (ps_expr (pe_callG ((ok_check_place p).mono (by decide)) hg hr (by rfl) p.d_check_place.gl p.d_check_place.kp p.d_check_place.bd passOwn (pa_cons (pv 1) pa_nil)))
      (pss_cons (ps_expr (pe_callG ((ok_check_place p).mono (by decide)) hg hr (by rfl) p.d_check_place.gl p.d_check_place.kp p.d_check_place.bd passOwn (pa_cons (pv 2) pa_nil)))
      (pss_one (ps_ret (pe_callG ((ok_merged_from p).mono (by decide)) hg hr (by rfl) p.d_merged_from.gl p.d_merged_from.kp p.d_merged_from.bd pass0 (pa_cons (pv 3) (pa_cons (pv 1) (pa_cons (pv 2) pa_nil))))))))),
    fun C xc => (so_seq (so_asg (so_callF (so_cons (so_var (i := 0)) so_nil)) (so_gname (i := 3)))
      (so_seq (so_drop (so_callF (so_cons (so_var (i := 1)) so_nil)))
      (so_seq (so_drop (so_callF (so_cons (so_var (i := 2)) so_nil)))
      (so_ret (so_callT (so_cons (so_var (i := 3)) (so_cons (so_var (i := 1)) (so_cons (so_var (i := 2)) so_nil)))))))),
    fun C xc hE => (so_seq (so_asg (so_callX hE (so_cons (so_var (i := 0)) so_nil)) (so_gname (i := 3)))
      (so_seq (so_drop (so_callX hE (so_cons (so_var (i := 1)) so_nil)))
      (so_seq (so_drop (so_callX hE (so_cons (so_var (i := 2)) so_nil)))
      (so_ret (so_callT (so_cons (so_var (i := 3)) (so_cons (so_var (i := 1)) (so_cons (so_var (i := 2)) so_nil))))))))⟩) val_merged_after (valx_merged_after p)
def w_comes_again : Tw := fun ds Q => ∃ (n : Int) (gs : List Int), ds = [dE (n, gs)] ∧ Eff (n, gs) ∧ n ≤ 6 ∧ gs.length ≤ 1000 ∧ ∀ o, CO (leastE n gs) o → (∀ i p, o = some (i, p) → i + p ≤ 18) → Q (caD o)
theorem ar_comes_again : ∀ ds G, w_comes_again ds G → ds.length = 1 := by
  rintro ds G ⟨n, gs, rfl, _⟩
  rfl
def x_comes_again (p : Prog K mg) : List D → Addr → D → Prop := x_checked p
theorem arx_comes_again (p : Prog K mg) : ∀ ds c d, x_comes_again p ds c d → ds.length = 1 := arx_checked p
def kr_comes_again_1 : KS := (kAsg (kLc (kIt true (kFrz 4)) 6 kYes (kIx true (kVar 2) (kOp (vI noC fun i j => i - j) (kVar 6) (kC (.int 1))))) (kgName 4))
def kb_comes_again_2 : KS := (kSeq (kDPut 3 (kLenD 3) (kTupOf (kCons (kVar 4) kNil)))
  kr_comes_again_1)
def kr_comes_again_3 : KS := (kRet (kMk false 2 (kCons (kVar 5) (kCons (kOp (vI noC fun i j => i - j) (kLenD 3) (kVar 5)) kNil))))
def kr_comes_again_4 : KS := (kSeq (kAsg (kDGet 3 (kTupOf (kCons (kVar 4) kNil))) (kgName 5))
  kr_comes_again_3)
def kr_comes_again_5 : KS := (kSeq (kWhile (kTest (kDIn true (kTupOf (kCons (kVar 4) kNil)) 3)) kb_comes_again_2)
  kr_comes_again_4)
def kr_comes_again_6 : KS := (kSeq (kPar 3 4 (kCons kDNewT (kCons (kListRg (kRg2 (kC (.int 1)) (kOp (vI noC fun i j => i + j) (kVar 1) (kC (.int 1))))) kNil)))
  kr_comes_again_5)
def kr_comes_again_7 : KS := (kSeq (kIfS (kTest (kOp (vEq true) (kVar 1) (kF 1 vLen (kCons (kVar 2) kNil))))
  (kRet (kC .none))
  kNext)
  kr_comes_again_6)
def k_comes_again : KS := (kSeq (kAsg (kCallT w_checked 1 (kCons (kVar 0) kNil)) (kgTup 2 (kgCons (kgName 1) (kgCons (kgName 2) kgNil))))
  kr_comes_again_7)
def kxr_comes_again_1 (p : Prog K mg) (x : XH) : KS := (kAsg (kLc (kIt true (kFrz 4)) 6 kYes (kIx true (kVar 2) (kOp (vI noC fun i j => i - j) (kVar 6) (kC (.int 1))))) (kgName 4))
def kxb_comes_again_2 (p : Prog K mg) (x : XH) : KS := (kSeq (kDPut 3 (kLenD 3) (kTupOf (kCons (kVar 4) kNil)))
  (kxr_comes_again_1 p x))
def kxr_comes_again_3 (p : Prog K mg) (x : XH) : KS := (kRet (kMk false 2 (kCons (kVar 5) (kCons (kOp (vI noC fun i j => i - j) (kLenD 3) (kVar 5)) kNil))))
def kxr_comes_again_4 (p : Prog K mg) (x : XH) : KS := (kSeq (kAsg (kDGet 3 (kTupOf (kCons (kVar 4) kNil))) (kgName 5))
  (kxr_comes_again_3 p x))
def kxr_comes_again_5 (p : Prog K mg) (x : XH) : KS := (kSeq (kWhile (kTest (kDIn true (kTupOf (kCons (kVar 4) kNil)) 3)) (kxb_comes_again_2 p x))
  (kxr_comes_again_4 p x))
def kxr_comes_again_6 (p : Prog K mg) (x : XH) : KS := (kSeq (kPar 3 4 (kCons kDNewT (kCons (kListRg (kRg2 (kC (.int 1)) (kOp (vI noC fun i j => i + j) (kVar 1) (kC (.int 1))))) kNil)))
  (kxr_comes_again_5 p x))
def kxr_comes_again_7 (p : Prog K mg) (x : XH) : KS := (kSeq (kIfS (kTest (kOp (vEq true) (kVar 1) (kF 1 vLen (kCons (kVar 2) kNil))))
  (kRet (kC .none))
  kNext)
  (kxr_comes_again_6 p x))
def kx_comes_again (p : Prog K mg) (x : XH) : KS := (kSeq (kAsg (kCallX x (W_checked p) 1 (kCons (kVar 0) kNil)) (kgTup 2 (kgCons (kgName 1) (kgCons (kgName 2) kgNil))))
  (kxr_comes_again_7 p x))
abbrev W_comes_again (p : Prog K mg) : TwX := twX w_comes_again (x_comes_again p)
local macro_rules | `(tactic| walk_at "go") => `(tactic| ((first | unfold kr_comes_again_1 | unfold kxr_comes_again_1 | unfold kr_comes_again_3 | unfold kxr_comes_again_3 | unfold kr_comes_again_4 | unfold kxr_comes_again_4 | unfold kr_comes_again_5 | unfold kxr_comes_again_5 | unfold kr_comes_again_6 | unfold kxr_comes_again_6 | unfold kr_comes_again_7 | unfold kxr_comes_again_7); walk_at "ev"))
theorem val_comes_again : ∀ ds G, w_comes_again ds G → k_comes_again ⟨ds.map Sl.fz ++ [.jk, .jk, .jk, .jk, .jk, .jk], [], 0⟩ (edT G) := by
  rintro ds Gq ⟨n, gs, rfl, ef, n1, l1, q⟩
  have lk := leastE_ok ef
  unfold k_comes_again
  walk_at "ev"
  refine ⟨n, gs, rfl, ef, by omega, ?_⟩
  obtain ⟨⟨p, ps⟩, ep⟩ : ∃ e, leastE n gs = e := ⟨_, rfl⟩
  rw [ep] at lk q ⊢
  have epf : Eff (p, ps) := lk.eff
  have pn : p ≤ n := lk.le
  have pl : ps.length ≤ gs.length := lk.len
  have p0 : 0 ≤ p := epf.nn
  walk_at "ev"
  walk_at "go"
  refine iteB (fun c => ?_) (fun c => ?_)
  · exact q none (fun z => absurd (show p = (ps.length : Int) from z) (by simpa using c)) (fun i p h => nomatch h)
  have c : p = (ps.length : Int) := by simpa using c
  have s6 : p ≤ 6 := by omega
  have lrp := rg_length 1 (p + 1)
  walk_at "go"
  refine ⟨⟨by decide, by decide, by omega, by omega, by omega⟩, ?_⟩
  rw [← rowE_0 (e := (p, ps))]
  walk_at "go"
  refine ⟨fun m γ => ∃ t : Nat, m + t = 18 ∧ (∀ a b : Nat, a < b → b < t → rowE (p, ps) a ≠ rowE (p, ps) b) ∧ γ = ⟨[.fz (dE (n, gs)), .fz (.int p), .ow true (dI ps), .dt (mkDT (p, ps) t), .ow true (dI (rowE (p, ps) t)), .jk, .jk], [], 0⟩, ⟨18, 0, rfl, fun a b _ h => absurd h (by omega), rfl⟩, ?_⟩
  rintro m γ ⟨t, hm, hne, rfl⟩
  walk_at "ev"
  rw [keysD_ints]
  walk_at "ev"
  cases hv : valM (mkDT (p, ps) t) ((rowE (p, ps) t).map Sum.inl) with
  | none =>
    have no := mkDT_none hv
    have hne2 : ∀ a b : Nat, a < b → b < t + 1 → rowE (p, ps) a ≠ rowE (p, ps) b := fun a b h1 h2 => by
      by_cases h : b < t
      · exact hne a b h1 h
      · have : b = t := by omega
        subst this
        exact no a h1
    have ht : t + 1 ≤ 18 := by
      obtain ⟨a, b, h1, h2, h3⟩ := rows_again epf c s6
      apply Classical.byContradiction
      intro no2
      exact hne2 a b h1 (by omega) h3
    unfold kb_comes_again_2
    walk_at "ev"
    rw [keysD_ints]
    walk_at "ev"
    rw [mkDT_len, mkDT_put hv]
    refine ⟨by omega, ?_⟩
    have mem := fun s (h : s ∈ rowE (p, ps) t) => rowE_mem (e := (p, ps)) epf c h
    have ln : (rowE (p, ps) t).length ≤ 6 := by unfold rowE; rw [List.length_map, lrp]; omega
    have sc := rowE_succ (e := (p, ps)) epf c t
    walk_at "go"
    refine lc_ints' (rowE (p, ps) t) (fun s => ps.getD (s - 1).toNat 0) rfl rfl (by omega) (fun x hx acc Y hY => ?_) ?_
    · have := mem x hx
      walk_at "ev"
      refine ixD_ints (by omega) (by omega) ?_
      walk_at "ev"
      exact hY
    · walk_at "ev"
      rw [show ((rowE (p, ps) t).map fun s => ps.getD (s - 1).toNat 0) = rowE (p, ps) (t + 1) from sc]
      exact ⟨m - 1, by omega, t + 1, by omega, hne2, rfl⟩
  | some d =>
    obtain ⟨j, hj, hr, rfl⟩ := mkDT_some hv
    walk_at "go"
    rw [keysD_ints]
    walk_at "ev"
    rw [hv]
    walk_at "ev"
    refine ⟨_, rfl, ?_⟩
    walk_at "go"
    rw [mkDT_len]
    have := q (some (j, t - j)) ⟨c, ⟨by omega, by rw [show j + (t - j) = t by omega, hr], fun a b h1 h2 => hne a b h1 (by omega)⟩⟩ (fun i p h => by cases h; omega)
    rw [caD, show ((t - j : Nat) : Int) = (t : Int) - j by omega] at this
    exact this
theorem valx_comes_again (p : Prog K mg) : ∀ ds c d, x_comes_again p ds c d → kx_comes_again p (fun c' d' _ => c' = c ∧ d' = d) ⟨ds.map Sl.fz ++ [.jk, .jk, .jk, .jk, .jk, .jk], [], 0⟩ (edT fun _ => False) := by
  rintro ds c e ⟨n, gs, rfl, l1, ne, rfl, rfl⟩
  unfold kx_comes_again
  walk_at "ev"
  exact .inr ⟨_, _, ⟨n, gs, rfl, l1, ne, rfl, rfl⟩, rfl, rfl⟩
theorem ok_comes_again (p : Prog K mg) : FnG P w K mg base (L2.CX P w) 4 p.f_comes_again p.fd_comes_again ["one"] (spX (W_comes_again p)) :=
  okF (kx := kx_comes_again p) p.d_comes_again.F sc_comes_again (by decide) ar_comes_again (arx_comes_again p) (fun cdv A outer s H E hg hr => ⟨_, (pss_cons (ps_asg (pe_callG ((ok_checked p).mono (by decide)) hg hr (by rfl) p.d_checked.gl p.d_checked.kp p.d_checked.bd passOwn (pa_cons (pv 0) pa_nil)) (pg_tup rfl (pgs_cons (pg_name (i := 1) sc_comes_again.nd rfl (Or.inl rfl)) (pgs_cons (pg_name (i := 2) sc_comes_again.nd rfl (Or.inr rfl)) pgs_nil))))
      (pss_cons (ps_if (pt_cmpR op_ne (pv 1) (pe_callB call_len_seq (by rfl) p.blt.len PySem.boot_len (pa_cons (pv 2) pa_nil)) (nomark _))
      (pss_one (ps_ret pe_non)) pss_nil)
      (pss_cons (ps_par (i := 3) (j := 4) rfl sc_comes_again.nd rfl rfl (by decide) rfl rfl (pa_cons pe_dnewT (pa_cons (pe_listRg rfl (by rfl) p.blt.list (prg_2 (by rfl) p.blt.range pe_int (pe_op op_add (pv 1) pe_int))) pa_nil)) (by rfl))
      (pss_cons (ps_while (passes_of rfl) (pt_cmp (pc_dnotin (Nat.lt_of_le_of_lt (Nat.add_le_add_left (show 1 ≤ 64 by decide) _) hr.units) (pe_callTy call_tuple_of (by rfl) p.blt.tuple (by decide +kernel) (pa_cons (pv 4) pa_nil)) (pv 3)))
      (pss_cons (ps_dput (Nat.lt_of_le_of_lt (Nat.add_le_add_left (show 1 ≤ 64 by decide) _) hr.units) (pv 3) (pe_callTy call_tuple_of (by rfl) p.blt.tuple (by decide +kernel) (pa_cons (pv 4) pa_nil)) (pe_callB call_lenDT (by rfl) p.blt.len PySem.boot_len (pa_cons (pv 3) pa_nil)) (by rfl))
      (pss_one (ps_setLc (i := 4) (own := [("spot", 6)]) (g := gName 6) (tt := tYes) rfl sc_comes_again.nd rfl rfl (sw_true rfl rfl rfl (by decide +kernel)) (pi_list (pv 4)) (blkOk_by (N := N_comes_again) (sc := defScope s_comes_again) (by decide +kernel)) (fun _ _ _ _ _ => pg_name (i := 6) sc_comes_again.nd rfl (Or.inl rfl)) (fun _ _ _ _ _ => pts_nil) (fun _ _ _ _ _ => (pe_ix (show IxR _ (rIxL K) from ix_list) (pv 2) (pe_op op_sub (pv 6) pe_int) (fun _ _ => rfl)))))))
      (pss_cons (ps_set (i := 5) sc_comes_again.nd rfl (Or.inl rfl) (pe_dget (Nat.lt_of_le_of_lt (Nat.add_le_add_left (show 1 ≤ 64 by decide) _) hr.units) (pv 3) (pe_callTy call_tuple_of (by rfl) p.blt.tuple (by decide +kernel) (pa_cons (pv 4) pa_nil)) (fun _ _ => rfl)))
      (pss_one (ps_ret (pe_tup (pa_cons (pv 5) (pa_cons (pe_op op_sub (pe_callB call_lenDT (by rfl) p.blt.len PySem.boot_len (pa_cons (pv 3) pa_nil)) (pv 5)) pa_nil)))))))))),
    fun C xc => (so_seq (so_asg (so_callF (so_cons (so_var (i := 0)) so_nil)) (so_gtup (so_gcons (so_gname (i := 1)) (so_gcons (so_gname (i := 2)) so_gnil))))
      (so_seq (so_ifS (so_test (so_op sr_ne (so_var (i := 1)) (so_f sc_len (so_cons (so_var (i := 2)) so_nil))))
      (so_ret (so_c sca_non)) so_next)
      (so_seq (so_par (i := 3) (j := 4) (by decide) (so_cons so_dnewT (so_cons (so_listRg2 (so_c (sca_int _)) (so_op sr_I0 (so_var (i := 1)) (so_c (sca_int _)))) so_nil)))
      (so_seq (so_while (so_test (so_dnotin (i := 3) (so_tupOf (so_cons (so_var (i := 4)) so_nil))))
      (so_seq (so_dput (i := 3) (so_lenD (i := 3)) (so_tupOf (so_cons (so_var (i := 4)) so_nil)))
      (so_asg (so_lc (so_itL (so_frz (i := 4))) so_yes (so_ixL (so_var (i := 2)) (so_op sr_I0 (so_var (i := 6)) (so_c (sca_int _))))) (so_gname (i := 4)))))
      (so_seq (so_asg (so_dget (i := 3) (so_tupOf (so_cons (so_var (i := 4)) so_nil))) (so_gname (i := 5)))
      (so_ret (so_tup (so_cons (so_var (i := 5)) (so_cons (so_op sr_I0 (so_lenD (i := 3)) (so_var (i := 5))) so_nil))))))))),
    fun C xc hE => (so_seq (so_asg (so_callX hE (so_cons (so_var (i := 0)) so_nil)) (so_gtup (so_gcons (so_gname (i := 1)) (so_gcons (so_gname (i := 2)) so_gnil))))
      (so_seq (so_ifS (so_test (so_op sr_ne (so_var (i := 1)) (so_f sc_len (so_cons (so_var (i := 2)) so_nil))))
      (so_ret (so_c sca_non)) so_next)
      (so_seq (so_par (i := 3) (j := 4) (by decide) (so_cons so_dnewT (so_cons (so_listRg2 (so_c (sca_int _)) (so_op sr_I0 (so_var (i := 1)) (so_c (sca_int _)))) so_nil)))
      (so_seq (so_while (so_test (so_dnotin (i := 3) (so_tupOf (so_cons (so_var (i := 4)) so_nil))))
      (so_seq (so_dput (i := 3) (so_lenD (i := 3)) (so_tupOf (so_cons (so_var (i := 4)) so_nil)))
      (so_asg (so_lc (so_itL (so_frz (i := 4))) so_yes (so_ixL (so_var (i := 2)) (so_op sr_I0 (so_var (i := 6)) (so_c (sca_int _))))) (so_gname (i := 4)))))
      (so_seq (so_asg (so_dget (i := 3) (so_tupOf (so_cons (so_var (i := 4)) so_nil))) (so_gname (i := 5)))
      (so_ret (so_tup (so_cons (so_var (i := 5)) (so_cons (so_op sr_I0 (so_lenD (i := 3)) (so_var (i := 5))) so_nil)))))))))⟩) val_comes_again (valx_comes_again p)
/-- a purse, out of a cell of the script -/
def spSack (K : PySem.W.Frag) : Sp := fun vs H Q _ => ∃ (a : Addr) (ns : List Int) (i : Int), vs = [.ref a, .int i] ∧ SqL K H a (ns.map V.int) ∧ ns.length ≤ 63 ∧ (∀ z ∈ ns, Builtin.Int.intBits z ≤ 1048576) ∧ 0 ≤ i ∧ i ≤ 1000 ∧ ∀ H' q, Same H H' → H q = none → PuAt H' q 0 → Q (.ref q) H'
theorem ok__law_ng_purse (p : Prog K mg) : FnG P w K mg base CX0 1 p.f__law_ng_purse p.fd__law_ng_purse ["_law_script", "_law_index"] (spSack K) := by
  refine okG p.d__law_ng_purse.F sc__law_ng_purse (fun vs H Q E h => ?_) (fun cdv A outer s H vs Q E hg hr h => ?_)
  · obtain ⟨a, ns, i, rfl, _⟩ := h
    rfl
  · obtain ⟨a, ns, i, rfl, hs, hl, hb, i0, i1, k⟩ := h
    refine ⟨_, (pss_cons (ps_set (i := 2) sc__law_ng_purse.nd rfl (Or.inl rfl) (pe_ifExp (pt_cmpR op_lt (pv 1) (pe_callB call_len_seq (by rfl) p.blt.len PySem.boot_len (pa_cons (pv 0) pa_nil)) (nomark _)) (pe_ix ix_list (pv 0) (pv 1) (fun _ _ => rfl)) pe_int))
      (pss_one (ps_ret (pe_lst (pa_cons (pe_callB (call_max2 rfl) (by rfl) p.blt.max (by decide +kernel) (pa_cons pe_int (pa_cons (pe_op op_sub (pe_callB call_abs (by rfl) p.blt.abs (by decide +kernel) (pa_cons (pv 2) pa_nil)) (pe_op op_powW pe_int pe_int)) pa_nil))) (pa_cons (pe_op op_mod (pe_callTy call_int1 (by rfl) p.blt.int (by decide +kernel) (pa_cons (pe_op op_add (pe_op op_add (pe_op op_mulB (pv 2) pe_int) (pe_op op_mulB (pv 1) pe_int)) pe_int) pa_nil)) (pe_op op_add (pe_op op_powW pe_int pe_int) pe_int)) (pa_cons pe_int pa_nil))))))), ?_⟩
    -- the rest, for any cell of so many bits
    have rest : ∀ c : Int, Builtin.Int.intBits c ≤ 1048576 → ∀ y : List (Option V), y = [some (.ref a), some (.int i), some (.int c)] → tRet (tLst (tCons (tCB (fun xs H Q => ∃ i j, xs = [.int i, .int j] ∧ Q (.int (if j > i then j else i)) H) (tCons (tC (.int 0)) (tCons (tOp (rI0 fun i j => .int (i - j)) (tCB (fun xs H Q => ∃ i, xs = [.int i] ∧ Q (.int (if i < 0 then -i else i)) H) (tCons (tVar 2) tNil)) (tOp (rI CPowW fun i j => .int (i ^ j.toNat)) (tC (.int 10)) (tC (.int 18)))) tNil)))
        (tCons (tOp (rI (fun _ j => 0 < j) fun i j => .int (i % j)) (tCB (fun xs H Q => (∃ i, xs = [.int i] ∧ Q (.int i) H) ∨ ∃ k, xs = [.bl k] ∧ Q (.int (if k then 1 else 0)) H) (tCons (tOp (rI0 fun i j => .int (i + j)) (tOp (rI0 fun i j => .int (i + j)) (tOp (rI CMulB fun i j => .int (i * j)) (tVar 2) (tC (.int 30011))) (tOp (rI CMulB fun i j => .int (i * j)) (tVar 1) (tC (.int 7368787)))) (tC (.int 104729))) tNil)) (tOp (rI0 fun i j => .int (i + j)) (tOp (rI CPowW fun i j => .int (i ^ j.toNat)) (tC (.int 10)) (tC (.int 24))) (tC (.int 7))))
        (tCons (tC (.int 0)) tNil)))) ⟨fun _ H' => Q .non H', Q, fun _ _ => False, fun _ _ => False⟩ y H := fun c hc y ey => by
      subst ey
      have b1 := bits_of (i := 30011) (n := 40) (by decide) (by decide)
      have b2 := bits_of (i := 7368787) (n := 40) (by decide) (by decide)
      have b3 := bits_of (i := i) (n := 100) (by decide) (by omega)
      have M2 : (0 : Int) < 10 ^ (24 : Int).toNat + 7 := by decide
      refine ⟨_, rfl, _, rfl, _, _, rfl, rfl, ⟨by decide, by decide⟩, _, _, rfl, rfl, _, _, rfl, ?_⟩
      refine ⟨_, rfl, _, _, rfl, rfl, (show _ < _ by omega), _, rfl, _, _, rfl, rfl, (show _ < _ by omega), _, _, rfl, rfl, _, _, rfl, rfl, .inl ⟨_, rfl, _, _, rfl, rfl, ⟨by decide, by decide⟩, _, _, rfl, rfl, _, _, rfl, rfl, M2, szle (by simp), fun q hq => ?_⟩⟩
      refine k _ q (same_upd hq) hq ⟨_, _, _, upd_same, Int.emod_nonneg _ (by omega), ?_, by omega, by omega⟩
      exact Int.lt_trans (Int.emod_lt_of_pos _ M2) (by decide)
    refine ⟨_, rfl, _, rfl, a, _, rfl, .inl hs, _, _, rfl, rfl, _, rfl, ?_⟩
    rw [ints_len]
    refine iteB (fun c => ?_) (fun c => ?_)
    · have hi : i < (ns.length : Int) := of_decide_eq_true c
      obtain ⟨z, hz⟩ : ∃ z, ns[i.toNat]? = some z := ⟨_, List.getElem?_eq_getElem (show i.toNat < ns.length by omega)⟩
      exact ⟨_, rfl, _, rfl, a, _, i, _, rfl, rfl, hs, at_nat (k := i.toNat) (by omega) (ints_at hz), rest z (hb z (List.mem_of_getElem? hz)) _ rfl⟩
    · exact rest 0 (by decide) _ rfl
/-- any number below the bound -/
def w__law_coin : Tw := fun ds Q => ∃ m : Int, ds = [.int m] ∧ 0 < m ∧ m < 2 ^ 200 ∧ ∀ r : Int, 0 ≤ r → r < m → Q (.int r)
theorem ok__law_coin (p : Prog K mg) : FnG P w K mg base CX0 1 p.f__law_coin p.fd__law_coin ["_law_purse", "_law_many"] (spP 1 w__law_coin) := by
  refine okG p.d__law_coin.F sc__law_coin (fun vs H Q E h => ?_) (fun cdv A outer s H vs Q E hg hr h => ?_)
  · obtain ⟨p, b, vs', S, ds, G, rfl, _, _, r, _, ⟨m, rfl, _⟩, _⟩ := h
    exact congrArg Nat.succ r.length
  · obtain ⟨u, b, vs', S, ds, G, rfl, hp, hb, r, np, ⟨m, rfl, m0, m1, q⟩, k⟩ := h
    obtain ⟨x, y, z, e, y0, y1, z0, z1⟩ := hp
    cases r with
    | cons r r' =>
      cases r'
      cases r
      have hu : SqL K H u [.int x, .int y, .int z] := SqL.of e
      have ml : m.natAbs.log2 < 9000 := (wide_div (i := 0) (b := 200) m0 (by omega) (by decide) (by decide)).2
      have zb : z.natAbs < 2 ^ 100 := by omega
      refine ⟨_, (pss_cons (ps_if (pt_cmpR op_gt (pe_ix ix_list (pv 0) pe_int (fun _ _ => rfl)) pe_int (nomark _))
      (pss_cons (ps_set (i := 2) sc__law_coin.nd rfl (Or.inl rfl) (pe_op op_mod (pe_callTy call_int1 (by rfl) p.blt.int (by decide +kernel) (pa_cons (pe_ix ix_list (pv 0) pe_int (fun _ _ => rfl)) pa_nil)) (pv 1)))
      (pss_cons (ps_asg (pe_op op_fdivW (pe_ix ix_list (pv 0) pe_int (fun _ _ => rfl)) (pv 1)) (pg_sub (pv 0) pe_int set_list))
      (pss_one (ps_ret (pv 2))))) pss_nil)
      (pss_cons (ps_asg (pe_op op_add (pe_ix ix_list (pv 0) pe_int (fun _ _ => rfl)) pe_int) (pg_sub (pv 0) pe_int set_list))
      (pss_cons (ps_set (i := 3) sc__law_coin.nd rfl (Or.inl rfl) (pe_op op_mod (pe_op op_powW (pe_callTy call_int1 (by rfl) p.blt.int (by decide +kernel) (pa_cons (pe_op op_add (pe_ix ix_list (pv 0) pe_int (fun _ _ => rfl)) (pe_op op_mulB pe_int (pe_ix ix_list (pv 0) pe_int (fun _ _ => rfl)))) pa_nil)) pe_int) (pe_op op_add (pe_op op_powW pe_int pe_int) pe_int)))
      (pss_cons (ps_set (i := 3) sc__law_coin.nd rfl (Or.inl rfl) (pe_op op_mod (pe_op op_powW (pe_callTy call_int1 (by rfl) p.blt.int (by decide +kernel) (pa_cons (pe_op op_add (pv 3) (pe_op op_mulB pe_int (pe_ix ix_list (pv 0) pe_int (fun _ _ => rfl)))) pa_nil)) pe_int) (pe_op op_add (pe_op op_powW pe_int pe_int) pe_int)))
      (pss_one (ps_ret (pe_op op_mod (pe_callTy call_int1 (by rfl) p.blt.int (by decide +kernel) (pa_cons (pe_op op_fdivW (pv 3) pe_int) pa_nil)) (pv 1)))))))), ?_⟩
      -- if purse[0] > 0
      refine ⟨_, rfl, _, _, _, _, rfl, rfl, hu, atI_nat (j := 0) rfl, _, _, rfl, rfl, _, rfl, ?_⟩
      refine iteB (fun _ => ?_) (fun _ => ?_)
      · refine ⟨_, rfl, _, _, _, _, rfl, rfl, hu, atI_nat (j := 0) rfl, .inl ⟨_, rfl, _, rfl, _, _, rfl, rfl, m0, ?_⟩⟩
        refine ⟨_, rfl, _, _, _, _, rfl, rfl, hu, atI_nat (j := 0) rfl, _, rfl, _, _, rfl, rfl, ⟨m0, ml⟩, _, rfl, _, _, _, 0, rfl, rfl, e, rfl, _, rfl, ?_⟩
        refine k _ _ _ (q (x % m) (Int.emod_nonneg _ (by omega)) (Int.emod_lt_of_pos _ m0)) (fun a o eo na => ?_) ⟨x / m, y, z, upd_same, y0, y1, z0, by omega⟩ ⟨[], .int _, by simp, by simp⟩
        rw [upd_ne na]
        exact eo
      · -- purse[2] = purse[2] + 1
        refine ⟨_, rfl, _, _, _, _, rfl, rfl, hu, atI_nat (j := 2) rfl, _, _, rfl, rfl, _, rfl, _, _, _, 2, rfl, rfl, e, rfl, ?_⟩
        have hu2 : SqL K (upd H u (.lst [.int x, .int y, .int (z + 1)])) u [.int x, .int y, .int (z + 1)] := SqL.of upd_same
        have c1 : CMulB 2038074743 (z + 1) := by
          have h1 := bits_of (i := 2038074743) (n := 40) (by decide) (by decide)
          have h2 := bits_of (i := z + 1) (n := 200) (by decide) (by omega)
          show _ < _
          omega
        have c2 : CPowW (y + 2038074743 * (z + 1)) 3 := by
          have h2 := bits_of (i := y + 2038074743 * (z + 1)) (n := 200) (by decide) (by omega)
          refine ⟨by decide, ?_⟩
          omega
        have c3 : CMulB 982451653 (z + 1) := by
          have h1 := bits_of (i := 982451653) (n := 40) (by decide) (by decide)
          have h2 := bits_of (i := z + 1) (n := 200) (by decide) (by omega)
          show _ < _
          omega
        have M1 : (0 : Int) < 10 ^ (25 : Int).toNat + 13 := by decide
        have M2 : (0 : Int) < 10 ^ (24 : Int).toNat + 7 := by decide
        have c4 : ∀ t : Int, CPowW (t % (10 ^ (25 : Int).toNat + 13) + 982451653 * (z + 1)) 2 := fun t => by
          have l1 := Int.emod_nonneg t (show (10 : Int) ^ (25 : Int).toNat + 13 ≠ 0 by decide)
          have l2 := Int.emod_lt_of_pos t M1
          have l3 : (10 : Int) ^ (25 : Int).toNat + 13 < 2 ^ 100 := by decide
          have h2 := bits_of (i := t % (10 ^ (25 : Int).toNat + 13) + 982451653 * (z + 1)) (n := 200) (by decide) (by omega)
          refine ⟨by decide, ?_⟩
          omega
        refine ⟨_, rfl, _, _, _, _, rfl, rfl, hu2, atI_nat (j := 1) rfl, _, rfl, _, _, _, _, rfl, rfl, hu2, atI_nat (j := 2) rfl, _, _, rfl, rfl, c1, _, _, rfl, rfl, .inl ⟨_, rfl, _, _, rfl, rfl, c2, _, _, rfl, rfl, ⟨by decide, by decide⟩, _, _, rfl, rfl, _, _, rfl, rfl, M1, ?_⟩⟩
        refine ⟨_, rfl, _, rfl, _, _, _, _, rfl, rfl, hu2, atI_nat (j := 2) rfl, _, _, rfl, rfl, c3, _, _, rfl, rfl, .inl ⟨_, rfl, _, _, rfl, rfl, c4 _, _, _, rfl, rfl, ⟨by decide, by decide⟩, _, _, rfl, rfl, _, _, rfl, rfl, M2, ?_⟩⟩
        refine ⟨_, rfl, _, _, rfl, rfl, ⟨by decide, by decide +kernel⟩, .inl ⟨_, rfl, _, rfl, _, _, rfl, rfl, m0, ?_⟩⟩
        refine k _ _ _ (q _ (Int.emod_nonneg _ (by omega)) (Int.emod_lt_of_pos _ m0)) (fun a o eo na => ?_) ⟨x, y, z + 1, upd_same, y0, y1, by omega, by omega⟩ ⟨[], .int _, by simp, by simp⟩
        rw [upd_ne na]
        exact eo
/-- a number from 0 to a bound -/
def w__law_ng_number : Tw := fun ds Q => ∃ m : Int, ds = [.int m] ∧ 0 ≤ m ∧ m < 2 ^ 190 ∧ ∀ x : Int, 0 ≤ x → x ≤ m → Q (.int x)
theorem ar__law_ng_number : ∀ ds G, w__law_ng_number ds G → ds.length + 1 = 2 := by
  rintro ds G ⟨m, rfl, _⟩
  rfl
def kr__law_ng_number_1 : KS := (kRet (kOp (vI noC fun i j => i - j) (kVar 1) (kCallP 1 w__law_coin 1 (kCons (kVar 0) (kCons (kOp (vI noC fun i j => i + j) (kF 2 (v2I fun i j => if j < i then j else i) (kCons (kVar 1) (kCons (kC (.int 9)) kNil))) (kC (.int 1))) kNil)))))
def kr__law_ng_number_2 : KS := (kSeq (kIfS (kTest (kOp (vEq false) (kVar 2) (kC (.int 2))))
  (kRet (kCallP 1 w__law_coin 1 (kCons (kVar 0) (kCons (kOp (vI noC fun i j => i + j) (kVar 1) (kC (.int 1))) kNil))))
  kNext)
  kr__law_ng_number_1)
def kr__law_ng_number_3 : KS := (kSeq (kIfS (kTest (kOp (vB fun i j => decide (i < j)) (kVar 2) (kC (.int 2))))
  (kRet (kF 2 (v2I fun i j => if j < i then j else i) (kCons (kVar 1) (kCons (kCallP 1 w__law_coin 1 (kCons (kVar 0) (kCons (kIx true (kLit (.list [(.int 3), (.int 14)])) (kVar 2)) kNil))) kNil))))
  kNext)
  kr__law_ng_number_2)
def k__law_ng_number : KS := (kSeq (kAsg (kCallP 1 w__law_coin 1 (kCons (kVar 0) (kCons (kC (.int 4)) kNil))) (kgName 2))
  kr__law_ng_number_3)
local macro_rules | `(tactic| walk_at "go") => `(tactic| ((first | unfold kr__law_ng_number_1 | unfold kr__law_ng_number_2 | unfold kr__law_ng_number_3); walk_at "ev"))
theorem val__law_ng_number : ∀ ds G, w__law_ng_number ds G → k__law_ng_number ⟨.pu :: (ds.map Sl.fz ++ [.jk]), [], 2⟩ (edP G) := by
  rintro ds Gq ⟨m, rfl, m0, m1, q⟩
  unfold k__law_ng_number
  walk_at "ev"
  refine ⟨by decide, 4, rfl, by decide, by decide, fun so s0 s1 => ?_⟩
  walk_at "ev"
  walk_at "go"
  refine iteB (fun c0 => ?_) (fun c0 => ?_)
  · have c0 := of_decide_eq_true c0
    refine ixD_any s0 (show so < 2 by omega) fun x hx => ?_
    obtain ⟨y, rfl, y0, y1⟩ : ∃ y : Int, x = .int y ∧ 0 < y ∧ y < 2 ^ 200 := by
      have c : so = 0 ∨ so = 1 := by omega
      rcases c with rfl | rfl
      · cases hx; exact ⟨3, rfl, by decide, by decide⟩
      · cases hx; exact ⟨14, rfl, by decide, by decide⟩
    walk_at "ev"
    refine ⟨by decide, y, rfl, y0, y1, fun r r0 r1 => ?_⟩
    walk_at "ev"
    exact ⟨by decide, q _ (by split <;> omega) (by split <;> omega)⟩
  · walk_at "go"
    refine iteB (fun c1 => ?_) (fun c1 => ?_)
    · refine ⟨by decide, m + 1, rfl, by omega, by omega, fun r r0 r1 => ?_⟩
      walk_at "ev"
      exact ⟨by decide, q _ (by omega) (by omega)⟩
    · walk_at "go"
      refine ⟨by decide, _, rfl, by split <;> omega, by split <;> omega, fun r r0 r1 => ?_⟩
      walk_at "ev"
      refine ⟨by decide, q _ ?_ (by omega)⟩
      revert r1
      split <;> omega
theorem ok__law_ng_number (p : Prog K mg) : FnG P w K mg base CX0 2 p.f__law_ng_number p.fd__law_ng_number ["_law_purse", "_law_most"] (spP 2 w__law_ng_number) :=
  okP p.d__law_ng_number.F sc__law_ng_number (by decide) ar__law_ng_number (by decide) (fun cdv A outer s H E hg hr => ⟨_, (pss_cons (ps_set (i := 2) sc__law_ng_number.nd rfl (Or.inl rfl) (pe_callG ((ok__law_coin p).mono (by decide)) hg hr (by rfl) p.d__law_coin.gl p.d__law_coin.kp p.d__law_coin.bd pass0 (pa_cons (pv 0) (pa_cons pe_int pa_nil))))
      (pss_cons (ps_if (pt_cmpR op_lt (pv 2) pe_int (nomark _))
      (pss_one (ps_ret (pe_callB (call_min2 rfl) (by rfl) p.blt.min (by decide +kernel) (pa_cons (pv 1) (pa_cons (pe_callG ((ok__law_coin p).mono (by decide)) hg hr (by rfl) p.d__law_coin.gl p.d__law_coin.kp p.d__law_coin.bd pass0 (pa_cons (pv 0) (pa_cons (pe_ix ix_list (pe_lst (pa_cons pe_int (pa_cons pe_int pa_nil))) (pv 2) (fun _ _ => rfl)) pa_nil))) pa_nil))))) pss_nil)
      (pss_cons (ps_if (pt_cmpR op_eq (pv 2) pe_int (nomark _))
      (pss_one (ps_ret (pe_callG ((ok__law_coin p).mono (by decide)) hg hr (by rfl) p.d__law_coin.gl p.d__law_coin.kp p.d__law_coin.bd pass0 (pa_cons (pv 0) (pa_cons (pe_op op_add (pv 1) pe_int) pa_nil))))) pss_nil)
      (pss_one (ps_ret (pe_op op_sub (pv 1) (pe_callG ((ok__law_coin p).mono (by decide)) hg hr (by rfl) p.d__law_coin.gl p.d__law_coin.kp p.d__law_coin.bd pass0 (pa_cons (pv 0) (pa_cons (pe_op op_add (pe_callB (call_min2 rfl) (by rfl) p.blt.min (by decide +kernel) (pa_cons (pv 1) (pa_cons pe_int pa_nil))) pe_int) pa_nil))))))))),
    fun C xc => (so_seq (so_asg (so_callP (so_cons (so_var (i := 0)) (so_cons (so_c (sca_int _)) so_nil))) (so_gname (i := 2)))
      (so_seq (so_ifS (so_test (so_op sr_B (so_var (i := 2)) (so_c (sca_int _))))
      (so_ret (so_f sc_2i (so_cons (so_var (i := 1)) (so_cons (so_callP (so_cons (so_var (i := 0)) (so_cons (so_ixL (so_lit_lst (so_lits_cons (so_lit_c (sca_int _) rfl) (so_lits_cons (so_lit_c (sca_int _) rfl) so_lits_nil))) (so_var (i := 2))) so_nil))) so_nil)))) so_next)
      (so_seq (so_ifS (so_test (so_op sr_eq (so_var (i := 2)) (so_c (sca_int _))))
      (so_ret (so_callP (so_cons (so_var (i := 0)) (so_cons (so_op sr_I0 (so_var (i := 1)) (so_c (sca_int _))) so_nil)))) so_next)
      (so_ret (so_op sr_I0 (so_var (i := 1)) (so_callP (so_cons (so_var (i := 0)) (so_cons (so_op sr_I0 (so_f sc_2i (so_cons (so_var (i := 1)) (so_cons (so_c (sca_int _)) so_nil))) (so_c (sca_int _))) so_nil))))))))⟩) val__law_ng_number
def w__law_ng_least : Tw := fun ds Q => ∃ n gs, ds = [.int n, dI gs] ∧ Eff (n, gs) ∧ gs.length ≤ 1000000 ∧ Q (dE (leastE n gs))
theorem ar__law_ng_least : ∀ ds G, w__law_ng_least ds G → ds.length = 2 := by
  rintro ds G ⟨n, gs, rfl, _⟩
  rfl
def kb__law_ng_least_1 : KS := (kIfS (kTAnd (kTest (kOp (vB fun i j => decide (j < i)) (kVar 0) (kC (.int 0)))) (kTAnd (kTest (kOp (vEqD false) (kSl (kVar 1) (kPart (kUn vNeg (kC (.int 1)))) kNo) (kMk true 1 (kCons (kVar 0) kNil)))) (kTest (kOp (vIn true) (kVar 0) (kSl (kVar 1) kNo (kPart (kUn vNeg (kC (.int 1)))))))))
  (kPar 0 1 (kCons (kOp (vI noC fun i j => i - j) (kVar 0) (kC (.int 1))) (kCons (kSl (kVar 1) kNo (kPart (kUn vNeg (kC (.int 1))))) kNil)))
  kNext)
def kr__law_ng_least_2 : KS := (kRet (kMk false 2 (kCons (kVar 0) (kCons (kListOf (kCons (kVar 1) kNil)) kNil))))
def k__law_ng_least : KS := (kSeq (kFor (kRng1 (kF 1 vLen (kCons (kVar 1) kNil))) (kgName 2) kb__law_ng_least_1)
  kr__law_ng_least_2)
local macro_rules | `(tactic| walk_at "go") => `(tactic| ((first | unfold kr__law_ng_least_2); walk_at "ev"))
theorem last_dropI {gs : List Int} {n : Int} : gs.drop (gs.length - 1) = [n] ↔ ∃ hs, gs = hs ++ [n] := by
  constructor
  · intro h
    refine ⟨gs.take (gs.length - 1), ?_⟩
    rw [← h, List.take_append_drop]
  · rintro ⟨hs, rfl⟩
    simp
/-- one straight place at the end is cut, if there is one -/
def cut1 (e : Int × List Int) : Int × List Int := if 0 < e.1 ∧ e.2.drop (e.2.length - 1) = [e.1] ∧ ¬ e.1 ∈ e.2.dropLast then (e.1 - 1, e.2.dropLast) else e
theorem cut1_eff {e : Int × List Int} (h : Eff e) : Eff (cut1 e) := by
  unfold cut1
  split
  · rename_i c
    obtain ⟨c1, c2, c3⟩ := c
    obtain ⟨hs, eh⟩ := last_dropI.mp c2
    refine ⟨by show 0 ≤ e.1 - 1; omega, fun x hx => h.ge x ((List.dropLast_sublist e.2).subset hx), fun x hx => ?_⟩
    have h1 := h.le x ((List.dropLast_sublist e.2).subset hx)
    have h2 : x ≠ e.1 := fun z => c3 (z ▸ hx)
    show x ≤ e.1 - 1
    omega
  · exact h
theorem cut1_least {e : Int × List Int} (h : Eff e) : leastE (cut1 e).1 (cut1 e).2 = leastE e.1 e.2 := by
  unfold cut1
  split
  · rename_i c
    obtain ⟨c1, c2, c3⟩ := c
    obtain ⟨hs, eh⟩ := last_dropI.mp c2
    obtain ⟨n, gs⟩ := e
    dsimp only at eh c1 c3 ⊢
    subst eh
    rw [List.dropLast_concat] at c3 ⊢
    have hl : ∀ x ∈ hs, x ≤ n - 1 := fun x hx => by
      have h1 : x ≤ n := h.le x (List.mem_append_left _ hx)
      have h2 : x ≠ n := fun z => c3 (z ▸ hx)
      omega
    have q := leastE_step hl
    have e1 : n - 1 + 1 = n := by omega
    rw [e1] at q
    exact q.symm
  · rfl
/-- nothing is left to be cut -/
theorem cut1_fix {e : Int × List Int} (h : Eff e) (c : cut1 e = e) : leastE e.1 e.2 = e := by
  obtain ⟨n, gs⟩ := e
  unfold cut1 at c
  split at c
  · rename_i q
    have := congrArg Prod.fst c
    dsimp only at this
    omega
  · rename_i q
    unfold leastE
    have : trim gs gs.length n = (gs.length, n) := by
      cases hl : gs.length with
      | zero => rfl
      | succ k =>
        unfold trim
        rw [if_neg]
        rintro ⟨h1, h2⟩
        have hne : gs ≠ [] := fun z => by rw [z] at hl; cases hl
        have e1 : gs = gs.dropLast ++ [n] := by
          have := List.dropLast_concat_getLast hne
          rw [List.getLast_eq_getElem] at this
          have e2 : gs[gs.length - 1]? = some n := by rw [hl]; exact h1
          rw [List.getElem?_eq_getElem (by omega)] at e2
          rw [Option.some.inj e2] at this
          exact this.symm
        have e3 : gs.take k = gs.dropLast := by rw [List.dropLast_eq_take, hl]; rfl
        refine q ⟨?_, last_dropI.mpr ⟨_, e1⟩, fun m => ?_⟩
        · exact h.ge n (by rw [e1]; simp)
        · rw [e3] at h2
          have := h2 n m
          omega
    rw [this]
    simp
/-- so many cuts -/
def cuts : Nat → Int × List Int → Int × List Int
  | 0, e => e
  | k + 1, e => cut1 (cuts k e)
theorem cuts_eff {e : Int × List Int} (h : Eff e) : ∀ k, Eff (cuts k e)
  | 0 => h
  | k + 1 => cut1_eff (cuts_eff h k)
theorem cuts_least {e : Int × List Int} (h : Eff e) : ∀ k, leastE (cuts k e).1 (cuts k e).2 = leastE e.1 e.2
  | 0 => rfl
  | k + 1 => (cut1_least (cuts_eff h k)).trans (cuts_least h k)
/-- each cut takes a place away, or nothing is left to be cut -/
theorem cuts_len (e : Int × List Int) : ∀ k, cut1 (cuts k e) = cuts k e ∨ (cuts k e).2.length + k ≤ e.2.length
  | 0 => .inr (Nat.le_refl _)
  | k + 1 => by
    show cut1 (cut1 (cuts k e)) = cut1 (cuts k e) ∨ (cut1 (cuts k e)).2.length + (k + 1) ≤ e.2.length
    rcases cuts_len e k with h | h
    · left
      rw [h, h]
    · by_cases c : 0 < (cuts k e).1 ∧ (cuts k e).2.drop ((cuts k e).2.length - 1) = [(cuts k e).1] ∧ ¬ (cuts k e).1 ∈ (cuts k e).2.dropLast
      · right
        have e1 : cut1 (cuts k e) = ((cuts k e).1 - 1, (cuts k e).2.dropLast) := if_pos c
        obtain ⟨hs, eh⟩ := last_dropI.mp c.2.1
        have hl : 0 < (cuts k e).2.length := by rw [eh]; simp
        rw [e1]
        show (cuts k e).2.dropLast.length + (k + 1) ≤ _
        rw [List.length_dropLast]
        omega
      · left
        have e1 : cut1 (cuts k e) = cuts k e := if_neg c
        rw [e1, e1]
theorem cuts_all {e : Int × List Int} (h : Eff e) : cuts e.2.length e = leastE e.1 e.2 := by
  rw [← cuts_least h e.2.length]
  symm
  refine cut1_fix (cuts_eff h _) ?_
  rcases cuts_len e e.2.length with c | c
  · exact c
  · have e0 : (cuts e.2.length e).2 = [] := List.length_eq_zero_iff.mp (by omega)
    unfold cut1
    rw [if_neg]
    rintro ⟨_, c2, _⟩
    rw [e0] at c2
    cases c2
theorem val__law_ng_least : ∀ ds G, w__law_ng_least ds G → k__law_ng_least ⟨ds.map Sl.fz ++ [.jk], [], 0⟩ (edT G) := by
  rintro ds Gq ⟨n, gs, rfl, ef, len, q⟩
  unfold k__law_ng_least
  walk_at "ev"
  refine ⟨⟨by omega, by omega⟩, ?_⟩
  have lr := rg_length 0 (gs.length : Nat)
  refine forL_ints (rg 0 (gs.length : Nat)) (fun pre γ => ∃ b x, γ = ⟨[.fz (.int (cuts pre.length (n, gs)).1), b, x], [], 0⟩ ∧ (b = .fz (dI (cuts pre.length (n, gs)).2) ∨ b = .ow true (dI (cuts pre.length (n, gs)).2))) (fun pre x post γ N hl ht hP hN => ?_) (fun γ ht hP => ?_) _ rfl ⟨_, _, rfl, .inl rfl⟩
  · obtain ⟨b, y, rfl, hb⟩ := hP
    have stay : cut1 (cuts pre.length (n, gs)) = cuts pre.length (n, gs) → N ⟨[.fz (.int (cuts pre.length (n, gs)).1), b, .fz (.int x)], [], 0⟩ := fun c => hN _ rfl ⟨b, _, by
      rw [List.length_append, List.length_singleton]
      show _ = VSt.mk [.fz (.int (cut1 (cuts pre.length (n, gs))).1), b, _] [] 0
      rw [c], by
      rw [List.length_append, List.length_singleton]
      show b = .fz (dI (cut1 (cuts pre.length (n, gs))).2) ∨ b = .ow true (dI (cut1 (cuts pre.length (n, gs))).2)
      rw [c]
      exact hb⟩
    have go : 0 < (cuts pre.length (n, gs)).1 ∧ (cuts pre.length (n, gs)).2.drop ((cuts pre.length (n, gs)).2.length - 1) = [(cuts pre.length (n, gs)).1] ∧ ¬ (cuts pre.length (n, gs)).1 ∈ (cuts pre.length (n, gs)).2.dropLast → N ⟨[.fz (.int ((cuts pre.length (n, gs)).1 - 1)), .ow true (dI (cuts pre.length (n, gs)).2.dropLast), .fz (.int x)], [], 0⟩ := fun c => hN _ rfl ⟨_, _, by
      rw [List.length_append, List.length_singleton]
      show _ = VSt.mk [.fz (.int (cut1 (cuts pre.length (n, gs))).1), .ow true (dI (cut1 (cuts pre.length (n, gs))).2), _] [] 0
      have : cut1 (cuts pre.length (n, gs)) = _ := if_pos c
      rw [this], by
      rw [List.length_append, List.length_singleton]
      exact .inr rfl⟩
    obtain ⟨⟨m, hs⟩, ee⟩ : ∃ e, cuts pre.length (n, gs) = e := ⟨_, rfl⟩
    rw [ee] at stay go hb ⊢
    dsimp only at stay go hb ⊢
    have noc : ¬ (0 < m ∧ hs.drop (hs.length - 1) = [m] ∧ ¬ m ∈ hs.dropLast) → cut1 (m, hs) = (m, hs) := fun h => if_neg h
    rcases hb with rfl | rfl
    all_goals
      unfold kb__law_ng_least_1
      walk_at "ev"
      refine iteB (fun c1 => ?_) (fun c1 => stay (noc fun z => by have := of_decide_eq_false c1; omega))
      refine ⟨shaped_ints _, rfl, ?_⟩
      rw [eqv_il1]
      refine iteB (fun c2 => ?_) (fun c2 => stay (noc fun z => of_decide_eq_false c2 z.2.1))
      refine iteB (fun c3 => go ⟨of_decide_eq_true c1, of_decide_eq_true c2, by simpa using c3⟩) (fun c3 => stay (noc fun z => by simp at c3; exact z.2.2 c3))
  · obtain ⟨b, y, rfl, hb⟩ := hP
    rw [lr] at hb ⊢
    have e1 : ((gs.length : Int) - 0).toNat = gs.length := by omega
    rw [e1] at hb ⊢
    have ca := cuts_all ef
    dsimp only at ca
    rw [ca] at hb ⊢
    rcases hb with rfl | rfl
    all_goals
      unfold kr__law_ng_least_2
      walk_at "ev"
      exact q
theorem ok__law_ng_least (p : Prog K mg) : FnG P w K mg base CX0 1 p.f__law_ng_least p.fd__law_ng_least ["_law_needs", "_law_gives"] (spT w__law_ng_least) :=
  okT p.d__law_ng_least.F sc__law_ng_least (by decide) ar__law_ng_least (fun cdv A outer s H E hg hr => ⟨_, (pss_cons (ps_for PassesOwn.never rfl (pi_range1 (by rfl) p.blt.range (pa_cons (pe_callB call_len_seq (by rfl) p.blt.len PySem.boot_len (pa_cons (pv 1) pa_nil)) pa_nil)) (pg_name (i := 2) sc__law_ng_least.nd rfl (Or.inl rfl))
      (pss_one (ps_if (PW.pt (pw_and (pt_cmpR op_gt (pv 0) pe_int (nomark _)) (pw_and (pt_cmpR (op_eqD hr.units) (pe_slice sl_list (pv 1) (po_some (pe_un un_neg pe_int)) po_none) (pe_lst (pa_cons (pv 0) pa_nil)) (nomark _)) (pw_and1 (pt_cmpR op_notIn_seq (pv 0) (pe_slice sl_list (pv 1) po_none (po_some (pe_un un_neg pe_int))) rfl)))))
      (pss_one (ps_par (i := 0) (j := 1) rfl sc__law_ng_least.nd rfl rfl (by decide) rfl rfl (pa_cons (pe_op op_sub (pv 0) pe_int) (pa_cons (pe_slice sl_list (pv 1) po_none (po_some (pe_un un_neg pe_int))) pa_nil)) (by rfl))) pss_nil)))
      (pss_one (ps_ret (pe_tup (pa_cons (pv 0) (pa_cons (pe_callTy call_list_of (by rfl) p.blt.list (by decide +kernel) (pa_cons (pv 1) pa_nil)) pa_nil)))))),
    fun C xc => (so_seq (so_for (so_rng1 (so_f sc_len (so_cons (so_var (i := 1)) so_nil))) (so_gname (i := 2))
      (so_ifS (so_tand (so_test (so_op sr_B (so_var (i := 0)) (so_c (sca_int _)))) (so_tand (so_test (so_op sr_eqD (so_sl (so_var (i := 1)) (so_part (so_neg (so_c (sca_int _)))) so_no) (so_lst (so_cons (so_var (i := 0)) so_nil)))) (so_test (so_op sr_in (so_var (i := 0)) (so_sl (so_var (i := 1)) so_no (so_part (so_neg (so_c (sca_int _)))))))))
      (so_par (i := 0) (j := 1) (by decide) (so_cons (so_op sr_I0 (so_var (i := 0)) (so_c (sca_int _))) (so_cons (so_sl (so_var (i := 1)) so_no (so_part (so_neg (so_c (sca_int _))))) so_nil))) so_next))
      (so_ret (so_tup (so_cons (so_var (i := 0)) (so_cons (so_listOf (so_cons (so_var (i := 1)) so_nil)) so_nil)))))⟩) val__law_ng_least
/-- an effect that is well known: its own least way, at most three things taken and three put -/
def w__law_ng_menu : Tw := fun ds Q => ds = [] ∧ ∀ n gs, Eff (n, gs) → Lst (n, gs) → n ≤ 3 → gs.length ≤ 3 → Q (dE (n, gs))
theorem ar__law_ng_menu : ∀ ds G, w__law_ng_menu ds G → ds.length + 1 = 1 := by
  rintro ds G ⟨rfl, _⟩
  rfl
def kr__law_ng_menu_1 : KS := (kRet (kMk false 2 (kCons (kVar 2) (kCons (kListOf (kCons (kVar 3) kNil)) kNil))))
def kr__law_ng_menu_2 : KS := (kSeq (kAsg (kIx true (kFrz 1) (kCallP 1 w__law_coin 1 (kCons (kVar 0) (kCons (kC (.int 12)) kNil)))) (kgTup 2 (kgCons (kgName 2) (kgCons (kgName 3) kgNil))))
  kr__law_ng_menu_1)
def kr__law_ng_menu_3 : KS := (kSeq (kAsg (kCat (kFrz 1) (kLit (.list [(.tuple [(.int 2), (.list [(.int 1), (.int 2), (.int 1)])]), (.tuple [(.int 3), (.list [(.int 2), (.int 3), (.int 1)])]), (.tuple [(.int 2), (.list [])]), (.tuple [(.int 3), (.list [(.int 1), (.int 1), (.int 2)])]), (.tuple [(.int 3), (.list [(.int 1), (.int 3), (.int 2)])])]))) (kgName 1))
  kr__law_ng_menu_2)
def k__law_ng_menu : KS := (kSeq (kAsg (kLit (.list [(.tuple [(.int 1), (.list [(.int 1), (.int 1)])]), (.tuple [(.int 1), (.list [])]), (.tuple [(.int 2), (.list [(.int 2), (.int 1)])]), (.tuple [(.int 2), (.list [(.int 2), (.int 1), (.int 2)])]), (.tuple [(.int 3), (.list [(.int 3), (.int 1), (.int 2)])]), (.tuple [(.int 2), (.list [(.int 1)])]), (.tuple [(.int 0), (.list [])])])) (kgName 1))
  kr__law_ng_menu_3)
local macro_rules | `(tactic| walk_at "go") => `(tactic| ((first | unfold kr__law_ng_menu_1 | unfold kr__law_ng_menu_2 | unfold kr__law_ng_menu_3); walk_at "ev"))
def menu12 : List (Int × List Int) := [(1, [1, 1]), (1, []), (2, [2, 1]), (2, [2, 1, 2]), (3, [3, 1, 2]), (2, [1]), (0, []), (2, [1, 2, 1]), (3, [2, 3, 1]), (2, []), (3, [1, 1, 2]), (3, [1, 3, 2])]
theorem menu12_ok : ∀ e ∈ menu12, Eff e ∧ Lst e ∧ e.1 ≤ 3 ∧ e.2.length ≤ 3 := by
  intro e he
  simp only [menu12, List.mem_cons, List.not_mem_nil, or_false] at he
  rcases he with rfl | rfl | rfl | rfl | rfl | rfl | rfl | rfl | rfl | rfl | rfl | rfl <;> exact ⟨⟨by decide, by decide, by decide⟩, by unfold Lst; decide +kernel, by decide, by decide⟩
theorem val__law_ng_menu : ∀ ds G, w__law_ng_menu ds G → k__law_ng_menu ⟨.pu :: (ds.map Sl.fz ++ [.jk, .jk, .jk]), [], 1⟩ (edP G) := by
  rintro ds Gq ⟨rfl, q⟩
  unfold k__law_ng_menu
  walk_at "ev"
  walk_at "go"
  refine ⟨by decide, ?_⟩
  walk_at "go"
  refine ⟨by decide, 12, rfl, by decide, by decide, fun r r0 r1 => ?_⟩
  walk_at "ev"
  refine ixD_any r0 (show r < 12 from r1) fun x hx => ?_
  have hx' : (menu12.map dE)[r.toNat]? = some x := hx
  rw [List.getElem?_map] at hx'
  cases he : menu12[r.toNat]? with
  | none => rw [he] at hx'; cases hx'
  | some e =>
    rw [he] at hx'
    cases hx'
    obtain ⟨ef, el, e1, e2⟩ := menu12_ok e (List.mem_of_getElem? he)
    obtain ⟨n, gs⟩ := e
    walk_at "ev"
    walk_at "go"
    exact ⟨by decide, q n gs ef el e1 e2⟩
theorem ok__law_ng_menu (p : Prog K mg) : FnG P w K mg base CX0 2 p.f__law_ng_menu p.fd__law_ng_menu ["_law_purse"] (spP 1 w__law_ng_menu) :=
  okP p.d__law_ng_menu.F sc__law_ng_menu (by decide) ar__law_ng_menu (by decide) (fun cdv A outer s H E hg hr => ⟨_, (pss_cons (ps_set (i := 1) sc__law_ng_menu.nd rfl (Or.inl rfl) (pe_lst (pa_cons (pe_tup (pa_cons pe_int (pa_cons (pe_lst (pa_cons pe_int (pa_cons pe_int pa_nil))) pa_nil))) (pa_cons (pe_tup (pa_cons pe_int (pa_cons (pe_lst pa_nil) pa_nil))) (pa_cons (pe_tup (pa_cons pe_int (pa_cons (pe_lst (pa_cons pe_int (pa_cons pe_int pa_nil))) pa_nil))) (pa_cons (pe_tup (pa_cons pe_int (pa_cons (pe_lst (pa_cons pe_int (pa_cons pe_int (pa_cons pe_int pa_nil)))) pa_nil))) (pa_cons (pe_tup (pa_cons pe_int (pa_cons (pe_lst (pa_cons pe_int (pa_cons pe_int (pa_cons pe_int pa_nil)))) pa_nil))) (pa_cons (pe_tup (pa_cons pe_int (pa_cons (pe_lst (pa_cons pe_int pa_nil)) pa_nil))) (pa_cons (pe_tup (pa_cons pe_int (pa_cons (pe_lst pa_nil) pa_nil))) pa_nil)))))))))
      (pss_cons (ps_set (i := 1) sc__law_ng_menu.nd rfl (Or.inl rfl) (pe_op op_cat (pv 1) (pe_lst (pa_cons (pe_tup (pa_cons pe_int (pa_cons (pe_lst (pa_cons pe_int (pa_cons pe_int (pa_cons pe_int pa_nil)))) pa_nil))) (pa_cons (pe_tup (pa_cons pe_int (pa_cons (pe_lst (pa_cons pe_int (pa_cons pe_int (pa_cons pe_int pa_nil)))) pa_nil))) (pa_cons (pe_tup (pa_cons pe_int (pa_cons (pe_lst pa_nil) pa_nil))) (pa_cons (pe_tup (pa_cons pe_int (pa_cons (pe_lst (pa_cons pe_int (pa_cons pe_int (pa_cons pe_int pa_nil)))) pa_nil))) (pa_cons (pe_tup (pa_cons pe_int (pa_cons (pe_lst (pa_cons pe_int (pa_cons pe_int (pa_cons pe_int pa_nil)))) pa_nil))) pa_nil))))))))
      (pss_cons (ps_asg (pe_ix ix_list (pv 1) (pe_callG ((ok__law_coin p).mono (by decide)) hg hr (by rfl) p.d__law_coin.gl p.d__law_coin.kp p.d__law_coin.bd pass0 (pa_cons (pv 0) (pa_cons pe_int pa_nil))) (fun _ _ => rfl)) (pg_tup rfl (pgs_cons (pg_name (i := 2) sc__law_ng_menu.nd rfl (Or.inl rfl)) (pgs_cons (pg_name (i := 3) sc__law_ng_menu.nd rfl (Or.inl rfl)) pgs_nil))))
      (pss_one (ps_ret (pe_tup (pa_cons (pv 2) (pa_cons (pe_callTy call_list_of (by rfl) p.blt.list (by decide +kernel) (pa_cons (pv 3) pa_nil)) pa_nil)))))))),
    fun C xc => (so_seq (so_asg (so_lit_lst (so_lits_cons (so_lit_tup (so_lits_cons (so_lit_c (sca_int _) rfl) (so_lits_cons (so_lit_lst (so_lits_cons (so_lit_c (sca_int _) rfl) (so_lits_cons (so_lit_c (sca_int _) rfl) so_lits_nil))) so_lits_nil))) (so_lits_cons (so_lit_tup (so_lits_cons (so_lit_c (sca_int _) rfl) (so_lits_cons (so_lit_lst so_lits_nil) so_lits_nil))) (so_lits_cons (so_lit_tup (so_lits_cons (so_lit_c (sca_int _) rfl) (so_lits_cons (so_lit_lst (so_lits_cons (so_lit_c (sca_int _) rfl) (so_lits_cons (so_lit_c (sca_int _) rfl) so_lits_nil))) so_lits_nil))) (so_lits_cons (so_lit_tup (so_lits_cons (so_lit_c (sca_int _) rfl) (so_lits_cons (so_lit_lst (so_lits_cons (so_lit_c (sca_int _) rfl) (so_lits_cons (so_lit_c (sca_int _) rfl) (so_lits_cons (so_lit_c (sca_int _) rfl) so_lits_nil)))) so_lits_nil))) (so_lits_cons (so_lit_tup (so_lits_cons (so_lit_c (sca_int _) rfl) (so_lits_cons (so_lit_lst (so_lits_cons (so_lit_c (sca_int _) rfl) (so_lits_cons (so_lit_c (sca_int _) rfl) (so_lits_cons (so_lit_c (sca_int _) rfl) so_lits_nil)))) so_lits_nil))) (so_lits_cons (so_lit_tup (so_lits_cons (so_lit_c (sca_int _) rfl) (so_lits_cons (so_lit_lst (so_lits_cons (so_lit_c (sca_int _) rfl) so_lits_nil)) so_lits_nil))) (so_lits_cons (so_lit_tup (so_lits_cons (so_lit_c (sca_int _) rfl) (so_lits_cons (so_lit_lst so_lits_nil) so_lits_nil))) so_lits_nil)))))))) (so_gname (i := 1)))
      (so_seq (so_asg (so_cat (so_frz (i := 1)) (so_lit_lst (so_lits_cons (so_lit_tup (so_lits_cons (so_lit_c (sca_int _) rfl) (so_lits_cons (so_lit_lst (so_lits_cons (so_lit_c (sca_int _) rfl) (so_lits_cons (so_lit_c (sca_int _) rfl) (so_lits_cons (so_lit_c (sca_int _) rfl) so_lits_nil)))) so_lits_nil))) (so_lits_cons (so_lit_tup (so_lits_cons (so_lit_c (sca_int _) rfl) (so_lits_cons (so_lit_lst (so_lits_cons (so_lit_c (sca_int _) rfl) (so_lits_cons (so_lit_c (sca_int _) rfl) (so_lits_cons (so_lit_c (sca_int _) rfl) so_lits_nil)))) so_lits_nil))) (so_lits_cons (so_lit_tup (so_lits_cons (so_lit_c (sca_int _) rfl) (so_lits_cons (so_lit_lst so_lits_nil) so_lits_nil))) (so_lits_cons (so_lit_tup (so_lits_cons (so_lit_c (sca_int _) rfl) (so_lits_cons (so_lit_lst (so_lits_cons (so_lit_c (sca_int _) rfl) (so_lits_cons (so_lit_c (sca_int _) rfl) (so_lits_cons (so_lit_c (sca_int _) rfl) so_lits_nil)))) so_lits_nil))) (so_lits_cons (so_lit_tup (so_lits_cons (so_lit_c (sca_int _) rfl) (so_lits_cons (so_lit_lst (so_lits_cons (so_lit_c (sca_int _) rfl) (so_lits_cons (so_lit_c (sca_int _) rfl) (so_lits_cons (so_lit_c (sca_int _) rfl) so_lits_nil)))) so_lits_nil))) so_lits_nil))))))) (so_gname (i := 1)))
      (so_seq (so_asg (so_ixL (so_frz (i := 1)) (so_callP (so_cons (so_var (i := 0)) (so_cons (so_c (sca_int _)) so_nil)))) (so_gtup (so_gcons (so_gname (i := 2)) (so_gcons (so_gname (i := 3)) so_gnil))))
      (so_ret (so_tup (so_cons (so_var (i := 2)) (so_cons (so_listOf (so_cons (so_var (i := 3)) so_nil)) so_nil)))))))⟩) val__law_ng_menu
/-- an effect in its least way -/
def w__law_ng_shape : Tw := fun ds Q => ∃ deep most, ds = [.int deep, .int most] ∧ 0 ≤ deep ∧ deep ≤ 60 ∧ 0 ≤ most ∧ most ≤ 60 ∧ ∀ n gs, Eff (n, gs) → Lst (n, gs) → n ≤ max 3 deep → (gs.length : Int) ≤ max 3 (max deep most) → Q (dE (n, gs))
theorem ar__law_ng_shape : ∀ ds G, w__law_ng_shape ds G → ds.length + 1 = 3 := by
  rintro ds G ⟨deep, most, rfl, _⟩
  rfl
def kb__law_ng_shape_1 : KS := (kDrop (kApp (kVar 9) (kPopAt (kVar 8) (kCallP 1 w__law_coin 1 (kCons (kVar 0) (kCons (kF 1 vLen (kCons (kVar 8) kNil)) kNil))))))
def kr__law_ng_shape_2 : KS := (kAsg (kMov 9) (kgName 7))
def kr__law_ng_shape_3 : KS := (kIfS (kTest (kOp (vEq false) (kVar 3) (kC (.int 2))))
  (kAsg (kSl (kCat (kVar 9) (kVar 7)) kNo (kPart (kVar 5))) (kgName 7))
  (kSeq (kIfS (kTAnd (kTest (kOp (vB fun i j => decide (j < i)) (kVar 4) (kC (.int 0)))) (kTest (kOp (vEq false) (kCallP 1 w__law_coin 1 (kCons (kVar 0) (kCons (kC (.int 3)) kNil))) (kC (.int 0)))))
  (kAsg (kOp (vI noC fun i j => i + j) (kC (.int 1)) (kCallP 1 w__law_coin 1 (kCons (kVar 0) (kCons (kVar 4) kNil)))) (kgSub (kVar 9) (kCallP 1 w__law_coin 1 (kCons (kVar 0) (kCons (kVar 4) kNil)))))
  kNext)
  kr__law_ng_shape_2))
def kr__law_ng_shape_4 : KS := (kSeq (kFor (kRng1 (kVar 4)) (kgName 6) kb__law_ng_shape_1)
  kr__law_ng_shape_3)
def kr__law_ng_shape_5 : KS := (kRet (kCallT w__law_ng_least 2 (kCons (kVar 4) (kCons (kVar 7) kNil))))
def kr__law_ng_shape_6 : KS := (kSeq (kIfS (kTest (kOp (vB fun i j => decide (j < i)) (kVar 3) (kC (.int 0))))
  (kSeq (kPar 8 9 (kCons (kListRg (kRg2 (kC (.int 1)) (kOp (vI noC fun i j => i + j) (kVar 4) (kC (.int 1))))) (kCons (kLit (.list [])) kNil)))
  kr__law_ng_shape_4)
  kNext)
  kr__law_ng_shape_5)
def kr__law_ng_shape_7 : KS := (kSeq (kAsg (kLc (kRng1 (kVar 5)) 6 kYes (kOp (vI noC fun i j => i + j) (kC (.int 1)) (kCallP 1 w__law_coin 1 (kCons (kVar 0) (kCons (kVar 4) kNil))))) (kgName 7))
  kr__law_ng_shape_6)
def kr__law_ng_shape_8 : KS := (kSeq (kAsg (kIf (kTest (kOp (vB fun i j => decide (j < i)) (kVar 4) (kC (.int 0)))) (kCallP 1 w__law_coin 1 (kCons (kVar 0) (kCons (kOp (vI noC fun i j => i + j) (kVar 2) (kC (.int 1))) kNil))) (kC (.int 0))) (kgName 5))
  kr__law_ng_shape_7)
def kr__law_ng_shape_9 : KS := (kSeq (kIfS (kTest (kOp (vEq false) (kVar 3) (kC (.int 3))))
  (kRet (kCallP 1 w__law_ng_menu 0 (kCons (kVar 0) kNil)))
  kNext)
  kr__law_ng_shape_8)
def k__law_ng_shape : KS := (kSeq (kAsg (kMk false 2 (kCons (kCallP 1 w__law_coin 1 (kCons (kVar 0) (kCons (kC (.int 4)) kNil))) (kCons (kCallP 1 w__law_coin 1 (kCons (kVar 0) (kCons (kOp (vI noC fun i j => i + j) (kVar 1) (kC (.int 1))) kNil))) kNil))) (kgTup 2 (kgCons (kgName 3) (kgCons (kgName 4) kgNil))))
  kr__law_ng_shape_9)
local macro_rules | `(tactic| walk_at "go") => `(tactic| ((first | unfold kr__law_ng_shape_2 | unfold kr__law_ng_shape_3 | unfold kr__law_ng_shape_4 | unfold kr__law_ng_shape_5 | unfold kr__law_ng_shape_6 | unfold kr__law_ng_shape_7 | unfold kr__law_ng_shape_8 | unfold kr__law_ng_shape_9); walk_at "ev"))
theorem val__law_ng_shape : ∀ ds G, w__law_ng_shape ds G → k__law_ng_shape ⟨.pu :: (ds.map Sl.fz ++ [.jk, .jk, .jk, .jk, .jk, .jk, .jk]), [], 500⟩ (edP G) := by
  rintro ds Gq ⟨deep, most, rfl, d3, d60, m0, m60, q⟩
  unfold k__law_ng_shape
  walk_at "ev"
  refine ⟨by decide, 4, rfl, by decide, by decide, fun so s0 s1 => ?_⟩
  walk_at "ev"
  refine ⟨by decide, deep + 1, rfl, by omega, by omega, fun many h0 h1 => ?_⟩
  walk_at "ev"
  -- the end
  have fin : ∀ (gs : List Int) (b x y z u : Sl) (j : Int), 0 ≤ j → (∀ g ∈ gs, 1 ≤ g ∧ g ≤ many) → (gs.length : Int) ≤ max deep most → (b = .ow true (dI gs) ∨ b = .fz (dI gs)) → kr__law_ng_shape_5 ⟨[.pu, .fz (.int deep), .fz (.int most), .fz (.int so), .fz (.int many), x, y, b, z, u], [], j⟩ (edP Gq) := fun gs b x y z u j hj hg hl hb => by
    have ef : Eff (many, gs) := ⟨h0, fun g m => (hg g m).1, fun g m => (hg g m).2⟩
    have lk := leastE_ok ef
    have a1 : (leastE many gs).1 ≤ many := lk.le
    have a2 : (leastE many gs).2.length ≤ gs.length := lk.len
    have res := q (leastE many gs).1 (leastE many gs).2 lk.eff lk.lst (by omega) (by omega)
    rcases hb with rfl | rfl
    all_goals
      walk_at "go"
      exact ⟨many, gs, rfl, ef, by omega, by walk_at "ev"; exact ⟨hj, res⟩⟩
  -- behind the drawn places
  have six : ∀ (gs : List Int) (size j : Int), 300 ≤ j → 0 ≤ size → size ≤ most → (∀ g ∈ gs, 1 ≤ g ∧ g ≤ many) → (gs.length : Int) ≤ size → kr__law_ng_shape_6 ⟨[.pu, .fz (.int deep), .fz (.int most), .fz (.int so), .fz (.int many), .fz (.int size), .jk, .ow true (dI gs), .jk, .jk], [], j⟩ (edP Gq) := fun gs size j hj z0 z1 hg hl => by
    walk_at "go"
    refine iteB (fun c1 => ?_) (fun c1 => fin gs _ _ _ _ _ _ (by omega) hg (by omega) (.inl rfl))
    refine ⟨by omega, ?_⟩
    walk_at "go"
    refine ⟨by omega, ?_⟩
    have lr := rg_length 0 many
    have lr1 := rg_length 1 (many + 1)
    refine forL_ints (rg 0 many) (fun pre γ => ∃ (pool ord : List Int) (y : Sl), γ = ⟨[.pu, .fz (.int deep), .fz (.int most), .fz (.int so), .fz (.int many), .fz (.int size), y, .ow true (dI gs), .ow true (dI pool), .ow true (dI ord)], [], j - pre.length⟩ ∧ pool.length = many - pre.length ∧ (ord.length : Int) = pre.length ∧ (∀ x ∈ pool, 1 ≤ x ∧ x ≤ many) ∧ (∀ x ∈ ord, 1 ≤ x ∧ x ≤ many)) (fun pre x post γ N hl2 ht hP hN => ?_) (fun γ ht hP => ?_) _ rfl ⟨rg 1 (many + 1), [], .jk, by simp, by rw [lr1]; simp; omega, rfl, fun x hx => by have := mem_rg.mp hx; omega, by simp⟩
    · obtain ⟨pool, ord, y, rfl, hp, ho, hpm, hom⟩ := hP
      have hlen := congrArg List.length hl2
      rw [lr, List.length_append, List.length_cons] at hlen
      unfold kb__law_ng_shape_1
      walk_at "ev"
      refine ⟨⟨by decide, by omega⟩, (pool.length : Int), rfl, by omega, by omega, fun r r0 r1 => ?_⟩
      walk_at "ev"
      refine ⟨rfl, ⟨r0, r1, by omega⟩, ?_⟩
      have hlt : r.toNat < pool.length := by omega
      rw [List.getElem?_map, List.getElem?_eq_getElem hlt]
      walk_at "ev"
      have e1 : ord.map PyData.int ++ [.int pool[r.toNat]] = (ord ++ [pool[r.toNat]]).map PyData.int := by simp
      have e2 : j - (pre.length : Int) - 1 = j - ((pre ++ [x]).length : Nat) := by rw [List.length_append, List.length_singleton]; omega
      rw [map_erase, e1, e2]
      refine ⟨by omega, hN _ rfl ⟨_, _, _, rfl, ?_, ?_, fun x hx => hpm x ((List.eraseIdx_sublist pool r.toNat).subset hx), fun x hx => ?_⟩⟩
      · rw [List.length_eraseIdx, if_pos hlt, List.length_append, List.length_singleton]
        omega
      · rw [List.length_append, List.length_append, List.length_singleton, List.length_singleton]
        omega
      · rcases List.mem_append.mp hx with hx | hx
        · exact hom x hx
        · simp at hx
          rw [hx]
          exact hpm _ (List.getElem_mem hlt)
    · obtain ⟨pool, ord, y, rfl, hp, ho, hpm, hom⟩ := hP
      rw [lr] at ho ⊢
      have e0 : (many - 0).toNat = many.toNat := by omega
      rw [e0] at ho ⊢
      walk_at "go"
      refine iteB (fun c2 => ?_) (fun c2 => ?_)
      · refine ⟨by omega, ?_⟩
        rw [← List.map_append, cutD_toI z0]
        walk_at "ev"
        refine fin _ _ _ _ _ _ _ (by omega) (fun g hg2 => ?_) ?_ (.inl rfl)
        · rcases List.mem_append.mp (List.mem_of_mem_take hg2) with h | h
          · exact hom g h
          · exact hg g h
        · rw [List.length_take]
          omega
      · have last : ∀ (os : List Int) (j2 : Int), 0 ≤ j2 → os.length = ord.length → (∀ x ∈ os, 1 ≤ x ∧ x ≤ many) → kr__law_ng_shape_2 ⟨[.pu, .fz (.int deep), .fz (.int most), .fz (.int so), .fz (.int many), .fz (.int size), y, .ow true (dI gs), .ow true (dI pool), .ow true (dI os)], [], j2⟩ ⟨fun γ' => kr__law_ng_shape_5 γ' (edP Gq), (edP Gq).rt, (edP Gq).bk, (edP Gq).ct⟩ := fun os j2 hj2 hl3 hos => by
          walk_at "go"
          exact fin os _ _ _ _ _ _ hj2 hos (by omega) (.inl rfl)
        refine iteB (fun c3 => ?_) (fun c3 => last ord _ (by omega) rfl hom)
        have c3 := of_decide_eq_true c3
        refine ⟨⟨by decide, by omega⟩, 3, rfl, by decide, by decide, fun r r0 r1 => ?_⟩
        walk_at "ev"
        refine iteB (fun c4 => ?_) (fun c4 => last ord _ (by omega) rfl hom)
        refine ⟨⟨by decide, by omega⟩, many, rfl, by omega, by omega, fun g g0 g1 => ?_⟩
        walk_at "ev"
        refine ⟨⟨by decide, by omega⟩, many, rfl, by omega, by omega, fun r r0 r1 => ?_⟩
        walk_at "ev"
        refine ⟨by omega, ?_⟩
        have e1 : (ord.map PyData.int).set r.toNat (.int (1 + g)) = (ord.set r.toNat (1 + g)).map PyData.int := List.map_set.symm
        rw [e1]
        refine last _ _ (by omega) (by rw [List.length_set]) fun x hx => ?_
        rcases List.mem_or_eq_of_mem_set hx with hx | rfl
        · exact hom x hx
        · omega
  have seven : ∀ (size j : Int), 400 ≤ j → 0 ≤ size → size ≤ most → (0 < size → 0 < many) → kr__law_ng_shape_7 ⟨[.pu, .fz (.int deep), .fz (.int most), .fz (.int so), .fz (.int many), .fz (.int size), .jk, .jk, .jk, .jk], [], j⟩ (edP Gq) := fun size j hj z0 z1 hs => by
    walk_at "go"
    refine ⟨by omega, ?_⟩
    have lr := rg_length 0 size
    refine lc_inv true (rg 0 size) PyData.int (fun pre acc n => ∃ gs : List Int, acc = gs.map PyData.int ∧ gs.length = pre.length ∧ n = j - pre.length ∧ pre.length ≤ size.toNat ∧ ∀ g ∈ gs, 1 ≤ g ∧ g ≤ many) rfl rfl (fun pre acc n hp => ?_) (fun pre x post acc n Y X hl hp hY hX => ?_) (fun acc n hp => ?_) [] j ⟨[], rfl, rfl, by simp, by simp, by simp⟩
    · obtain ⟨gs, rfl, h1, h2, h3, h4⟩ := hp
      rw [List.length_map]
      omega
    · obtain ⟨gs, rfl, h1, h2, h3, h4⟩ := hp
      have hlen := congrArg List.length hl
      rw [lr, List.length_append, List.length_cons] at hlen
      walk_at "ev"
      refine ⟨⟨by decide, by omega⟩, many, rfl, by omega, by omega, fun g g0 g1 => ?_⟩
      walk_at "ev"
      refine hY _ true (.int (1 + g)) _ rfl rfl ⟨gs ++ [1 + g], by simp, by simp [h1], by rw [List.length_append, List.length_singleton]; omega, by rw [List.length_append, List.length_singleton]; omega, fun y hy => ?_⟩
      rcases List.mem_append.mp hy with hy | hy
      · exact h4 y hy
      · simp at hy
        omega
    · obtain ⟨gs, rfl, h1, h2, h3, h4⟩ := hp
      walk_at "ev"
      exact six gs size n (by omega) z0 z1 h4 (by omega)
  walk_at "go"
  refine iteB (fun c0 => ?_) (fun c0 => ?_)
  · exact ⟨by decide, rfl, fun n gs e l n3 l3 => ⟨by decide, by walk_at "ev"; exact q n gs e l (by omega) (by omega)⟩⟩
  walk_at "go"
  refine iteB (fun c1 => ?_) (fun c1 => seven 0 _ (by decide) (by decide) (by omega) (by omega))
  have c1 := of_decide_eq_true c1
  refine ⟨by decide, most + 1, rfl, by omega, by omega, fun size z0 z1 => ?_⟩
  walk_at "ev"
  exact seven size _ (by decide) z0 (by omega) fun _ => c1
theorem ok__law_ng_shape (p : Prog K mg) : FnG P w K mg base CX0 3 p.f__law_ng_shape p.fd__law_ng_shape ["_law_purse", "_law_deep", "_law_length"] (spP 500 w__law_ng_shape) :=
  okP p.d__law_ng_shape.F sc__law_ng_shape (by decide) ar__law_ng_shape (by decide) (fun cdv A outer s H E hg hr => ⟨_, (pss_cons (ps_asg (pe_tup (pa_cons (pe_callG ((ok__law_coin p).mono (by decide)) hg hr (by rfl) p.d__law_coin.gl p.d__law_coin.kp p.d__law_coin.bd pass0 (pa_cons (pv 0) (pa_cons pe_int pa_nil))) (pa_cons (pe_callG ((ok__law_coin p).mono (by decide)) hg hr (by rfl) p.d__law_coin.gl p.d__law_coin.kp p.d__law_coin.bd pass0 (pa_cons (pv 0) (pa_cons (pe_op op_add (pv 1) pe_int) pa_nil))) pa_nil))) (pg_tup rfl (pgs_cons (pg_name (i := 3) sc__law_ng_shape.nd rfl (Or.inl rfl)) (pgs_cons (pg_name (i := 4) sc__law_ng_shape.nd rfl (Or.inr rfl)) pgs_nil))))
      (pss_cons (ps_if (pt_cmpR op_eq (pv 3) pe_int (nomark _))
      (pss_one (ps_ret (pe_callG ((ok__law_ng_menu p).mono (by decide)) hg hr (by rfl) p.d__law_ng_menu.gl p.d__law_ng_menu.kp p.d__law_ng_menu.bd pass0 (pa_cons (pv 0) pa_nil)))) pss_nil)
      (pss_cons (ps_set (i := 5) sc__law_ng_shape.nd rfl (Or.inl rfl) (pe_ifExp (pt_cmpR op_gt (pv 4) pe_int (nomark _)) (pe_callG ((ok__law_coin p).mono (by decide)) hg hr (by rfl) p.d__law_coin.gl p.d__law_coin.kp p.d__law_coin.bd pass0 (pa_cons (pv 0) (pa_cons (pe_op op_add (pv 2) pe_int) pa_nil))) pe_int))
      (pss_cons (ps_setLc (i := 7) (own := [("_law_turn", 6)]) (g := gName 6) (tt := tYes) rfl sc__law_ng_shape.nd rfl rfl (sw_true rfl rfl rfl (by decide +kernel)) (pi_range1 (by rfl) p.blt.range (pa_cons (pv 5) pa_nil)) (blkOk_by (N := N__law_ng_shape) (sc := defScope s__law_ng_shape) (by decide +kernel)) (fun _ _ _ _ _ => pg_name (i := 6) sc__law_ng_shape.nd rfl (Or.inl rfl)) (fun _ _ _ _ _ => pts_nil) (fun _ _ _ _ _ => (pe_op op_add pe_int (pe_callG ((ok__law_coin p).mono (by decide)) hg hr (by rfl) p.d__law_coin.gl p.d__law_coin.kp p.d__law_coin.bd pass0 (pa_cons (pv 0) (pa_cons (pv 4) pa_nil))))))
      (pss_cons (ps_if (pt_cmpR op_gt (pv 3) pe_int (nomark _))
      (pss_cons (ps_par (i := 8) (j := 9) rfl sc__law_ng_shape.nd rfl rfl (by decide) rfl rfl (pa_cons (pe_listRg rfl (by rfl) p.blt.list (prg_2 (by rfl) p.blt.range pe_int (pe_op op_add (pv 4) pe_int))) (pa_cons (pe_lst pa_nil) pa_nil)) (by rfl))
      (pss_cons (ps_for PassesOwn.never rfl (pi_range1 (by rfl) p.blt.range (pa_cons (pv 4) pa_nil)) (pg_name (i := 6) sc__law_ng_shape.nd rfl (Or.inl rfl))
      (pss_one (ps_expr (pe_bm PySem.F.plainAttrs_list PySem.F.slot_list_append PySem.F.type_list_append mt_append (pv 9) (pa_cons (pe_bm PySem.F.plainAttrs_list PySem.F.slot_list_pop PySem.F.type_list_pop mt_popAt (pv 8) (pa_cons (pe_callG ((ok__law_coin p).mono (by decide)) hg hr (by rfl) p.d__law_coin.gl p.d__law_coin.kp p.d__law_coin.bd pass0 (pa_cons (pv 0) (pa_cons (pe_callB call_len_seq (by rfl) p.blt.len PySem.boot_len (pa_cons (pv 8) pa_nil)) pa_nil))) pa_nil)) pa_nil)))))
      (pss_one (ps_if (pt_cmpR op_eq (pv 3) pe_int (nomark _))
      (pss_one (ps_set (i := 7) sc__law_ng_shape.nd rfl (Or.inl rfl) (pe_slice sl_list (pe_op op_cat (pv 9) (pv 7)) po_none (po_some (pv 5))))) (pss_cons (ps_if (PW.pt (pw_and (pt_cmpR op_gt (pv 4) pe_int (nomark _)) (pw_and1 (pt_cmpR op_eq (pe_callG ((ok__law_coin p).mono (by decide)) hg hr (by rfl) p.d__law_coin.gl p.d__law_coin.kp p.d__law_coin.bd pass0 (pa_cons (pv 0) (pa_cons pe_int pa_nil))) pe_int (nomark _)))))
      (pss_one (ps_asg (pe_op op_add pe_int (pe_callG ((ok__law_coin p).mono (by decide)) hg hr (by rfl) p.d__law_coin.gl p.d__law_coin.kp p.d__law_coin.bd pass0 (pa_cons (pv 0) (pa_cons (pv 4) pa_nil)))) (pg_sub (pv 9) (pe_callG ((ok__law_coin p).mono (by decide)) hg hr (by rfl) p.d__law_coin.gl p.d__law_coin.kp p.d__law_coin.bd pass0 (pa_cons (pv 0) (pa_cons (pv 4) pa_nil))) set_list))) pss_nil)
      (pss_one (ps_set (i := 7) sc__law_ng_shape.nd rfl (Or.inl rfl) (pv 9)))))))) pss_nil)
      (pss_one (ps_ret (pe_callG ((ok__law_ng_least p).mono (by decide)) hg hr (by rfl) p.d__law_ng_least.gl p.d__law_ng_least.kp p.d__law_ng_least.bd pass0 (pa_cons (pv 4) (pa_cons (pv 7) pa_nil)))))))))),
    fun C xc => (so_seq (so_asg (so_tup (so_cons (so_callP (so_cons (so_var (i := 0)) (so_cons (so_c (sca_int _)) so_nil))) (so_cons (so_callP (so_cons (so_var (i := 0)) (so_cons (so_op sr_I0 (so_var (i := 1)) (so_c (sca_int _))) so_nil))) so_nil))) (so_gtup (so_gcons (so_gname (i := 3)) (so_gcons (so_gname (i := 4)) so_gnil))))
      (so_seq (so_ifS (so_test (so_op sr_eq (so_var (i := 3)) (so_c (sca_int _))))
      (so_ret (so_callP (so_cons (so_var (i := 0)) so_nil))) so_next)
      (so_seq (so_asg (so_if (so_test (so_op sr_B (so_var (i := 4)) (so_c (sca_int _)))) (so_callP (so_cons (so_var (i := 0)) (so_cons (so_op sr_I0 (so_var (i := 2)) (so_c (sca_int _))) so_nil))) (so_c (sca_int _))) (so_gname (i := 5)))
      (so_seq (so_asg (so_lc (so_rng1 (so_var (i := 5))) so_yes (so_op sr_I0 (so_c (sca_int _)) (so_callP (so_cons (so_var (i := 0)) (so_cons (so_var (i := 4)) so_nil))))) (so_gname (i := 7)))
      (so_seq (so_ifS (so_test (so_op sr_B (so_var (i := 3)) (so_c (sca_int _))))
      (so_seq (so_par (i := 8) (j := 9) (by decide) (so_cons (so_listRg2 (so_c (sca_int _)) (so_op sr_I0 (so_var (i := 4)) (so_c (sca_int _)))) (so_cons (so_lit_lst so_lits_nil) so_nil)))
      (so_seq (so_for (so_rng1 (so_var (i := 4))) (so_gname (i := 6))
      (so_drop (so_app (so_var (i := 9)) (so_popAt (so_var (i := 8)) (so_callP (so_cons (so_var (i := 0)) (so_cons (so_f sc_len (so_cons (so_var (i := 8)) so_nil)) so_nil)))))))
      (so_ifS (so_test (so_op sr_eq (so_var (i := 3)) (so_c (sca_int _))))
      (so_asg (so_sl (so_cat (so_var (i := 9)) (so_var (i := 7))) so_no (so_part (so_var (i := 5)))) (so_gname (i := 7))) (so_seq (so_ifS (so_tand (so_test (so_op sr_B (so_var (i := 4)) (so_c (sca_int _)))) (so_test (so_op sr_eq (so_callP (so_cons (so_var (i := 0)) (so_cons (so_c (sca_int _)) so_nil))) (so_c (sca_int _)))))
      (so_asg (so_op sr_I0 (so_c (sca_int _)) (so_callP (so_cons (so_var (i := 0)) (so_cons (so_var (i := 4)) so_nil)))) (so_gsub (so_var (i := 9)) (so_callP (so_cons (so_var (i := 0)) (so_cons (so_var (i := 4)) so_nil))))) so_next)
      (so_asg (so_mov (i := 9)) (so_gname (i := 7))))))) so_next)
      (so_ret (so_callT (so_cons (so_var (i := 4)) (so_cons (so_var (i := 7)) so_nil)))))))))⟩) val__law_ng_shape
def w__law_ng_copy : Tw := fun ds Q => ∃ e : Int × List Int, ds = [dE e] ∧ Q (dE e)
theorem ar__law_ng_copy : ∀ ds G, w__law_ng_copy ds G → ds.length = 1 := by
  rintro ds G ⟨e, rfl, _⟩
  rfl
def k__law_ng_copy : KS := (kRet (kMk false 2 (kCons (kIx false (kVar 0) (kC (.int 0))) (kCons (kListOf (kCons (kIx false (kVar 0) (kC (.int 1))) kNil)) kNil))))
theorem val__law_ng_copy : ∀ ds G, w__law_ng_copy ds G → k__law_ng_copy ⟨ds.map Sl.fz ++ [], [], 0⟩ (edT G) := by
  rintro ds Gq ⟨e, rfl, q⟩
  unfold k__law_ng_copy
  walk_at "ev"
  exact q
theorem ok__law_ng_copy (p : Prog K mg) : FnG P w K mg base CX0 1 p.f__law_ng_copy p.fd__law_ng_copy ["_law_shape"] (spT w__law_ng_copy) :=
  okT p.d__law_ng_copy.F sc__law_ng_copy (by decide) ar__law_ng_copy (fun cdv A outer s H E hg hr => ⟨_, (pss_one (ps_ret (pe_tup (pa_cons (pe_ix ix_tup (pv 0) pe_int (fun _ _ => rfl)) (pa_cons (pe_callTy call_list_of (by rfl) p.blt.list (by decide +kernel) (pa_cons (pe_ix ix_tup (pv 0) pe_int (fun _ _ => rfl)) pa_nil)) pa_nil))))),
    fun C xc => (so_ret (so_tup (so_cons (so_ixT (so_var (i := 0)) (so_c (sca_int _))) (so_cons (so_listOf (so_cons (so_ixT (so_var (i := 0)) (so_c (sca_int _))) so_nil)) so_nil))))⟩) val__law_ng_copy
def w__law_ng_is : Tw := fun ds Q => ∃ d e : D, ds = [d, e] ∧ d = e ∧ Sh 60 10000000 d ∧ Q (.bool true)
theorem ar__law_ng_is : ∀ ds G, w__law_ng_is ds G → ds.length = 2 := by
  rintro ds G ⟨d, e, rfl, _⟩
  rfl
def k__law_ng_is : KS := (kRet (kOp (vEq false) (kF 1 vRepr (kCons (kVar 0) kNil)) (kF 1 vRepr (kCons (kVar 1) kNil))))
theorem val__law_ng_is : ∀ ds G, w__law_ng_is ds G → k__law_ng_is ⟨ds.map Sl.fz ++ [], [], 0⟩ (edT G) := by
  rintro ds Gq ⟨d, e, rfl, rfl, sh, q⟩
  unfold k__law_ng_is
  walk_at "ev"
  exact ⟨sh.sh, sh.dp, sh.wd, sh.sh, sh.dp, sh.wd, by simpa using q⟩
theorem ok__law_ng_is (p : Prog K mg) : FnG P w K mg base CX0 1 p.f__law_ng_is p.fd__law_ng_is ["_law_found", "_law_due"] (spT w__law_ng_is) :=
  okT p.d__law_ng_is.F sc__law_ng_is (by decide) ar__law_ng_is (fun cdv A outer s H E hg hr => ⟨_, (pss_one (ps_ret (pe_cmpR op_eq (pe_callB (cr_repr hg hr.units) (by rfl) p.blt.repr (by decide +kernel) (pa_cons (pv 0) pa_nil)) (pe_callB (cr_repr hg hr.units) (by rfl) p.blt.repr (by decide +kernel) (pa_cons (pv 1) pa_nil)) (nomark _)))),
    fun C xc => (so_ret (so_op sr_eq (so_f sc_repr (so_cons (so_var (i := 0)) so_nil)) (so_f sc_repr (so_cons (so_var (i := 1)) so_nil))))⟩) val__law_ng_is
/-- what is no effect -/
def w__law_ng_bad : Tw := fun ds Q => ds = [] ∧ ∀ n gs, n ≤ 6 → n.natAbs ≤ 10000000000000000000000000000001 → gs.length ≤ 20 → (∀ x ∈ gs, x.natAbs ≤ 10000000000000000000000000000001) → ¬ Eff (n, gs) → Q (dE (n, gs))
theorem ar__law_ng_bad : ∀ ds G, w__law_ng_bad ds G → ds.length + 1 = 1 := by
  rintro ds G ⟨rfl, _⟩
  rfl
def kr__law_ng_bad_1 : KS := (kDrop (kIns (kVar 2) (kCallP 1 w__law_coin 1 (kCons (kVar 0) (kCons (kOp (vI noC fun i j => i + j) (kF 1 vLen (kCons (kVar 2) kNil)) (kC (.int 1))) kNil))) (kVar 5)))
def kb__law_ng_bad_2 : KS := (kSeq (kAsg (kIx true (kMk true 5 (kCons (kC (.int 0)) (kCons (kC (.int 0)) (kCons (kOp (vI noC fun i j => i - j) (kUn vNeg (kC (.int 1))) (kCallP 1 w__law_coin 1 (kCons (kVar 0) (kCons (kC (.int 9)) kNil)))) (kCons (kOp (vI noC fun i j => i + j) (kOp (vI noC fun i j => i + j) (kVar 1) (kC (.int 1))) (kCallP 1 w__law_coin 1 (kCons (kVar 0) (kCons (kC (.int 9)) kNil)))) (kCons (kOp (vI CPowW fun i j => i ^ j.toNat) (kC (.int 10)) (kC (.int 30))) kNil)))))) (kVar 3)) (kgName 5))
  kr__law_ng_bad_1)
def kr__law_ng_bad_3 : KS := (kRet (kMk false 2 (kCons (kVar 1) (kCons (kMov 2) kNil))))
def kr__law_ng_bad_4 : KS := (kSeq (kFor (kRng1 (kOp (vI noC fun i j => i + j) (kC (.int 1)) (kCallP 1 w__law_coin 1 (kCons (kVar 0) (kCons (kC (.int 3)) kNil))))) (kgName 4) kb__law_ng_bad_2)
  kr__law_ng_bad_3)
def kr__law_ng_bad_5 : KS := (kSeq (kIfS (kTest (kOp (vEq false) (kVar 3) (kC (.int 0))))
  (kRet (kMk false 2 (kCons (kOp (vI noC fun i j => i - j) (kUn vNeg (kC (.int 1))) (kCallP 2 w__law_ng_number 1 (kCons (kVar 0) (kCons (kOp (vI CPowW fun i j => i ^ j.toNat) (kC (.int 10)) (kC (.int 30))) kNil)))) (kCons (kLc (kRng1 (kCallP 1 w__law_coin 1 (kCons (kVar 0) (kCons (kC (.int 2)) kNil)))) 4 kYes (kC (.int 1))) kNil))))
  kNext)
  kr__law_ng_bad_4)
def kr__law_ng_bad_6 : KS := (kSeq (kAsg (kCallP 1 w__law_coin 1 (kCons (kVar 0) (kCons (kC (.int 5)) kNil))) (kgName 3))
  kr__law_ng_bad_5)
def k__law_ng_bad : KS := (kSeq (kAsg (kCallP 500 w__law_ng_shape 2 (kCons (kVar 0) (kCons (kC (.int 6)) (kCons (kC (.int 5)) kNil)))) (kgTup 2 (kgCons (kgName 1) (kgCons (kgName 2) kgNil))))
  kr__law_ng_bad_6)
local macro_rules | `(tactic| walk_at "go") => `(tactic| ((first | unfold kr__law_ng_bad_1 | unfold kr__law_ng_bad_3 | unfold kr__law_ng_bad_4 | unfold kr__law_ng_bad_5 | unfold kr__law_ng_bad_6); walk_at "ev"))
theorem val__law_ng_bad : ∀ ds G, w__law_ng_bad ds G → k__law_ng_bad ⟨.pu :: (ds.map Sl.fz ++ [.jk, .jk, .jk, .jk, .jk]), [], 800⟩ (edP G) := by
  rintro ds Gq ⟨rfl, q⟩
  have c30 : CPowW 10 30 := by unfold CPowW; decide
  have e30 : (10 : Int) ^ (30 : Int).toNat = 1000000000000000000000000000000 := by decide
  unfold k__law_ng_bad
  walk_at "ev"
  refine ⟨by decide, 6, 5, rfl, by decide, by decide, by decide, by decide, fun n gs ef lf hn hl => ?_⟩
  have n0 : 0 ≤ n := ef.nn
  have n6 : n ≤ 6 := by omega
  have l6 : gs.length ≤ 6 := by omega
  clear hn hl lf
  walk_at "ev"
  walk_at "go"
  refine ⟨by decide, 5, rfl, by decide, by decide, fun so s0 s1 => ?_⟩
  walk_at "ev"
  walk_at "go"
  refine iteB (fun c0 => ?_) (fun c0 => ?_)
  · refine ⟨c30, by decide, _, rfl, by rw [e30]; decide, by rw [e30]; decide, fun x x0 x1 => ?_⟩
    rw [e30] at x1
    walk_at "ev"
    refine ⟨by decide, 2, rfl, by decide, by decide, fun y y0 y1 => ?_⟩
    walk_at "ev"
    have lr := rg_length 0 y
    refine ⟨by omega, ?_⟩
    refine lc_ints' (rg 0 y) (fun _ => 1) rfl rfl (by omega) (fun x hx acc Y hY => ?_) ?_
    · walk_at "ev"
      exact hY
    · walk_at "ev"
      refine ⟨by decide, ?_⟩
      refine q (-1 - x) ((rg 0 y).map fun _ => 1) (by omega) (by omega) (by rw [List.length_map]; omega) (fun z hz => ?_) fun e => ?_
      · obtain ⟨_, _, rfl⟩ := List.mem_map.mp hz
        decide
      · have := e.nn
        dsimp only at this
        omega
  have so1 : 1 ≤ so := by have := of_decide_eq_false c0; omega
  refine ⟨⟨by decide, by show (1 : Int) ≤ 299; decide⟩, 3, rfl, by decide, by decide, fun r r0 r1 => ?_⟩
  walk_at "ev"
  refine ⟨by omega, ?_⟩
  have lr := rg_length 0 (1 + r)
  refine forL_ints (rg 0 (1 + r)) (fun pre γ => ∃ (hs : List Int) (y z : Sl), γ = ⟨[.pu, .fz (.int n), .ow true (dI hs), .fz (.int so), y, z], [], 298 - 3 * pre.length⟩ ∧ hs.length = gs.length + pre.length ∧ (∀ x ∈ hs, x.natAbs ≤ 10000000000000000000000000000001) ∧ (pre ≠ [] → ∃ x ∈ hs, x < 1 ∨ n < x)) (fun pre x post γ N hl2 ht hP hN => ?_) (fun γ ht hP => ?_) _ rfl ⟨gs, .jk, .jk, rfl, by simp, fun x hx => by have := ef.ge x hx; have := ef.le x hx; omega, fun z => absurd rfl z⟩
  · obtain ⟨hs, y, z, rfl, h1, h2, h3⟩ := hP
    have hlen := congrArg List.length hl2
    rw [lr, List.length_append, List.length_cons] at hlen
    unfold kb__law_ng_bad_2
    walk_at "ev"
    refine ⟨⟨by decide, by omega⟩, 9, rfl, by decide, by decide, fun a a0 a1 => ?_⟩
    walk_at "ev"
    refine ⟨⟨by decide, by omega⟩, 9, rfl, by decide, by decide, fun b b0 b1 => ?_⟩
    walk_at "ev"
    refine ⟨c30, ?_⟩
    rw [e30]
    refine ixD_any (by omega) (by simp; omega) fun o ho => ?_
    obtain ⟨o', rfl, ho', hb⟩ : ∃ o' : Int, o = .int o' ∧ o'.natAbs ≤ 10000000000000000000000000000001 ∧ (o' < 1 ∨ n < o') := by
      have z : so = 1 ∨ so = 2 ∨ so = 3 ∨ so = 4 := by omega
      rcases z with rfl | rfl | rfl | rfl <;> (simp at ho; exact ⟨_, ho.symm, by omega, by omega⟩)
    walk_at "ev"
    walk_at "go"
    refine ⟨⟨by decide, by omega⟩, (hs.length : Int) + 1, rfl, by omega, by omega, fun g g0 g1 => ?_⟩
    walk_at "ev"
    refine ⟨⟨by omega, g0, by omega⟩, ?_⟩
    have e6 : (hs.map PyData.int).take g.toNat ++ [PyData.int o'] ++ (hs.map PyData.int).drop g.toNat = (hs.take g.toNat ++ [o'] ++ hs.drop g.toNat).map PyData.int := by simp [List.map_take, List.map_drop]
    rw [e6]
    have l3 : (hs.take g.toNat).length + (hs.drop g.toNat).length = hs.length := by rw [List.length_take, List.length_drop]; omega
    refine hN _ rfl ⟨hs.take g.toNat ++ [o'] ++ hs.drop g.toNat, .fz (.int x), .fz (.int o'), ?_, ?_, fun w hw => ?_, fun _ => ⟨o', by simp, hb⟩⟩
    · rw [List.length_append, List.length_singleton]
      congr 1
      omega
    · simp only [List.length_append, List.length_singleton]
      omega
    · rcases List.mem_append.mp hw with hw | hw
      · rcases List.mem_append.mp hw with hw | hw
        · exact h2 w (List.mem_of_mem_take hw)
        · rw [List.mem_singleton.mp hw]
          exact ho'
      · exact h2 w (List.mem_of_mem_drop hw)
  · obtain ⟨hs, y, z, rfl, h1, h2, h3⟩ := hP
    rw [lr] at h1 ⊢
    have l1 : (rg 0 (1 + r)) ≠ [] := fun z => by rw [z] at lr; simp at lr; omega
    walk_at "go"
    refine ⟨by omega, q n hs n6 (by omega) (by omega) h2 fun e => ?_⟩
    obtain ⟨x, hx, hb⟩ := h3 l1
    have := e.ge x hx
    have := e.le x hx
    dsimp only at this
    omega
theorem ok__law_ng_bad (p : Prog K mg) : FnG P w K mg base CX0 4 p.f__law_ng_bad p.fd__law_ng_bad ["_law_purse"] (spP 800 w__law_ng_bad) :=
  okP p.d__law_ng_bad.F sc__law_ng_bad (by decide) ar__law_ng_bad (by decide) (fun cdv A outer s H E hg hr => ⟨_, (pss_cons (ps_asg (pe_callG ((ok__law_ng_shape p).mono (by decide)) hg hr (by rfl) p.d__law_ng_shape.gl p.d__law_ng_shape.kp p.d__law_ng_shape.bd pass0 (pa_cons (pv 0) (pa_cons pe_int (pa_cons pe_int pa_nil)))) (pg_tup rfl (pgs_cons (pg_name (i := 1) sc__law_ng_bad.nd rfl (Or.inl rfl)) (pgs_cons (pg_name (i := 2) sc__law_ng_bad.nd rfl (Or.inl rfl)) pgs_nil))))
      (pss_cons (ps_set (i := 3) sc__law_ng_bad.nd rfl (Or.inl rfl) (pe_callG ((ok__law_coin p).mono (by decide)) hg hr (by rfl) p.d__law_coin.gl p.d__law_coin.kp p.d__law_coin.bd pass0 (pa_cons (pv 0) (pa_cons pe_int pa_nil))))
      (pss_cons (ps_if (pt_cmpR op_eq (pv 3) pe_int (nomark _))
      (pss_one (ps_ret (pe_tup (pa_cons (pe_op op_sub (pe_un un_neg pe_int) (pe_callG ((ok__law_ng_number p).mono (by decide)) hg hr (by rfl) p.d__law_ng_number.gl p.d__law_ng_number.kp p.d__law_ng_number.bd pass0 (pa_cons (pv 0) (pa_cons (pe_op op_powW pe_int pe_int) pa_nil)))) (pa_cons (pe_lc (own := [("_law_turn", 4)]) (g := gName 4) (tt := tYes) rfl sc__law_ng_bad.nd (pi_range1 (by rfl) p.blt.range (pa_cons (pe_callG ((ok__law_coin p).mono (by decide)) hg hr (by rfl) p.d__law_coin.gl p.d__law_coin.kp p.d__law_coin.bd pass0 (pa_cons (pv 0) (pa_cons pe_int pa_nil))) pa_nil)) (blkOk_by (N := N__law_ng_bad) (sc := defScope s__law_ng_bad) (by decide +kernel)) (fun _ _ _ _ _ => pg_name (i := 4) sc__law_ng_bad.nd rfl (Or.inl rfl)) (fun _ _ _ _ _ => pts_nil) (fun _ _ _ _ _ => pe_int)) pa_nil))))) pss_nil)
      (pss_cons (ps_for PassesOwn.never rfl (pi_range1 (by rfl) p.blt.range (pa_cons (pe_op op_add pe_int (pe_callG ((ok__law_coin p).mono (by decide)) hg hr (by rfl) p.d__law_coin.gl p.d__law_coin.kp p.d__law_coin.bd pass0 (pa_cons (pv 0) (pa_cons pe_int pa_nil)))) pa_nil)) (pg_name (i := 4) sc__law_ng_bad.nd rfl (Or.inl rfl))
      (pss_cons (ps_set (i := 5) sc__law_ng_bad.nd rfl (Or.inl rfl) (pe_ix ix_list (pe_lst (pa_cons pe_int (pa_cons pe_int (pa_cons (pe_op op_sub (pe_un un_neg pe_int) (pe_callG ((ok__law_coin p).mono (by decide)) hg hr (by rfl) p.d__law_coin.gl p.d__law_coin.kp p.d__law_coin.bd pass0 (pa_cons (pv 0) (pa_cons pe_int pa_nil)))) (pa_cons (pe_op op_add (pe_op op_add (pv 1) pe_int) (pe_callG ((ok__law_coin p).mono (by decide)) hg hr (by rfl) p.d__law_coin.gl p.d__law_coin.kp p.d__law_coin.bd pass0 (pa_cons (pv 0) (pa_cons pe_int pa_nil)))) (pa_cons (pe_op op_powW pe_int pe_int) pa_nil)))))) (pv 3) (fun _ _ => rfl)))
      (pss_one (ps_expr (pe_bm PySem.F.plainAttrs_list PySem.F.slot_list_insert PySem.F.type_list_insert mt_insert (pv 2) (pa_cons (pe_callG ((ok__law_coin p).mono (by decide)) hg hr (by rfl) p.d__law_coin.gl p.d__law_coin.kp p.d__law_coin.bd pass0 (pa_cons (pv 0) (pa_cons (pe_op op_add (pe_callB call_len_seq (by rfl) p.blt.len PySem.boot_len (pa_cons (pv 2) pa_nil)) pe_int) pa_nil))) (pa_cons (pv 5) pa_nil)))))))
      (pss_one (ps_ret (pe_tup (pa_cons (pv 1) (pa_cons (pv 2) pa_nil))))))))),
    fun C xc => (so_seq (so_asg (so_callP (so_cons (so_var (i := 0)) (so_cons (so_c (sca_int _)) (so_cons (so_c (sca_int _)) so_nil)))) (so_gtup (so_gcons (so_gname (i := 1)) (so_gcons (so_gname (i := 2)) so_gnil))))
      (so_seq (so_asg (so_callP (so_cons (so_var (i := 0)) (so_cons (so_c (sca_int _)) so_nil))) (so_gname (i := 3)))
      (so_seq (so_ifS (so_test (so_op sr_eq (so_var (i := 3)) (so_c (sca_int _))))
      (so_ret (so_tup (so_cons (so_op sr_I0 (so_neg (so_c (sca_int _))) (so_callP (so_cons (so_var (i := 0)) (so_cons (so_op sr_I (so_c (sca_int _)) (so_c (sca_int _))) so_nil)))) (so_cons (so_lc (so_rng1 (so_callP (so_cons (so_var (i := 0)) (so_cons (so_c (sca_int _)) so_nil)))) so_yes (so_c (sca_int _))) so_nil)))) so_next)
      (so_seq (so_for (so_rng1 (so_op sr_I0 (so_c (sca_int _)) (so_callP (so_cons (so_var (i := 0)) (so_cons (so_c (sca_int _)) so_nil))))) (so_gname (i := 4))
      (so_seq (so_asg (so_ixL (so_lst (so_cons (so_c (sca_int _)) (so_cons (so_c (sca_int _)) (so_cons (so_op sr_I0 (so_neg (so_c (sca_int _))) (so_callP (so_cons (so_var (i := 0)) (so_cons (so_c (sca_int _)) so_nil)))) (so_cons (so_op sr_I0 (so_op sr_I0 (so_var (i := 1)) (so_c (sca_int _))) (so_callP (so_cons (so_var (i := 0)) (so_cons (so_c (sca_int _)) so_nil)))) (so_cons (so_op sr_I (so_c (sca_int _)) (so_c (sca_int _))) so_nil)))))) (so_var (i := 3))) (so_gname (i := 5)))
      (so_drop (so_ins (so_var (i := 2)) (so_callP (so_cons (so_var (i := 0)) (so_cons (so_op sr_I0 (so_f sc_len (so_cons (so_var (i := 2)) so_nil)) (so_c (sca_int _))) so_nil))) (so_var (i := 5))))))
      (so_ret (so_tup (so_cons (so_var (i := 1)) (so_cons (so_mov (i := 2)) so_nil))))))))⟩) val__law_ng_bad
def clsT (p : Prog K mg) : Nat → Addr
  | 0 => p.C_InvalidEffect
  | 1 => p.C_InvalidNumber
  | _ => p.C_InvalidPlace
/-- the first fault -/
noncomputable def faT (w : Int) (e : Int × List Int) (k r s : Int) : Option (Nat × D) :=
  open Classical in
  if ¬ Eff e then some (0, dE e) else if (w = 0 ∨ w = 1 ∨ w = 3 ∨ w = 4) ∧ k < 0 then some (1, .int k) else if (w = 1 ∨ w = 2 ∨ w = 4 ∨ w = 5 ∨ w = 6 ∨ w = 7) ∧ r < 1 then some (2, .int r) else if w = 7 ∧ s < 1 then some (2, .int s) else none
theorem faT_eff {w : Int} {e : Int × List Int} {k r s : Int} (h : ¬ Eff e) : faT w e k r s = some (0, dE e) := by
  unfold faT
  rw [if_pos h]
theorem faT_num {w : Int} {e : Int × List Int} {k r s : Int} (h : Eff e) (hw : w = 0 ∨ w = 1 ∨ w = 3 ∨ w = 4) (hk : k < 0) : faT w e k r s = some (1, .int k) := by
  unfold faT
  rw [if_neg (fun z => z h), if_pos ⟨hw, hk⟩]
theorem faT_plc {w : Int} {e : Int × List Int} {k r s : Int} (h : Eff e) (hk : (w = 0 ∨ w = 1 ∨ w = 3 ∨ w = 4) → 0 ≤ k) (hw : w = 1 ∨ w = 2 ∨ w = 4 ∨ w = 5 ∨ w = 6 ∨ w = 7) (hr : r < 1) : faT w e k r s = some (2, .int r) := by
  unfold faT
  rw [if_neg (fun z => z h), if_neg (fun z => by have := hk z.1; omega), if_pos ⟨hw, hr⟩]
theorem faT_snd {e : Int × List Int} {k r s : Int} (h : Eff e) (hr : 1 ≤ r) (hs : s < 1) : faT 7 e k r s = some (2, .int s) := by
  unfold faT
  rw [if_neg (fun z => z h), if_neg (by omega), if_neg (by omega), if_pos ⟨rfl, hs⟩]
theorem faT_none {w : Int} {e : Int × List Int} {k r s : Int} (h : Eff e) (hk : (w = 0 ∨ w = 1 ∨ w = 3 ∨ w = 4) → 0 ≤ k) (hr : (w = 1 ∨ w = 2 ∨ w = 4 ∨ w = 5 ∨ w = 6 ∨ w = 7) → 1 ≤ r) (hs : w = 7 → 1 ≤ s) : faT w e k r s = none := by
  unfold faT
  rw [if_neg (fun z => z h), if_neg (fun z => by have := hk z.1; omega), if_neg (fun z => by have := hr z.1; omega), if_neg (fun z => by have := hs z.1; omega)]
/-- what a right question is answered -/
def AnsT (w : Int) (e : Int × List Int) (k r s : Int) (d : D) : Prop := Sh 10 2000000 d ∧
  ((w = 0 ∧ d = dE (powE (leastE e.1 e.2) k.toNat)) ∨ (w = 1 ∧ d = .int (itE e k.toNat r)) ∨
  (w = 2 ∧ ∃ (h L : Nat) (g : Int), Tell (fun t => itE e t r) h L g ∧ d = .tuple [dI ((List.range h).map fun t => itE e t r), dI ((List.range L).map fun j => itE e (h + j) r), .int g]) ∨
  (w = 3 ∧ d = .tuple [.int (powE (leastE e.1 e.2) k.toNat).1, .int (powE (leastE e.1 e.2) k.toNat).2.length]) ∨
  (w = 4 ∧ ∃ c : Nat, HC e k.toNat r c ∧ d = .int c) ∨
  (w = 5 ∧ ∃ (S : Nat) (low : Int) (h L : Nat) (g : Int), UpOk (leastE e.1 e.2) r S low ∧ Tell (cV (leastE e.1 e.2) S low) h L g ∧ d = .tuple [dI ((List.range h).map (cV (leastE e.1 e.2) S low)), dI ((List.range L).map fun j => cV (leastE e.1 e.2) S low (h + j)), .int g]) ∨
  (w = 6 ∧ ∃ o, GN e r o ∧ d = oD o) ∨ (w = 7 ∧ ∃ o, MI e r s o ∧ d = oD o) ∨ (8 ≤ w ∧ ∃ o, CO (leastE e.1 e.2) o ∧ d = caD o))
theorem AnsT.uniq {w : Int} {e : Int × List Int} {k r s : Int} {d d' : D} (x : AnsT w e k r s d) (y : AnsT w e k r s d') : d = d' := by
  obtain ⟨_, x⟩ := x
  obtain ⟨_, y⟩ := y
  rcases x with ⟨rfl, rfl⟩ | ⟨rfl, rfl⟩ | ⟨rfl, h, L, g, x, rfl⟩ | ⟨rfl, rfl⟩ | ⟨rfl, c, x, rfl⟩ | ⟨rfl, S, low, h, L, g, u, x, rfl⟩ | ⟨rfl, o, x, rfl⟩ | ⟨rfl, o, x, rfl⟩ | ⟨hw, o, x, rfl⟩
  · rcases y with ⟨_, rfl⟩ | ⟨z, _⟩ | ⟨z, _⟩ | ⟨z, _⟩ | ⟨z, _⟩ | ⟨z, _⟩ | ⟨z, _⟩ | ⟨z, _⟩ | ⟨z, _⟩
    · rfl
    all_goals omega
  · rcases y with ⟨z, _⟩ | ⟨_, rfl⟩ | ⟨z, _⟩ | ⟨z, _⟩ | ⟨z, _⟩ | ⟨z, _⟩ | ⟨z, _⟩ | ⟨z, _⟩ | ⟨z, _⟩
    · omega
    · rfl
    all_goals omega
  · rcases y with ⟨z, _⟩ | ⟨z, _⟩ | ⟨_, h', L', g', y, rfl⟩ | ⟨z, _⟩ | ⟨z, _⟩ | ⟨z, _⟩ | ⟨z, _⟩ | ⟨z, _⟩ | ⟨z, _⟩
    · omega
    · omega
    · obtain ⟨rfl, rfl, rfl⟩ := x.uniq y
      rfl
    all_goals omega
  · rcases y with ⟨z, _⟩ | ⟨z, _⟩ | ⟨z, _⟩ | ⟨_, rfl⟩ | ⟨z, _⟩ | ⟨z, _⟩ | ⟨z, _⟩ | ⟨z, _⟩ | ⟨z, _⟩
    · omega
    · omega
    · omega
    · rfl
    all_goals omega
  · rcases y with ⟨z, _⟩ | ⟨z, _⟩ | ⟨z, _⟩ | ⟨z, _⟩ | ⟨_, c', y, rfl⟩ | ⟨z, _⟩ | ⟨z, _⟩ | ⟨z, _⟩ | ⟨z, _⟩
    · omega
    · omega
    · omega
    · omega
    · rw [x.uniq y]
    all_goals omega
  · rcases y with ⟨z, _⟩ | ⟨z, _⟩ | ⟨z, _⟩ | ⟨z, _⟩ | ⟨z, _⟩ | ⟨_, S', low', h', L', g', u', y, rfl⟩ | ⟨z, _⟩ | ⟨z, _⟩ | ⟨z, _⟩
    · omega
    · omega
    · omega
    · omega
    · omega
    · obtain ⟨rfl, rfl⟩ := u.uniq u'
      obtain ⟨rfl, rfl, rfl⟩ := x.uniq y
      rfl
    all_goals omega
  · rcases y with ⟨z, _⟩ | ⟨z, _⟩ | ⟨z, _⟩ | ⟨z, _⟩ | ⟨z, _⟩ | ⟨z, _⟩ | ⟨_, o', y, rfl⟩ | ⟨z, _⟩ | ⟨z, _⟩
    · omega
    · omega
    · omega
    · omega
    · omega
    · omega
    · rw [x.uniq y]
    all_goals omega
  · rcases y with ⟨z, _⟩ | ⟨z, _⟩ | ⟨z, _⟩ | ⟨z, _⟩ | ⟨z, _⟩ | ⟨z, _⟩ | ⟨z, _⟩ | ⟨_, o', y, rfl⟩ | ⟨z, _⟩
    · omega
    · omega
    · omega
    · omega
    · omega
    · omega
    · omega
    · rw [x.uniq y]
    · omega
  · rcases y with ⟨z, _⟩ | ⟨z, _⟩ | ⟨z, _⟩ | ⟨z, _⟩ | ⟨z, _⟩ | ⟨z, _⟩ | ⟨z, _⟩ | ⟨z, _⟩ | ⟨_, o', y, rfl⟩
    · omega
    · omega
    · omega
    · omega
    · omega
    · omega
    · omega
    · omega
    · rw [x.uniq y]
theorem sh_oD {o : Option Nat} (h : MB o) : Sh 10 2000000 (oD o) := by
  cases o with
  | none => exact sh_none.mono (by decide) (by decide)
  | some t =>
    have e121 : (2 : Int) ^ 121 = 2658455991569831745807614120560689152 := by decide
    have := h t rfl
    exact (sh_int (by omega)).mono (by decide) (by decide)
structure BdT (e : Int × List Int) (k r s : Int) : Prop where
  n : e.1 ≤ 6
  l : e.2.length ≤ 1000
  l8 : Eff e → e.2.length ≤ 8
  k : k ≤ 40
  r : r ≤ 60
  s : s ≤ 60
def w__law_ng_ask (p : Prog K mg) : TwX := fun ds G X => ∃ w e k r s, ds = [.int w, dE e, .int k, .int r, .int s] ∧ 0 ≤ w ∧ w ≤ 8 ∧ BdT e k r s ∧ (faT w e k r s = none → ∀ d, AnsT w e k r s d → G d) ∧ ∀ c d, faT w e k r s = some (c, d) → X (clsT p c) d
theorem ar__law_ng_ask (p : Prog K mg) : ∀ ds G X, w__law_ng_ask p ds G X → ds.length = 5 := by
  rintro ds G X ⟨w, e, k, r, s, rfl, _⟩
  rfl
def kxr__law_ng_ask_1 (p : Prog K mg) (x : XH) : KS := (kRet (kIf (kTest (kOp (vEq false) (kVar 0) (kC (.int 7)))) (kCallX x (W_merged_after p) 3 (kCons (kVar 1) (kCons (kVar 3) (kCons (kVar 4) kNil)))) (kCallX x (W_comes_again p) 1 (kCons (kVar 1) kNil))))
def kxr__law_ng_ask_2 (p : Prog K mg) (x : XH) : KS := (kSeq (kIfS (kTest (kOp (vEq false) (kVar 0) (kC (.int 6))))
  (kRet (kCallX x (W_lost_after p) 2 (kCons (kVar 1) (kCons (kVar 3) kNil))))
  kNext)
  (kxr__law_ng_ask_1 p x))
def kxr__law_ng_ask_3 (p : Prog K mg) (x : XH) : KS := (kSeq (kIfS (kTest (kOp (vEq false) (kVar 0) (kC (.int 5))))
  (kRet (kCallX x (W_copies_way p) 2 (kCons (kVar 1) (kCons (kVar 3) kNil))))
  kNext)
  (kxr__law_ng_ask_2 p x))
def kxr__law_ng_ask_4 (p : Prog K mg) (x : XH) : KS := (kSeq (kIfS (kTest (kOp (vEq false) (kVar 0) (kC (.int 4))))
  (kRet (kCallX x (W_copies p) 3 (kCons (kVar 1) (kCons (kVar 2) (kCons (kVar 3) kNil)))))
  kNext)
  (kxr__law_ng_ask_3 p x))
def kxr__law_ng_ask_5 (p : Prog K mg) (x : XH) : KS := (kSeq (kIfS (kTest (kOp (vEq false) (kVar 0) (kC (.int 3))))
  (kRet (kCallX x (W_size_after p) 2 (kCons (kVar 1) (kCons (kVar 2) kNil))))
  kNext)
  (kxr__law_ng_ask_4 p x))
def kxr__law_ng_ask_6 (p : Prog K mg) (x : XH) : KS := (kSeq (kIfS (kTest (kOp (vEq false) (kVar 0) (kC (.int 2))))
  (kRet (kCallX x (W_way p) 2 (kCons (kVar 1) (kCons (kVar 3) kNil))))
  kNext)
  (kxr__law_ng_ask_5 p x))
def kxr__law_ng_ask_7 (p : Prog K mg) (x : XH) : KS := (kSeq (kIfS (kTest (kOp (vEq false) (kVar 0) (kC (.int 1))))
  (kRet (kCallX x (W_place_after p) 3 (kCons (kVar 1) (kCons (kVar 2) (kCons (kVar 3) kNil)))))
  kNext)
  (kxr__law_ng_ask_6 p x))
def kx__law_ng_ask (p : Prog K mg) (x : XH) : KS := (kSeq (kIfS (kTest (kOp (vEq false) (kVar 0) (kC (.int 0))))
  (kRet (kCallX x (W_times p) 2 (kCons (kVar 1) (kCons (kVar 2) kNil))))
  kNext)
  (kxr__law_ng_ask_7 p x))
abbrev W__law_ng_ask (p : Prog K mg) : TwX := w__law_ng_ask p
local macro_rules | `(tactic| walk_at "go") => `(tactic| ((first | unfold kxr__law_ng_ask_1 | unfold kxr__law_ng_ask_2 | unfold kxr__law_ng_ask_3 | unfold kxr__law_ng_ask_4 | unfold kxr__law_ng_ask_5 | unfold kxr__law_ng_ask_6 | unfold kxr__law_ng_ask_7); walk_at "ev"))
theorem val__law_ng_ask (p : Prog K mg) : ∀ ds G X, w__law_ng_ask p ds G X → kx__law_ng_ask p (fun c d _ => X c d) ⟨ds.map Sl.fz ++ [], [], 0⟩ (edT G) := by
  rintro ds Gq X ⟨w, ⟨n, gs⟩, k, r, s, rfl, w0, w1, B, q, qx⟩
  obtain ⟨n6, l9, l8, k1, r1, s1⟩ := B
  dsimp only at n6 l9 l8
  have ef_no : ¬ Eff (n, gs) → X p.C_InvalidEffect (dE (n, gs)) := fun h => qx 0 _ (faT_eff h)
  unfold kx__law_ng_ask
  walk_at "ev"
  refine iteB (fun cw => ?_) (fun cw => ?_)
  · obtain rfl : w = 0 := of_decide_eq_true cw
    by_cases ef : Eff (n, gs)
    rotate_left
    · exact .inr ⟨_, _, ⟨n, gs, k, rfl, by omega, .inl ⟨ef, rfl, rfl⟩⟩, ef_no ef⟩
    have l8 := l8 ef
    have n0 : 0 ≤ n := ef.nn
    by_cases hk : k < 0
    · exact .inr ⟨_, _, ⟨n, gs, k, rfl, by omega, .inr ⟨ef, hk, rfl, rfl⟩⟩, qx 1 _ (faT_num ef (by omega) hk)⟩
    have q := q (faT_none ef (by omega) (by omega) (by omega))
    have lk := leastE_ok ef
    have a1 : (leastE n gs).1 ≤ n := lk.le
    have a2 : (leastE n gs).2.length ≤ gs.length := lk.len
    have pe := pow_eff lk.eff k.toNat
    have pb := pow_bd lk.eff k.toNat
    have c1 : (k.toNat : Int) * (leastE n gs).1 ≤ k.toNat * 6 := Int.mul_le_mul_of_nonneg_left (by omega) (by omega)
    have c2 : k.toNat * (leastE n gs).2.length ≤ k.toNat * 8 := Nat.mul_le_mul_left _ (by omega)
    have sh : Sh 10 2000000 (dE (powE (leastE n gs) k.toNat)) := (sh_effE pe (by omega) (by omega)).mono (by decide) (by decide)
    have := q _ ⟨sh, .inl ⟨rfl, rfl⟩⟩
    exact .inl ⟨n, gs, k, rfl, ef, by omega, by omega, by omega, by omega, by walk_at "ev"; exact this⟩
  walk_at "go"
  refine iteB (fun cw => ?_) (fun cw => ?_)
  · obtain rfl : w = 1 := of_decide_eq_true cw
    by_cases ef : Eff (n, gs)
    rotate_left
    · exact .inr ⟨_, _, ⟨n, gs, k, r, rfl, by omega, .inl ⟨ef, rfl, rfl⟩⟩, ef_no ef⟩
    have l8 := l8 ef
    have n0 : 0 ≤ n := ef.nn
    by_cases hk : k < 0
    · exact .inr ⟨_, _, ⟨n, gs, k, r, rfl, by omega, .inr (.inl ⟨ef, hk, rfl, rfl⟩)⟩, qx 1 _ (faT_num ef (by omega) hk)⟩
    by_cases hr : r < 1
    · exact .inr ⟨_, _, ⟨n, gs, k, r, rfl, by omega, .inr (.inr ⟨ef, by omega, hr, rfl, rfl⟩)⟩, qx 2 _ (faT_plc ef (by omega) (by omega) hr)⟩
    have q := q (faT_none ef (by omega) (by omega) (by omega))
    have lk := leastE_ok ef
    have a1 : (leastE n gs).1 ≤ n := lk.le
    have a2 : (leastE n gs).2.length ≤ gs.length := lk.len
    have sh := (sh_it ef (by dsimp only; omega) (k := k.toNat) (by omega) (r := r) (by omega) (by omega)).mono (k' := 10) (B' := 2000000) (by decide) (by decide)
    have := q _ ⟨sh, .inr (.inl ⟨rfl, rfl⟩)⟩
    exact .inl ⟨n, gs, k, r, rfl, ef, by omega, by omega, by omega, by omega, by omega, by omega, by walk_at "ev"; exact this⟩
  walk_at "go"
  refine iteB (fun cw => ?_) (fun cw => ?_)
  · obtain rfl : w = 2 := of_decide_eq_true cw
    by_cases ef : Eff (n, gs)
    rotate_left
    · exact .inr ⟨_, _, ⟨n, gs, r, rfl, by omega, .inl ⟨ef, rfl, rfl⟩⟩, ef_no ef⟩
    have l8 := l8 ef
    have n0 : 0 ≤ n := ef.nn
    by_cases hr : r < 1
    · exact .inr ⟨_, _, ⟨n, gs, r, rfl, by omega, .inr ⟨ef, hr, rfl, rfl⟩⟩, qx 2 _ (faT_plc ef (by omega) (by omega) hr)⟩
    have q := q (faT_none ef (by omega) (by omega) (by omega))
    have lk := leastE_ok ef
    have a1 : (leastE n gs).1 ≤ n := lk.le
    have a2 : (leastE n gs).2.length ≤ gs.length := lk.len
    refine .inl ⟨n, gs, r, rfl, ef, by omega, by omega, by omega, by omega, fun h L g tl hh hL => ?_⟩
    have vb : ∀ j : Nat, j ≤ 2000 → 0 ≤ itE (n, gs) j r ∧ itE (n, gs) j r ≤ 100000 := fun j hj => by
      have a := it_ge ef j (r := r) (by omega)
      have b := it_bd ef j (r := r) (by omega)
      have c : (j : Int) * n ≤ j * 6 := Int.mul_le_mul_of_nonneg_left n6 (by omega)
      dsimp only at b
      omega
    have sh := (sh_told3 (v := fun t => itE (n, gs) t r) (b := 100000) vb (by decide) tl hh hL [] [] (by simp) (by simp) (by simp) (by simp)).mono (k' := 10) (B' := 2000000) (by decide) (by decide)
    simp only [List.append_nil] at sh
    have := q _ ⟨sh, .inr (.inr (.inl ⟨rfl, h, L, g, tl, rfl⟩))⟩
    walk_at "ev"
    exact this
  walk_at "go"
  refine iteB (fun cw => ?_) (fun cw => ?_)
  · obtain rfl : w = 3 := of_decide_eq_true cw
    by_cases ef : Eff (n, gs)
    rotate_left
    · exact .inr ⟨_, _, ⟨n, gs, k, rfl, by omega, .inl ⟨ef, rfl, rfl⟩⟩, ef_no ef⟩
    have l8 := l8 ef
    have n0 : 0 ≤ n := ef.nn
    by_cases hk : k < 0
    · exact .inr ⟨_, _, ⟨n, gs, k, rfl, by omega, .inr ⟨ef, hk, rfl, rfl⟩⟩, qx 1 _ (faT_num ef (by omega) hk)⟩
    have q := q (faT_none ef (by omega) (by omega) (by omega))
    have lk := leastE_ok ef
    have a1 : (leastE n gs).1 ≤ n := lk.le
    have a2 : (leastE n gs).2.length ≤ gs.length := lk.len
    have pe := pow_eff lk.eff k.toNat
    have pb := pow_bd lk.eff k.toNat
    have c1 : (k.toNat : Int) * (leastE n gs).1 ≤ k.toNat * 6 := Int.mul_le_mul_of_nonneg_left (by omega) (by omega)
    have c2 : k.toNat * (leastE n gs).2.length ≤ k.toNat * 8 := Nat.mul_le_mul_left _ (by omega)
    have p0 := pe.nn
    have sh : Sh 10 2000000 (.tuple [.int (powE (leastE n gs) k.toNat).1, .int (powE (leastE n gs) k.toNat).2.length]) := by
      refine (sh_tuple (k := 1) (B := 205) (n := 2) (fun d m => ?_) (by simp)).mono (by omega) (by omega)
      simp only [List.mem_cons, List.not_mem_nil, or_false] at m
      rcases m with rfl | rfl
      · exact sh_int (by omega)
      · exact sh_int (by omega)
    have := q _ ⟨sh, .inr (.inr (.inr (.inl ⟨rfl, rfl⟩)))⟩
    exact .inl ⟨n, gs, k, rfl, ef, by omega, by omega, by omega, by omega, by walk_at "ev"; exact this⟩
  walk_at "go"
  refine iteB (fun cw => ?_) (fun cw => ?_)
  · obtain rfl : w = 4 := of_decide_eq_true cw
    by_cases ef : Eff (n, gs)
    rotate_left
    · exact .inr ⟨_, _, ⟨n, gs, k, r, rfl, by omega, .inl ⟨ef, rfl, rfl⟩⟩, ef_no ef⟩
    have l8 := l8 ef
    have n0 : 0 ≤ n := ef.nn
    by_cases hk : k < 0
    · exact .inr ⟨_, _, ⟨n, gs, k, r, rfl, by omega, .inr (.inl ⟨ef, hk, rfl, rfl⟩)⟩, qx 1 _ (faT_num ef (by omega) hk)⟩
    by_cases hr : r < 1
    · exact .inr ⟨_, _, ⟨n, gs, k, r, rfl, by omega, .inr (.inr ⟨ef, by omega, hr, rfl, rfl⟩)⟩, qx 2 _ (faT_plc ef (by omega) (by omega) hr)⟩
    have q := q (faT_none ef (by omega) (by omega) (by omega))
    have lk := leastE_ok ef
    have a1 : (leastE n gs).1 ≤ n := lk.le
    have a2 : (leastE n gs).2.length ≤ gs.length := lk.len
    refine .inl ⟨n, gs, k, r, rfl, ef, by omega, by omega, by omega, by omega, by omega, by omega, fun c hc hb => ?_⟩
    have e130 : (2 : Int) ^ 130 = 1361129467683753853853498429727072845824 := by decide
    have sh : Sh 10 2000000 (.int c) := (sh_int (by omega)).mono (by decide) (by decide)
    have := q _ ⟨sh, .inr (.inr (.inr (.inr (.inl ⟨rfl, c, hc, rfl⟩))))⟩
    walk_at "ev"
    exact this
  walk_at "go"
  refine iteB (fun cw => ?_) (fun cw => ?_)
  · obtain rfl : w = 5 := of_decide_eq_true cw
    by_cases ef : Eff (n, gs)
    rotate_left
    · exact .inr ⟨_, _, ⟨n, gs, r, rfl, by omega, .inl ⟨ef, rfl, rfl⟩⟩, ef_no ef⟩
    have l8 := l8 ef
    have n0 : 0 ≤ n := ef.nn
    by_cases hr : r < 1
    · exact .inr ⟨_, _, ⟨n, gs, r, rfl, by omega, .inr ⟨ef, hr, rfl, rfl⟩⟩, qx 2 _ (faT_plc ef (by omega) (by omega) hr)⟩
    have q := q (faT_none ef (by omega) (by omega) (by omega))
    have lk := leastE_ok ef
    have a1 : (leastE n gs).1 ≤ n := lk.le
    have a2 : (leastE n gs).2.length ≤ gs.length := lk.len
    refine .inl ⟨n, gs, r, rfl, ef, by omega, by omega, by omega, by omega, fun S low u h L g tl hh hL => ?_⟩
    have lkf := lk.eff
    obtain ⟨⟨a, as⟩, ea⟩ : ∃ e, leastE n gs = e := ⟨_, rfl⟩
    have u' := u
    have tl' := tl
    rw [ea] at lkf a1 a2 u' tl'
    dsimp only at a1 a2
    have sh := (sh_told3 (v := cV (a, as) S low) (b := 100000) (fun j hj => cV_bd lkf (by omega) (by omega) u'.pos hj) (by decide) tl' hh hL [] [] (by simp) (by simp) (by simp) (by simp)).mono (k' := 10) (B' := 2000000) (by decide) (by decide)
    simp only [List.append_nil] at sh
    rw [← ea] at sh
    have := q _ ⟨sh, .inr (.inr (.inr (.inr (.inr (.inl ⟨rfl, S, low, h, L, g, u, tl, rfl⟩)))))⟩
    walk_at "ev"
    exact this
  walk_at "go"
  refine iteB (fun cw => ?_) (fun cw => ?_)
  · obtain rfl : w = 6 := of_decide_eq_true cw
    by_cases ef : Eff (n, gs)
    rotate_left
    · exact .inr ⟨_, _, ⟨n, gs, r, rfl, by omega, .inl ⟨ef, rfl, rfl⟩⟩, ef_no ef⟩
    have l8 := l8 ef
    have n0 : 0 ≤ n := ef.nn
    by_cases hr : r < 1
    · exact .inr ⟨_, _, ⟨n, gs, r, rfl, by omega, .inr ⟨ef, hr, rfl, rfl⟩⟩, qx 2 _ (faT_plc ef (by omega) (by omega) hr)⟩
    have q := q (faT_none ef (by omega) (by omega) (by omega))
    have lk := leastE_ok ef
    have a1 : (leastE n gs).1 ≤ n := lk.le
    have a2 : (leastE n gs).2.length ≤ gs.length := lk.len
    refine .inl ⟨n, gs, r, rfl, ef, by omega, by omega, by omega, by omega, fun o ho hb => ?_⟩
    have := q _ ⟨sh_oD hb, .inr (.inr (.inr (.inr (.inr (.inr (.inl ⟨rfl, o, ho, rfl⟩))))))⟩
    cases o with
    | none => exact this
    | some t => exact this
  walk_at "go"
  refine iteB (fun cw => ?_) (fun cw => ?_)
  · obtain rfl : w = 7 := of_decide_eq_true cw
    by_cases ef : Eff (n, gs)
    rotate_left
    · exact .inr ⟨_, _, ⟨n, gs, r, s, rfl, by omega, .inl ⟨ef, rfl, rfl⟩⟩, ef_no ef⟩
    have l8 := l8 ef
    have n0 : 0 ≤ n := ef.nn
    by_cases hr : r < 1
    · exact .inr ⟨_, _, ⟨n, gs, r, s, rfl, by omega, .inr (.inl ⟨ef, hr, rfl, rfl⟩)⟩, qx 2 _ (faT_plc ef (by omega) (by omega) hr)⟩
    by_cases hs : s < 1
    · exact .inr ⟨_, _, ⟨n, gs, r, s, rfl, by omega, .inr (.inr ⟨ef, by omega, hs, rfl, rfl⟩)⟩, qx 2 _ (faT_snd ef (by omega) hs)⟩
    have q := q (faT_none ef (by omega) (by omega) (by omega))
    have lk := leastE_ok ef
    have a1 : (leastE n gs).1 ≤ n := lk.le
    have a2 : (leastE n gs).2.length ≤ gs.length := lk.len
    refine .inl ⟨n, gs, r, s, rfl, ef, by omega, by omega, by omega, by omega, by omega, by omega, fun o ho hb => ?_⟩
    have := q _ ⟨sh_oD hb, .inr (.inr (.inr (.inr (.inr (.inr (.inr (.inl ⟨rfl, o, ho, rfl⟩)))))))⟩
    cases o with
    | none => exact this
    | some t => exact this
  · have w8 : 8 ≤ w := by
      simp at *
      omega
    by_cases ef : Eff (n, gs)
    rotate_left
    · exact .inr ⟨_, _, ⟨n, gs, rfl, by omega, ef, rfl, rfl⟩, ef_no ef⟩
    have l8 := l8 ef
    have n0 : 0 ≤ n := ef.nn
    have q := q (faT_none ef (by omega) (by omega) (by omega))
    have lk := leastE_ok ef
    have a1 : (leastE n gs).1 ≤ n := lk.le
    have a2 : (leastE n gs).2.length ≤ gs.length := lk.len
    refine .inl ⟨n, gs, rfl, ef, by omega, by omega, fun o ho hb => ?_⟩
    have sh : Sh 10 2000000 (caD o) := by
      cases o with
      | none => exact sh_none.mono (by decide) (by decide)
      | some x =>
        obtain ⟨i, m⟩ := x
        have := hb i m rfl
        refine (sh_tuple (k := 1) (B := 205) (n := 2) (ds := [.int i, .int m]) (fun d hd => ?_) (by simp)).mono (by omega) (by omega)
        simp only [List.mem_cons, List.not_mem_nil, or_false] at hd
        rcases hd with rfl | rfl
        · exact sh_int (by omega)
        · exact sh_int (by omega)
    have := q _ ⟨sh, .inr (.inr (.inr (.inr (.inr (.inr (.inr (.inr ⟨w8, o, ho, rfl⟩)))))))⟩
    cases o with
    | none => exact this
    | some x => exact this
theorem ok__law_ng_ask (p : Prog K mg) : FnG P w K mg base (L2.CX P w) 7 p.f__law_ng_ask p.fd__law_ng_ask ["_law_rank", "_law_shape", "_law_turns", "_law_depth", "_law_deeper"] (spX (W__law_ng_ask p)) :=
  okX (kb := kx__law_ng_ask p) p.d__law_ng_ask.F sc__law_ng_ask (by decide) (ar__law_ng_ask p) (fun cdv A outer s H E hg hr => ⟨_, (pss_cons (ps_if (pt_cmpR op_eq (pv 0) pe_int (nomark _))
      (pss_one (ps_ret (pe_callG ((ok_times p).mono (by decide)) hg hr (by rfl) p.d_times.gl p.d_times.kp p.d_times.bd passOwn (pa_cons (pv 1) (pa_cons (pv 2) pa_nil))))) pss_nil)
      (pss_cons (ps_if (pt_cmpR op_eq (pv 0) pe_int (nomark _))
      (pss_one (ps_ret (pe_callG ((ok_place_after p).mono (by decide)) hg hr (by rfl) p.d_place_after.gl p.d_place_after.kp p.d_place_after.bd passOwn (pa_cons (pv 1) (pa_cons (pv 2) (pa_cons (pv 3) pa_nil)))))) pss_nil)
      (pss_cons (ps_if (pt_cmpR op_eq (pv 0) pe_int (nomark _))
      (pss_one (ps_ret (pe_callG ((ok_way p).mono (by decide)) hg hr (by rfl) p.d_way.gl p.d_way.kp p.d_way.bd passOwn (pa_cons (pv 1) (pa_cons (pv 3) pa_nil))))) pss_nil)
      (pss_cons (ps_if (pt_cmpR op_eq (pv 0) pe_int (nomark _))
      (pss_one (ps_ret (pe_callG ((ok_size_after p).mono (by decide)) hg hr (by rfl) p.d_size_after.gl p.d_size_after.kp p.d_size_after.bd passOwn (pa_cons (pv 1) (pa_cons (pv 2) pa_nil))))) pss_nil)
      (pss_cons (ps_if (pt_cmpR op_eq (pv 0) pe_int (nomark _))
      (pss_one (ps_ret (pe_callG ((ok_copies p).mono (by decide)) hg hr (by rfl) p.d_copies.gl p.d_copies.kp p.d_copies.bd passOwn (pa_cons (pv 1) (pa_cons (pv 2) (pa_cons (pv 3) pa_nil)))))) pss_nil)
      (pss_cons (ps_if (pt_cmpR op_eq (pv 0) pe_int (nomark _))
      (pss_one (ps_ret (pe_callG ((ok_copies_way p).mono (by decide)) hg hr (by rfl) p.d_copies_way.gl p.d_copies_way.kp p.d_copies_way.bd passOwn (pa_cons (pv 1) (pa_cons (pv 3) pa_nil))))) pss_nil)
      (pss_cons (ps_if (pt_cmpR op_eq (pv 0) pe_int (nomark _))
      (pss_one (ps_ret (pe_callG ((ok_lost_after p).mono (by decide)) hg hr (by rfl) p.d_lost_after.gl p.d_lost_after.kp p.d_lost_after.bd passOwn (pa_cons (pv 1) (pa_cons (pv 3) pa_nil))))) pss_nil)
      (pss_one (ps_ret (pe_ifExp (pt_cmpR op_eq (pv 0) pe_int (nomark _)) (pe_callG ((ok_merged_after p).mono (by decide)) hg hr (by rfl) p.d_merged_after.gl p.d_merged_after.kp p.d_merged_after.bd passOwn (pa_cons (pv 1) (pa_cons (pv 3) (pa_cons (pv 4) pa_nil)))) (pe_callG ((ok_comes_again p).mono (by decide)) hg hr (by rfl) p.d_comes_again.gl p.d_comes_again.kp p.d_comes_again.bd passOwn (pa_cons (pv 1) pa_nil)))))))))))),
    fun C xc hE => (so_seq (so_ifS (so_test (so_op sr_eq (so_var (i := 0)) (so_c (sca_int _))))
      (so_ret (so_callX hE (so_cons (so_var (i := 1)) (so_cons (so_var (i := 2)) so_nil)))) so_next)
      (so_seq (so_ifS (so_test (so_op sr_eq (so_var (i := 0)) (so_c (sca_int _))))
      (so_ret (so_callX hE (so_cons (so_var (i := 1)) (so_cons (so_var (i := 2)) (so_cons (so_var (i := 3)) so_nil))))) so_next)
      (so_seq (so_ifS (so_test (so_op sr_eq (so_var (i := 0)) (so_c (sca_int _))))
      (so_ret (so_callX hE (so_cons (so_var (i := 1)) (so_cons (so_var (i := 3)) so_nil)))) so_next)
      (so_seq (so_ifS (so_test (so_op sr_eq (so_var (i := 0)) (so_c (sca_int _))))
      (so_ret (so_callX hE (so_cons (so_var (i := 1)) (so_cons (so_var (i := 2)) so_nil)))) so_next)
      (so_seq (so_ifS (so_test (so_op sr_eq (so_var (i := 0)) (so_c (sca_int _))))
      (so_ret (so_callX hE (so_cons (so_var (i := 1)) (so_cons (so_var (i := 2)) (so_cons (so_var (i := 3)) so_nil))))) so_next)
      (so_seq (so_ifS (so_test (so_op sr_eq (so_var (i := 0)) (so_c (sca_int _))))
      (so_ret (so_callX hE (so_cons (so_var (i := 1)) (so_cons (so_var (i := 3)) so_nil)))) so_next)
      (so_seq (so_ifS (so_test (so_op sr_eq (so_var (i := 0)) (so_c (sca_int _))))
      (so_ret (so_callX hE (so_cons (so_var (i := 1)) (so_cons (so_var (i := 3)) so_nil)))) so_next)
      (so_ret (so_if (so_test (so_op sr_eq (so_var (i := 0)) (so_c (sca_int _)))) (so_callX hE (so_cons (so_var (i := 1)) (so_cons (so_var (i := 3)) (so_cons (so_var (i := 4)) so_nil)))) (so_callX hE (so_cons (so_var (i := 1)) so_nil)))))))))))⟩) (val__law_ng_ask p)
theorem kb_comes_again_o (p : Prog K mg) : KBinds K p.fd_comes_again ["one"] ["one"] (gKw [0]) (gKwV [0]) := by
  obtain ⟨oc, od, kV, doc, pm, an, cdv, ct, osl, e, lk, hcd⟩ := p.d_comes_again.F.ex
  rw [e]
  refine kb_of (by decide) fun ws hl => ?_
  match ws, hl with
  | [], h => simp at h
  | x0 :: r, _ => rfl
theorem kb_copies_son (p : Prog K mg) : KBinds K p.fd_copies ["one", "number", "spot"] ["spot", "one", "number"] (gKw [1, 2, 0]) (gKwV [1, 2, 0]) := by
  obtain ⟨oc, od, kV, doc, pm, an, cdv, ct, osl, e, lk, hcd⟩ := p.d_copies.F.ex
  rw [e]
  refine kb_of (by decide) fun ws hl => ?_
  match ws, hl with
  | [], h => simp at h
  | [x0], h => simp at h
  | [x0, x1], h => simp at h
  | x0 :: x1 :: x2 :: r, _ => rfl
theorem kb_copies_way_so (p : Prog K mg) : KBinds K p.fd_copies_way ["one", "spot"] ["spot", "one"] (gKw [1, 0]) (gKwV [1, 0]) := by
  obtain ⟨oc, od, kV, doc, pm, an, cdv, ct, osl, e, lk, hcd⟩ := p.d_copies_way.F.ex
  rw [e]
  refine kb_of (by decide) fun ws hl => ?_
  match ws, hl with
  | [], h => simp at h
  | [x0], h => simp at h
  | x0 :: x1 :: r, _ => rfl
theorem kb_lost_after_so (p : Prog K mg) : KBinds K p.fd_lost_after ["one", "spot"] ["spot", "one"] (gKw [1, 0]) (gKwV [1, 0]) := by
  obtain ⟨oc, od, kV, doc, pm, an, cdv, ct, osl, e, lk, hcd⟩ := p.d_lost_after.F.ex
  rw [e]
  refine kb_of (by decide) fun ws hl => ?_
  match ws, hl with
  | [], h => simp at h
  | [x0], h => simp at h
  | x0 :: x1 :: r, _ => rfl
theorem kb_merged_after_sespon (p : Prog K mg) : KBinds K p.fd_merged_after ["one", "spot", "second"] ["second", "spot", "one"] (gKw [2, 1, 0]) (gKwV [2, 1, 0]) := by
  obtain ⟨oc, od, kV, doc, pm, an, cdv, ct, osl, e, lk, hcd⟩ := p.d_merged_after.F.ex
  rw [e]
  refine kb_of (by decide) fun ws hl => ?_
  match ws, hl with
  | [], h => simp at h
  | [x0], h => simp at h
  | [x0, x1], h => simp at h
  | x0 :: x1 :: x2 :: r, _ => rfl
theorem kb_place_after_sno (p : Prog K mg) : KBinds K p.fd_place_after ["one", "number", "spot"] ["spot", "number", "one"] (gKw [2, 1, 0]) (gKwV [2, 1, 0]) := by
  obtain ⟨oc, od, kV, doc, pm, an, cdv, ct, osl, e, lk, hcd⟩ := p.d_place_after.F.ex
  rw [e]
  refine kb_of (by decide) fun ws hl => ?_
  match ws, hl with
  | [], h => simp at h
  | [x0], h => simp at h
  | [x0, x1], h => simp at h
  | x0 :: x1 :: x2 :: r, _ => rfl
theorem kb_size_after_no (p : Prog K mg) : KBinds K p.fd_size_after ["one", "number"] ["number", "one"] (gKw [1, 0]) (gKwV [1, 0]) := by
  obtain ⟨oc, od, kV, doc, pm, an, cdv, ct, osl, e, lk, hcd⟩ := p.d_size_after.F.ex
  rw [e]
  refine kb_of (by decide) fun ws hl => ?_
  match ws, hl with
  | [], h => simp at h
  | [x0], h => simp at h
  | x0 :: x1 :: r, _ => rfl
theorem kb_times_no (p : Prog K mg) : KBinds K p.fd_times ["one", "number"] ["number", "one"] (gKw [1, 0]) (gKwV [1, 0]) := by
  obtain ⟨oc, od, kV, doc, pm, an, cdv, ct, osl, e, lk, hcd⟩ := p.d_times.F.ex
  rw [e]
  refine kb_of (by decide) fun ws hl => ?_
  match ws, hl with
  | [], h => simp at h
  | [x0], h => simp at h
  | x0 :: x1 :: r, _ => rfl
theorem kb_way_so (p : Prog K mg) : KBinds K p.fd_way ["one", "spot"] ["spot", "one"] (gKw [1, 0]) (gKwV [1, 0]) := by
  obtain ⟨oc, od, kV, doc, pm, an, cdv, ct, osl, e, lk, hcd⟩ := p.d_way.F.ex
  rw [e]
  refine kb_of (by decide) fun ws hl => ?_
  match ws, hl with
  | [], h => simp at h
  | [x0], h => simp at h
  | x0 :: x1 :: r, _ => rfl
def w__law_ng_ask_by_name (p : Prog K mg) : TwX := fun ds G X => ∃ w e k r s, ds = [.int w, dE e, .int k, .int r, .int s] ∧ 0 ≤ w ∧ w ≤ 8 ∧ BdT e k r s ∧ (faT w e k r s = none → ∀ d, AnsT w e k r s d → G d) ∧ ∀ c d, faT w e k r s = some (c, d) → X (clsT p c) d
theorem ar__law_ng_ask_by_name (p : Prog K mg) : ∀ ds G X, w__law_ng_ask_by_name p ds G X → ds.length = 5 := by
  rintro ds G X ⟨w, e, k, r, s, rfl, _⟩
  rfl
def kxr__law_ng_ask_by_name_1 (p : Prog K mg) (x : XH) : KS := (kRet (kIf (kTest (kOp (vEq false) (kVar 0) (kC (.int 7)))) (kCallXK x (W_merged_after p) [2, 1, 0] 3 (kCons (kVar 4) (kCons (kVar 3) (kCons (kVar 1) kNil)))) (kCallXK x (W_comes_again p) [0] 1 (kCons (kVar 1) kNil))))
def kxr__law_ng_ask_by_name_2 (p : Prog K mg) (x : XH) : KS := (kSeq (kIfS (kTest (kOp (vEq false) (kVar 0) (kC (.int 6))))
  (kRet (kCallXK x (W_lost_after p) [1, 0] 2 (kCons (kVar 3) (kCons (kVar 1) kNil))))
  kNext)
  (kxr__law_ng_ask_by_name_1 p x))
def kxr__law_ng_ask_by_name_3 (p : Prog K mg) (x : XH) : KS := (kSeq (kIfS (kTest (kOp (vEq false) (kVar 0) (kC (.int 5))))
  (kRet (kCallXK x (W_copies_way p) [1, 0] 2 (kCons (kVar 3) (kCons (kVar 1) kNil))))
  kNext)
  (kxr__law_ng_ask_by_name_2 p x))
def kxr__law_ng_ask_by_name_4 (p : Prog K mg) (x : XH) : KS := (kSeq (kIfS (kTest (kOp (vEq false) (kVar 0) (kC (.int 4))))
  (kRet (kCallXK x (W_copies p) [1, 2, 0] 3 (kCons (kVar 3) (kCons (kVar 1) (kCons (kVar 2) kNil)))))
  kNext)
  (kxr__law_ng_ask_by_name_3 p x))
def kxr__law_ng_ask_by_name_5 (p : Prog K mg) (x : XH) : KS := (kSeq (kIfS (kTest (kOp (vEq false) (kVar 0) (kC (.int 3))))
  (kRet (kCallXK x (W_size_after p) [1, 0] 2 (kCons (kVar 2) (kCons (kVar 1) kNil))))
  kNext)
  (kxr__law_ng_ask_by_name_4 p x))
def kxr__law_ng_ask_by_name_6 (p : Prog K mg) (x : XH) : KS := (kSeq (kIfS (kTest (kOp (vEq false) (kVar 0) (kC (.int 2))))
  (kRet (kCallXK x (W_way p) [1, 0] 2 (kCons (kVar 3) (kCons (kVar 1) kNil))))
  kNext)
  (kxr__law_ng_ask_by_name_5 p x))
def kxr__law_ng_ask_by_name_7 (p : Prog K mg) (x : XH) : KS := (kSeq (kIfS (kTest (kOp (vEq false) (kVar 0) (kC (.int 1))))
  (kRet (kCallXK x (W_place_after p) [2, 1, 0] 3 (kCons (kVar 3) (kCons (kVar 2) (kCons (kVar 1) kNil)))))
  kNext)
  (kxr__law_ng_ask_by_name_6 p x))
def kx__law_ng_ask_by_name (p : Prog K mg) (x : XH) : KS := (kSeq (kIfS (kTest (kOp (vEq false) (kVar 0) (kC (.int 0))))
  (kRet (kCallXK x (W_times p) [1, 0] 2 (kCons (kVar 2) (kCons (kVar 1) kNil))))
  kNext)
  (kxr__law_ng_ask_by_name_7 p x))
abbrev W__law_ng_ask_by_name (p : Prog K mg) : TwX := w__law_ng_ask_by_name p
local macro_rules | `(tactic| walk_at "go") => `(tactic| ((first | unfold kxr__law_ng_ask_by_name_1 | unfold kxr__law_ng_ask_by_name_2 | unfold kxr__law_ng_ask_by_name_3 | unfold kxr__law_ng_ask_by_name_4 | unfold kxr__law_ng_ask_by_name_5 | unfold kxr__law_ng_ask_by_name_6 | unfold kxr__law_ng_ask_by_name_7); walk_at "ev"))
theorem val__law_ng_ask_by_name (p : Prog K mg) : ∀ ds G X, w__law_ng_ask_by_name p ds G X → kx__law_ng_ask_by_name p (fun c d _ => X c d) ⟨ds.map Sl.fz ++ [], [], 0⟩ (edT G) := by
  rintro ds Gq X ⟨w, ⟨n, gs⟩, k, r, s, rfl, w0, w1, B, q, qx⟩
  obtain ⟨n6, l9, l8, k1, r1, s1⟩ := B
  dsimp only at n6 l9 l8
  have ef_no : ¬ Eff (n, gs) → X p.C_InvalidEffect (dE (n, gs)) := fun h => qx 0 _ (faT_eff h)
  unfold kx__law_ng_ask_by_name
  walk_at "ev"
  refine iteB (fun cw => ?_) (fun cw => ?_)
  · obtain rfl : w = 0 := of_decide_eq_true cw
    by_cases ef : Eff (n, gs)
    rotate_left
    · exact .inr ⟨_, _, ⟨n, gs, k, rfl, by omega, .inl ⟨ef, rfl, rfl⟩⟩, ef_no ef⟩
    have l8 := l8 ef
    have n0 : 0 ≤ n := ef.nn
    by_cases hk : k < 0
    · exact .inr ⟨_, _, ⟨n, gs, k, rfl, by omega, .inr ⟨ef, hk, rfl, rfl⟩⟩, qx 1 _ (faT_num ef (by omega) hk)⟩
    have q := q (faT_none ef (by omega) (by omega) (by omega))
    have lk := leastE_ok ef
    have a1 : (leastE n gs).1 ≤ n := lk.le
    have a2 : (leastE n gs).2.length ≤ gs.length := lk.len
    have pe := pow_eff lk.eff k.toNat
    have pb := pow_bd lk.eff k.toNat
    have c1 : (k.toNat : Int) * (leastE n gs).1 ≤ k.toNat * 6 := Int.mul_le_mul_of_nonneg_left (by omega) (by omega)
    have c2 : k.toNat * (leastE n gs).2.length ≤ k.toNat * 8 := Nat.mul_le_mul_left _ (by omega)
    have sh : Sh 10 2000000 (dE (powE (leastE n gs) k.toNat)) := (sh_effE pe (by omega) (by omega)).mono (by decide) (by decide)
    have := q _ ⟨sh, .inl ⟨rfl, rfl⟩⟩
    exact .inl ⟨n, gs, k, rfl, ef, by omega, by omega, by omega, by omega, by walk_at "ev"; exact this⟩
  walk_at "go"
  refine iteB (fun cw => ?_) (fun cw => ?_)
  · obtain rfl : w = 1 := of_decide_eq_true cw
    by_cases ef : Eff (n, gs)
    rotate_left
    · exact .inr ⟨_, _, ⟨n, gs, k, r, rfl, by omega, .inl ⟨ef, rfl, rfl⟩⟩, ef_no ef⟩
    have l8 := l8 ef
    have n0 : 0 ≤ n := ef.nn
    by_cases hk : k < 0
    · exact .inr ⟨_, _, ⟨n, gs, k, r, rfl, by omega, .inr (.inl ⟨ef, hk, rfl, rfl⟩)⟩, qx 1 _ (faT_num ef (by omega) hk)⟩
    by_cases hr : r < 1
    · exact .inr ⟨_, _, ⟨n, gs, k, r, rfl, by omega, .inr (.inr ⟨ef, by omega, hr, rfl, rfl⟩)⟩, qx 2 _ (faT_plc ef (by omega) (by omega) hr)⟩
    have q := q (faT_none ef (by omega) (by omega) (by omega))
    have lk := leastE_ok ef
    have a1 : (leastE n gs).1 ≤ n := lk.le
    have a2 : (leastE n gs).2.length ≤ gs.length := lk.len
    have sh := (sh_it ef (by dsimp only; omega) (k := k.toNat) (by omega) (r := r) (by omega) (by omega)).mono (k' := 10) (B' := 2000000) (by decide) (by decide)
    have := q _ ⟨sh, .inr (.inl ⟨rfl, rfl⟩)⟩
    exact .inl ⟨n, gs, k, r, rfl, ef, by omega, by omega, by omega, by omega, by omega, by omega, by walk_at "ev"; exact this⟩
  walk_at "go"
  refine iteB (fun cw => ?_) (fun cw => ?_)
  · obtain rfl : w = 2 := of_decide_eq_true cw
    by_cases ef : Eff (n, gs)
    rotate_left
    · exact .inr ⟨_, _, ⟨n, gs, r, rfl, by omega, .inl ⟨ef, rfl, rfl⟩⟩, ef_no ef⟩
    have l8 := l8 ef
    have n0 : 0 ≤ n := ef.nn
    by_cases hr : r < 1
    · exact .inr ⟨_, _, ⟨n, gs, r, rfl, by omega, .inr ⟨ef, hr, rfl, rfl⟩⟩, qx 2 _ (faT_plc ef (by omega) (by omega) hr)⟩
    have q := q (faT_none ef (by omega) (by omega) (by omega))
    have lk := leastE_ok ef
    have a1 : (leastE n gs).1 ≤ n := lk.le
    have a2 : (leastE n gs).2.length ≤ gs.length := lk.len
    refine .inl ⟨n, gs, r, rfl, ef, by omega, by omega, by omega, by omega, fun h L g tl hh hL => ?_⟩
    have vb : ∀ j : Nat, j ≤ 2000 → 0 ≤ itE (n, gs) j r ∧ itE (n, gs) j r ≤ 100000 := fun j hj => by
      have a := it_ge ef j (r := r) (by omega)
      have b := it_bd ef j (r := r) (by omega)
      have c : (j : Int) * n ≤ j * 6 := Int.mul_le_mul_of_nonneg_left n6 (by omega)
      dsimp only at b
      omega
    have sh := (sh_told3 (v := fun t => itE (n, gs) t r) (b := 100000) vb (by decide) tl hh hL [] [] (by simp) (by simp) (by simp) (by simp)).mono (k' := 10) (B' := 2000000) (by decide) (by decide)
    simp only [List.append_nil] at sh
    have := q _ ⟨sh, .inr (.inr (.inl ⟨rfl, h, L, g, tl, rfl⟩))⟩
    walk_at "ev"
    exact this
  walk_at "go"
  refine iteB (fun cw => ?_) (fun cw => ?_)
  · obtain rfl : w = 3 := of_decide_eq_true cw
    by_cases ef : Eff (n, gs)
    rotate_left
    · exact .inr ⟨_, _, ⟨n, gs, k, rfl, by omega, .inl ⟨ef, rfl, rfl⟩⟩, ef_no ef⟩
    have l8 := l8 ef
    have n0 : 0 ≤ n := ef.nn
    by_cases hk : k < 0
    · exact .inr ⟨_, _, ⟨n, gs, k, rfl, by omega, .inr ⟨ef, hk, rfl, rfl⟩⟩, qx 1 _ (faT_num ef (by omega) hk)⟩
    have q := q (faT_none ef (by omega) (by omega) (by omega))
    have lk := leastE_ok ef
    have a1 : (leastE n gs).1 ≤ n := lk.le
    have a2 : (leastE n gs).2.length ≤ gs.length := lk.len
    have pe := pow_eff lk.eff k.toNat
    have pb := pow_bd lk.eff k.toNat
    have c1 : (k.toNat : Int) * (leastE n gs).1 ≤ k.toNat * 6 := Int.mul_le_mul_of_nonneg_left (by omega) (by omega)
    have c2 : k.toNat * (leastE n gs).2.length ≤ k.toNat * 8 := Nat.mul_le_mul_left _ (by omega)
    have p0 := pe.nn
    have sh : Sh 10 2000000 (.tuple [.int (powE (leastE n gs) k.toNat).1, .int (powE (leastE n gs) k.toNat).2.length]) := by
      refine (sh_tuple (k := 1) (B := 205) (n := 2) (fun d m => ?_) (by simp)).mono (by omega) (by omega)
      simp only [List.mem_cons, List.not_mem_nil, or_false] at m
      rcases m with rfl | rfl
      · exact sh_int (by omega)
      · exact sh_int (by omega)
    have := q _ ⟨sh, .inr (.inr (.inr (.inl ⟨rfl, rfl⟩)))⟩
    exact .inl ⟨n, gs, k, rfl, ef, by omega, by omega, by omega, by omega, by walk_at "ev"; exact this⟩
  walk_at "go"
  refine iteB (fun cw => ?_) (fun cw => ?_)
  · obtain rfl : w = 4 := of_decide_eq_true cw
    by_cases ef : Eff (n, gs)
    rotate_left
    · exact .inr ⟨_, _, ⟨n, gs, k, r, rfl, by omega, .inl ⟨ef, rfl, rfl⟩⟩, ef_no ef⟩
    have l8 := l8 ef
    have n0 : 0 ≤ n := ef.nn
    by_cases hk : k < 0
    · exact .inr ⟨_, _, ⟨n, gs, k, r, rfl, by omega, .inr (.inl ⟨ef, hk, rfl, rfl⟩)⟩, qx 1 _ (faT_num ef (by omega) hk)⟩
    by_cases hr : r < 1
    · exact .inr ⟨_, _, ⟨n, gs, k, r, rfl, by omega, .inr (.inr ⟨ef, by omega, hr, rfl, rfl⟩)⟩, qx 2 _ (faT_plc ef (by omega) (by omega) hr)⟩
    have q := q (faT_none ef (by omega) (by omega) (by omega))
    have lk := leastE_ok ef
    have a1 : (leastE n gs).1 ≤ n := lk.le
    have a2 : (leastE n gs).2.length ≤ gs.length := lk.len
    refine .inl ⟨n, gs, k, r, rfl, ef, by omega, by omega, by omega, by omega, by omega, by omega, fun c hc hb => ?_⟩
    have e130 : (2 : Int) ^ 130 = 1361129467683753853853498429727072845824 := by decide
    have sh : Sh 10 2000000 (.int c) := (sh_int (by omega)).mono (by decide) (by decide)
    have := q _ ⟨sh, .inr (.inr (.inr (.inr (.inl ⟨rfl, c, hc, rfl⟩))))⟩
    walk_at "ev"
    exact this
  walk_at "go"
  refine iteB (fun cw => ?_) (fun cw => ?_)
  · obtain rfl : w = 5 := of_decide_eq_true cw
    by_cases ef : Eff (n, gs)
    rotate_left
    · exact .inr ⟨_, _, ⟨n, gs, r, rfl, by omega, .inl ⟨ef, rfl, rfl⟩⟩, ef_no ef⟩
    have l8 := l8 ef
    have n0 : 0 ≤ n := ef.nn
    by_cases hr : r < 1
    · exact .inr ⟨_, _, ⟨n, gs, r, rfl, by omega, .inr ⟨ef, hr, rfl, rfl⟩⟩, qx 2 _ (faT_plc ef (by omega) (by omega) hr)⟩
    have q := q (faT_none ef (by omega) (by omega) (by omega))
    have lk := leastE_ok ef
    have a1 : (leastE n gs).1 ≤ n := lk.le
    have a2 : (leastE n gs).2.length ≤ gs.length := lk.len
    refine .inl ⟨n, gs, r, rfl, ef, by omega, by omega, by omega, by omega, fun S low u h L g tl hh hL => ?_⟩
    have lkf := lk.eff
    obtain ⟨⟨a, as⟩, ea⟩ : ∃ e, leastE n gs = e := ⟨_, rfl⟩
    have u' := u
    have tl' := tl
    rw [ea] at lkf a1 a2 u' tl'
    dsimp only at a1 a2
    have sh := (sh_told3 (v := cV (a, as) S low) (b := 100000) (fun j hj => cV_bd lkf (by omega) (by omega) u'.pos hj) (by decide) tl' hh hL [] [] (by simp) (by simp) (by simp) (by simp)).mono (k' := 10) (B' := 2000000) (by decide) (by decide)
    simp only [List.append_nil] at sh
    rw [← ea] at sh
    have := q _ ⟨sh, .inr (.inr (.inr (.inr (.inr (.inl ⟨rfl, S, low, h, L, g, u, tl, rfl⟩)))))⟩
    walk_at "ev"
    exact this
  walk_at "go"
  refine iteB (fun cw => ?_) (fun cw => ?_)
  · obtain rfl : w = 6 := of_decide_eq_true cw
    by_cases ef : Eff (n, gs)
    rotate_left
    · exact .inr ⟨_, _, ⟨n, gs, r, rfl, by omega, .inl ⟨ef, rfl, rfl⟩⟩, ef_no ef⟩
    have l8 := l8 ef
    have n0 : 0 ≤ n := ef.nn
    by_cases hr : r < 1
    · exact .inr ⟨_, _, ⟨n, gs, r, rfl, by omega, .inr ⟨ef, hr, rfl, rfl⟩⟩, qx 2 _ (faT_plc ef (by omega) (by omega) hr)⟩
    have q := q (faT_none ef (by omega) (by omega) (by omega))
    have lk := leastE_ok ef
    have a1 : (leastE n gs).1 ≤ n := lk.le
    have a2 : (leastE n gs).2.length ≤ gs.length := lk.len
    refine .inl ⟨n, gs, r, rfl, ef, by omega, by omega, by omega, by omega, fun o ho hb => ?_⟩
    have := q _ ⟨sh_oD hb, .inr (.inr (.inr (.inr (.inr (.inr (.inl ⟨rfl, o, ho, rfl⟩))))))⟩
    cases o with
    | none => exact this
    | some t => exact this
  walk_at "go"
  refine iteB (fun cw => ?_) (fun cw => ?_)
  · obtain rfl : w = 7 := of_decide_eq_true cw
    by_cases ef : Eff (n, gs)
    rotate_left
    · exact .inr ⟨_, _, ⟨n, gs, r, s, rfl, by omega, .inl ⟨ef, rfl, rfl⟩⟩, ef_no ef⟩
    have l8 := l8 ef
    have n0 : 0 ≤ n := ef.nn
    by_cases hr : r < 1
    · exact .inr ⟨_, _, ⟨n, gs, r, s, rfl, by omega, .inr (.inl ⟨ef, hr, rfl, rfl⟩)⟩, qx 2 _ (faT_plc ef (by omega) (by omega) hr)⟩
    by_cases hs : s < 1
    · exact .inr ⟨_, _, ⟨n, gs, r, s, rfl, by omega, .inr (.inr ⟨ef, by omega, hs, rfl, rfl⟩)⟩, qx 2 _ (faT_snd ef (by omega) hs)⟩
    have q := q (faT_none ef (by omega) (by omega) (by omega))
    have lk := leastE_ok ef
    have a1 : (leastE n gs).1 ≤ n := lk.le
    have a2 : (leastE n gs).2.length ≤ gs.length := lk.len
    refine .inl ⟨n, gs, r, s, rfl, ef, by omega, by omega, by omega, by omega, by omega, by omega, fun o ho hb => ?_⟩
    have := q _ ⟨sh_oD hb, .inr (.inr (.inr (.inr (.inr (.inr (.inr (.inl ⟨rfl, o, ho, rfl⟩)))))))⟩
    cases o with
    | none => exact this
    | some t => exact this
  · have w8 : 8 ≤ w := by
      simp at *
      omega
    by_cases ef : Eff (n, gs)
    rotate_left
    · exact .inr ⟨_, _, ⟨n, gs, rfl, by omega, ef, rfl, rfl⟩, ef_no ef⟩
    have l8 := l8 ef
    have n0 : 0 ≤ n := ef.nn
    have q := q (faT_none ef (by omega) (by omega) (by omega))
    have lk := leastE_ok ef
    have a1 : (leastE n gs).1 ≤ n := lk.le
    have a2 : (leastE n gs).2.length ≤ gs.length := lk.len
    refine .inl ⟨n, gs, rfl, ef, by omega, by omega, fun o ho hb => ?_⟩
    have sh : Sh 10 2000000 (caD o) := by
      cases o with
      | none => exact sh_none.mono (by decide) (by decide)
      | some x =>
        obtain ⟨i, m⟩ := x
        have := hb i m rfl
        refine (sh_tuple (k := 1) (B := 205) (n := 2) (ds := [.int i, .int m]) (fun d hd => ?_) (by simp)).mono (by omega) (by omega)
        simp only [List.mem_cons, List.not_mem_nil, or_false] at hd
        rcases hd with rfl | rfl
        · exact sh_int (by omega)
        · exact sh_int (by omega)
    have := q _ ⟨sh, .inr (.inr (.inr (.inr (.inr (.inr (.inr (.inr ⟨w8, o, ho, rfl⟩)))))))⟩
    cases o with
    | none => exact this
    | some x => exact this
theorem ok__law_ng_ask_by_name (p : Prog K mg) : FnG P w K mg base (L2.CX P w) 7 p.f__law_ng_ask_by_name p.fd__law_ng_ask_by_name ["_law_rank", "_law_shape", "_law_turns", "_law_depth", "_law_deeper"] (spX (W__law_ng_ask_by_name p)) :=
  okX (kb := kx__law_ng_ask_by_name p) p.d__law_ng_ask_by_name.F sc__law_ng_ask_by_name (by decide) (ar__law_ng_ask_by_name p) (fun cdv A outer s H E hg hr => ⟨_, (pss_cons (ps_if (pt_cmpR op_eq (pv 0) pe_int (nomark _))
      (pss_one (ps_ret (pe_callK0G ((ok_times p).mono (by decide)) hg hr (by rfl) p.d_times.gl p.d_times.kp (kb_times_no p) passOwn (pk_cons (pv 2) (pk_cons (pv 1) pk_nil))))) pss_nil)
      (pss_cons (ps_if (pt_cmpR op_eq (pv 0) pe_int (nomark _))
      (pss_one (ps_ret (pe_callK0G ((ok_place_after p).mono (by decide)) hg hr (by rfl) p.d_place_after.gl p.d_place_after.kp (kb_place_after_sno p) passOwn (pk_cons (pv 3) (pk_cons (pv 2) (pk_cons (pv 1) pk_nil)))))) pss_nil)
      (pss_cons (ps_if (pt_cmpR op_eq (pv 0) pe_int (nomark _))
      (pss_one (ps_ret (pe_callK0G ((ok_way p).mono (by decide)) hg hr (by rfl) p.d_way.gl p.d_way.kp (kb_way_so p) passOwn (pk_cons (pv 3) (pk_cons (pv 1) pk_nil))))) pss_nil)
      (pss_cons (ps_if (pt_cmpR op_eq (pv 0) pe_int (nomark _))
      (pss_one (ps_ret (pe_callK0G ((ok_size_after p).mono (by decide)) hg hr (by rfl) p.d_size_after.gl p.d_size_after.kp (kb_size_after_no p) passOwn (pk_cons (pv 2) (pk_cons (pv 1) pk_nil))))) pss_nil)
      (pss_cons (ps_if (pt_cmpR op_eq (pv 0) pe_int (nomark _))
      (pss_one (ps_ret (pe_callK0G ((ok_copies p).mono (by decide)) hg hr (by rfl) p.d_copies.gl p.d_copies.kp (kb_copies_son p) passOwn (pk_cons (pv 3) (pk_cons (pv 1) (pk_cons (pv 2) pk_nil)))))) pss_nil)
      (pss_cons (ps_if (pt_cmpR op_eq (pv 0) pe_int (nomark _))
      (pss_one (ps_ret (pe_callK0G ((ok_copies_way p).mono (by decide)) hg hr (by rfl) p.d_copies_way.gl p.d_copies_way.kp (kb_copies_way_so p) passOwn (pk_cons (pv 3) (pk_cons (pv 1) pk_nil))))) pss_nil)
      (pss_cons (ps_if (pt_cmpR op_eq (pv 0) pe_int (nomark _))
      (pss_one (ps_ret (pe_callK0G ((ok_lost_after p).mono (by decide)) hg hr (by rfl) p.d_lost_after.gl p.d_lost_after.kp (kb_lost_after_so p) passOwn (pk_cons (pv 3) (pk_cons (pv 1) pk_nil))))) pss_nil)
      (pss_one (ps_ret (pe_ifExp (pt_cmpR op_eq (pv 0) pe_int (nomark _)) (pe_callK0G ((ok_merged_after p).mono (by decide)) hg hr (by rfl) p.d_merged_after.gl p.d_merged_after.kp (kb_merged_after_sespon p) passOwn (pk_cons (pv 4) (pk_cons (pv 3) (pk_cons (pv 1) pk_nil)))) (pe_callK0G ((ok_comes_again p).mono (by decide)) hg hr (by rfl) p.d_comes_again.gl p.d_comes_again.kp (kb_comes_again_o p) passOwn (pk_cons (pv 1) pk_nil)))))))))))),
    fun C xc hE => (so_seq (so_ifS (so_test (so_op sr_eq (so_var (i := 0)) (so_c (sca_int _))))
      (so_ret (so_callXK (ix := [1, 0]) hE (so_cons (so_var (i := 2)) (so_cons (so_var (i := 1)) so_nil)))) so_next)
      (so_seq (so_ifS (so_test (so_op sr_eq (so_var (i := 0)) (so_c (sca_int _))))
      (so_ret (so_callXK (ix := [2, 1, 0]) hE (so_cons (so_var (i := 3)) (so_cons (so_var (i := 2)) (so_cons (so_var (i := 1)) so_nil))))) so_next)
      (so_seq (so_ifS (so_test (so_op sr_eq (so_var (i := 0)) (so_c (sca_int _))))
      (so_ret (so_callXK (ix := [1, 0]) hE (so_cons (so_var (i := 3)) (so_cons (so_var (i := 1)) so_nil)))) so_next)
      (so_seq (so_ifS (so_test (so_op sr_eq (so_var (i := 0)) (so_c (sca_int _))))
      (so_ret (so_callXK (ix := [1, 0]) hE (so_cons (so_var (i := 2)) (so_cons (so_var (i := 1)) so_nil)))) so_next)
      (so_seq (so_ifS (so_test (so_op sr_eq (so_var (i := 0)) (so_c (sca_int _))))
      (so_ret (so_callXK (ix := [1, 2, 0]) hE (so_cons (so_var (i := 3)) (so_cons (so_var (i := 1)) (so_cons (so_var (i := 2)) so_nil))))) so_next)
      (so_seq (so_ifS (so_test (so_op sr_eq (so_var (i := 0)) (so_c (sca_int _))))
      (so_ret (so_callXK (ix := [1, 0]) hE (so_cons (so_var (i := 3)) (so_cons (so_var (i := 1)) so_nil)))) so_next)
      (so_seq (so_ifS (so_test (so_op sr_eq (so_var (i := 0)) (so_c (sca_int _))))
      (so_ret (so_callXK (ix := [1, 0]) hE (so_cons (so_var (i := 3)) (so_cons (so_var (i := 1)) so_nil)))) so_next)
      (so_ret (so_if (so_test (so_op sr_eq (so_var (i := 0)) (so_c (sca_int _)))) (so_callXK (ix := [2, 1, 0]) hE (so_cons (so_var (i := 4)) (so_cons (so_var (i := 3)) (so_cons (so_var (i := 1)) so_nil)))) (so_callXK (ix := [0]) hE (so_cons (so_var (i := 1)) so_nil)))))))))))⟩) (val__law_ng_ask_by_name p)
def nmT : Nat → Str
  | 0 => ("effect" : String)
  | 1 => ("number" : String)
  | _ => ("place" : String)
def w__law_ng_caught : Tw := fun ds Q => ∃ b w e k r s, ds = [.bool b, .int w, dE e, .int k, .int r, .int s] ∧ 0 ≤ w ∧ w ≤ 8 ∧ BdT e k r s ∧ (faT w e k r s = none → ∀ d, AnsT w e k r s d → Q (.list [d, .none])) ∧ ∀ c d, faT w e k r s = some (c, d) → Q (.list [.none, .list [.str (nmT c), d, .bool false, .bool true]])
theorem ar__law_ng_caught : ∀ ds G, w__law_ng_caught ds G → ds.length = 6 := by
  rintro ds G ⟨b, w, e, k, r, s, rfl, _⟩
  rfl
def kr__law_ng_caught_1 (p : Prog K mg) : KS := (kRet (kMk true 2 (kCons (kMov 6) (kCons (kMov 7) kNil))))
def kr__law_ng_caught_2 (p : Prog K mg) : KS := (kSeq (kTry K 8 (fun x => (kIfS (kTest (kVar 0))
  (kAsg (kCallX x (W__law_ng_ask_by_name p) 5 (kCons (kVar 1) (kCons (kVar 2) (kCons (kVar 3) (kCons (kVar 4) (kCons (kVar 5) kNil)))))) (kgName 6))
  (kAsg (kCallX x (W__law_ng_ask p) 5 (kCons (kVar 1) (kCons (kVar 2) (kCons (kVar 3) (kCons (kVar 4) (kCons (kVar 5) kNil)))))) (kgName 6))))
  [((.ref p.C_InvalidEffect : Value), fun a cls dd => (kAsg (kMk true 4 (kCons (kC (.str ("effect" : String))) (kCons (kXval p.C_InvalidEffect a dd cls 8) (kCons (kIsXT K p.C_InvalidEffect [p.C_InvalidNumber, p.C_InvalidPlace, p.C_TooShallow] a dd cls 8) (kCons (kIsX K p.C_InvalidEffect p.C_PileError a dd cls 8) kNil))))) (kgName 7))),
  ((.ref p.C_InvalidNumber : Value), fun a cls dd => (kAsg (kMk true 4 (kCons (kC (.str ("number" : String))) (kCons (kXval p.C_InvalidNumber a dd cls 8) (kCons (kIsXT K p.C_InvalidNumber [p.C_InvalidEffect, p.C_InvalidPlace, p.C_TooShallow] a dd cls 8) (kCons (kIsX K p.C_InvalidNumber p.C_PileError a dd cls 8) kNil))))) (kgName 7))),
  ((.ref p.C_InvalidPlace : Value), fun a cls dd => (kAsg (kMk true 4 (kCons (kC (.str ("place" : String))) (kCons (kXval p.C_InvalidPlace a dd cls 8) (kCons (kIsXT K p.C_InvalidPlace [p.C_InvalidNumber, p.C_InvalidEffect, p.C_TooShallow] a dd cls 8) (kCons (kIsX K p.C_InvalidPlace p.C_PileError a dd cls 8) kNil))))) (kgName 7))),
  ((.ref p.C_PileError : Value), fun a cls dd => kNever)])
  (kr__law_ng_caught_1 p))
def k__law_ng_caught (p : Prog K mg) : KS := (kSeq (kAsg (kMk false 2 (kCons (kC .none) (kCons (kC .none) kNil))) (kgTup 2 (kgCons (kgName 6) (kgCons (kgName 7) kgNil))))
  (kr__law_ng_caught_2 p))
local macro_rules | `(tactic| walk_at "go") => `(tactic| ((first | unfold kr__law_ng_caught_1 | unfold kr__law_ng_caught_2); walk_at "ev"))
theorem faT_cls {w : Int} {e : Int × List Int} {k r s : Int} {c : Nat} {d : D} (h : faT w e k r s = some (c, d)) : c = 0 ∨ c = 1 ∨ c = 2 := by
  unfold faT at h
  split at h
  · cases h; omega
  · split at h
    · cases h; omega
    · split at h
      · cases h; omega
      · split at h
        · cases h; omega
        · cases h
theorem val__law_ng_caught (p : Prog K mg) : ∀ ds G, w__law_ng_caught ds G → k__law_ng_caught p ⟨ds.map Sl.fz ++ [.jk, .jk, .jk], [], 0⟩ (edT G) := by
  rintro ds Gq ⟨b, w, e, k, r, s, rfl, w0, w1, B, q, qx⟩
  unfold k__law_ng_caught
  walk_at "ev"
  walk_at "go"
  have okk : faT w e k r s = none → ∀ d, AnsT w e k r s d → kr__law_ng_caught_1 p ⟨[.fz (.bool b), .fz (.int w), .fz (dE e), .fz (.int k), .fz (.int r), .fz (.int s), own d, .fz .none, .jk], [], 0⟩ (edT Gq) := fun hn d hd => by
    have := q hn d hd
    unfold own
    by_cases hl : nolist d = true
    · rw [if_pos hl]
      walk_at "go"
      simp [hl]
      exact this
    · rw [if_neg hl]
      walk_at "go"
      simpa [hl] using this
  have out : ∀ (x : Str) (d : D), Gq (.list [.none, .list [.str x, d, .bool false, .bool true]]) → kr__law_ng_caught_1 p ⟨[.fz (.bool b), .fz (.int w), .fz (dE e), .fz (.int k), .fz (.int r), .fz (.int s), .fz .none, .ow true (.list [.str x, d, .bool false, .bool true]), .jk], [], 0⟩ (edT Gq) := fun x d h => by
    walk_at "go"
    exact h
  refine iteB (fun cb => ?_) (fun cb => ?_)
  all_goals
    refine ⟨w, e, k, r, s, rfl, w0, w1, B, okk, fun c d hf => ?_⟩
    have qd := qx c d hf
    rcases faT_cls hf with rfl | rfl | rfl
    · refine ⟨_, p.xm_InvalidEffect_InvalidEffect, fun _ a dd => ⟨rfl, rfl, _, p.kt_InvalidEffect_InvalidNumber_InvalidPlace_TooShallow, ?_⟩, fun z => nomatch z⟩
      walk_at "ev"
      refine ⟨rfl, _, p.ki_InvalidEffect_PileError, ?_⟩
      walk_at "ev"
      exact out _ d qd
    · refine ⟨_, p.xm_InvalidNumber_InvalidEffect, fun z => (nomatch z), fun _ => ⟨_, p.xm_InvalidNumber_InvalidNumber, fun _ a dd => ⟨rfl, rfl, _, p.kt_InvalidNumber_InvalidEffect_InvalidPlace_TooShallow, ?_⟩, fun z => nomatch z⟩⟩
      walk_at "ev"
      refine ⟨rfl, _, p.ki_InvalidNumber_PileError, ?_⟩
      walk_at "ev"
      exact out _ d qd
    · refine ⟨_, p.xm_InvalidPlace_InvalidEffect, fun z => (nomatch z), fun _ => ⟨_, p.xm_InvalidPlace_InvalidNumber, fun z => (nomatch z), fun _ => ⟨_, p.xm_InvalidPlace_InvalidPlace, fun _ a dd => ⟨rfl, rfl, _, p.kt_InvalidPlace_InvalidNumber_InvalidEffect_TooShallow, ?_⟩, fun z => nomatch z⟩⟩⟩
      walk_at "ev"
      refine ⟨rfl, _, p.ki_InvalidPlace_PileError, ?_⟩
      walk_at "ev"
      exact out _ d qd
theorem ok__law_ng_caught (p : Prog K mg) : FnG P w K mg base CX0 8 p.f__law_ng_caught p.fd__law_ng_caught ["_law_by_name", "_law_rank", "_law_shape", "_law_turns", "_law_depth", "_law_deeper"] (spT w__law_ng_caught) :=
  okT p.d__law_ng_caught.F sc__law_ng_caught (by decide) ar__law_ng_caught (fun cdv A outer s H E hg hr => ⟨_, (pss_cons (ps_asg (pe_tup (pa_cons pe_non (pa_cons pe_non pa_nil))) (pg_tup rfl (pgs_cons (pg_name (i := 6) sc__law_ng_caught.nd rfl (Or.inl rfl)) (pgs_cons (pg_name (i := 7) sc__law_ng_caught.nd rfl (Or.inl rfl)) pgs_nil))))
      (pss_cons (ps_try_manyA (i := 8) (Wout := fun _ _ _ _ => False) rfl rfl sc__law_ng_caught.nd rfl rfl takes0
      (fun W pn xe tk po => (pss_one (ps_if (pt_val (pv 0))
      (pss_one (ps_set (i := 6) sc__law_ng_caught.nd rfl (Or.inl rfl) (pe_callSG ((ok__law_ng_ask_by_name p).mono (by decide)) hg hr (by rfl) p.d__law_ng_ask_by_name.gl p.d__law_ng_ask_by_name.kp p.d__law_ng_ask_by_name.bd (fun σ => passAt tk σ) (pa_cons (pv 1) (pa_cons (pv 2) (pa_cons (pv 3) (pa_cons (pv 4) (pa_cons (pv 5) pa_nil)))))))) (pss_one (ps_set (i := 6) sc__law_ng_caught.nd rfl (Or.inl rfl) (pe_callSG ((ok__law_ng_ask p).mono (by decide)) hg hr (by rfl) p.d__law_ng_ask.gl p.d__law_ng_ask.kp p.d__law_ng_ask.bd (fun σ => passAt tk σ) (pa_cons (pv 1) (pa_cons (pv 2) (pa_cons (pv 3) (pa_cons (pv 4) (pa_cons (pv 5) pa_nil)))))))))))
      (HdsA.cons ⟨rfl, by decide, Or.inl p.e_InvalidEffect.gl⟩ (fun a oe cls d pn hz hf => (pss_one (ps_set (i := 7) sc__law_ng_caught.nd rfl (Or.inl rfl) (pe_lst (pa_cons pe_str (pa_cons (pe_xf p.e_InvalidEffect.xf p.e_InvalidEffect.nv hz hf (pv 8)) (pa_cons (pe_callB (call_isXT p.i_InvalidEffect hz hf) (by rfl) p.blt.isinstance (by decide +kernel) (pa_cons (pv 8) (pa_cons (pe_tup (pa_cons (pe_glob (v := .ref p.C_InvalidNumber) (by rfl) p.e_InvalidNumber.gl rfl) (pa_cons (pe_glob (v := .ref p.C_InvalidPlace) (by rfl) p.e_InvalidPlace.gl rfl) (pa_cons (pe_glob (v := .ref p.C_TooShallow) (by rfl) p.e_TooShallow.gl rfl) pa_nil)))) pa_nil))) (pa_cons (pe_callB (call_isX p.i_InvalidEffect hz hf) (by rfl) p.blt.isinstance (by decide +kernel) (pa_cons (pv 8) (pa_cons (pe_glob (v := .ref p.C_PileError) (by rfl) p.e_PileError.gl rfl) pa_nil))) pa_nil))))))))
      (HdsA.cons ⟨rfl, by decide, Or.inl p.e_InvalidNumber.gl⟩ (fun a oe cls d pn hz hf => (pss_one (ps_set (i := 7) sc__law_ng_caught.nd rfl (Or.inl rfl) (pe_lst (pa_cons pe_str (pa_cons (pe_xf p.e_InvalidNumber.xf p.e_InvalidNumber.nv hz hf (pv 8)) (pa_cons (pe_callB (call_isXT p.i_InvalidNumber hz hf) (by rfl) p.blt.isinstance (by decide +kernel) (pa_cons (pv 8) (pa_cons (pe_tup (pa_cons (pe_glob (v := .ref p.C_InvalidEffect) (by rfl) p.e_InvalidEffect.gl rfl) (pa_cons (pe_glob (v := .ref p.C_InvalidPlace) (by rfl) p.e_InvalidPlace.gl rfl) (pa_cons (pe_glob (v := .ref p.C_TooShallow) (by rfl) p.e_TooShallow.gl rfl) pa_nil)))) pa_nil))) (pa_cons (pe_callB (call_isX p.i_InvalidNumber hz hf) (by rfl) p.blt.isinstance (by decide +kernel) (pa_cons (pv 8) (pa_cons (pe_glob (v := .ref p.C_PileError) (by rfl) p.e_PileError.gl rfl) pa_nil))) pa_nil))))))))
      (HdsA.cons ⟨rfl, by decide, Or.inl p.e_InvalidPlace.gl⟩ (fun a oe cls d pn hz hf => (pss_one (ps_set (i := 7) sc__law_ng_caught.nd rfl (Or.inl rfl) (pe_lst (pa_cons pe_str (pa_cons (pe_xf p.e_InvalidPlace.xf p.e_InvalidPlace.nv hz hf (pv 8)) (pa_cons (pe_callB (call_isXT p.i_InvalidPlace hz hf) (by rfl) p.blt.isinstance (by decide +kernel) (pa_cons (pv 8) (pa_cons (pe_tup (pa_cons (pe_glob (v := .ref p.C_InvalidNumber) (by rfl) p.e_InvalidNumber.gl rfl) (pa_cons (pe_glob (v := .ref p.C_InvalidEffect) (by rfl) p.e_InvalidEffect.gl rfl) (pa_cons (pe_glob (v := .ref p.C_TooShallow) (by rfl) p.e_TooShallow.gl rfl) pa_nil)))) pa_nil))) (pa_cons (pe_callB (call_isX p.i_InvalidPlace hz hf) (by rfl) p.blt.isinstance (by decide +kernel) (pa_cons (pv 8) (pa_cons (pe_glob (v := .ref p.C_PileError) (by rfl) p.e_PileError.gl rfl) pa_nil))) pa_nil))))))))
      (HdsA.cons ⟨rfl, by decide, Or.inl p.e_PileError.gl⟩ (fun a oe cls d pn hz hf => (pss_one ps_never))
      HdsA.nil)))))
      (pss_one (ps_ret (pe_lst (pa_cons (pv 6) (pa_cons (pv 7) pa_nil))))))),
    fun C xc => (so_seq (so_asg (so_tup (so_cons (so_c sca_non) (so_cons (so_c sca_non) so_nil))) (so_gtup (so_gcons (so_gname (i := 6)) (so_gcons (so_gname (i := 7)) so_gnil))))
      (so_seq (so_try (kb := fun x => (kIfS (kTest (kVar 0))
  (kAsg (kCallX x (W__law_ng_ask_by_name p) 5 (kCons (kVar 1) (kCons (kVar 2) (kCons (kVar 3) (kCons (kVar 4) (kCons (kVar 5) kNil)))))) (kgName 6))
  (kAsg (kCallX x (W__law_ng_ask p) 5 (kCons (kVar 1) (kCons (kVar 2) (kCons (kVar 3) (kCons (kVar 4) (kCons (kVar 5) kNil)))))) (kgName 6)))) (fun W xc hE => (so_ifS (so_test (so_var (i := 0)))
      (so_asg (so_callXS hE (so_cons (so_var (i := 1)) (so_cons (so_var (i := 2)) (so_cons (so_var (i := 3)) (so_cons (so_var (i := 4)) (so_cons (so_var (i := 5)) so_nil)))))) (so_gname (i := 6))) (so_asg (so_callXS hE (so_cons (so_var (i := 1)) (so_cons (so_var (i := 2)) (so_cons (so_var (i := 3)) (so_cons (so_var (i := 4)) (so_cons (so_var (i := 5)) so_nil)))))) (so_gname (i := 6)))))
      (HdsSo.cons (fun a cls dd => (so_asg (so_lst (so_cons (so_c (sca_str _)) (so_cons so_xval (so_cons (so_isXT (cs := [p.C_InvalidNumber, p.C_InvalidPlace, p.C_TooShallow]) (by show (3 : Nat) ≤ 100; decide)) (so_cons so_isX so_nil))))) (so_gname (i := 7))))
      (HdsSo.cons (fun a cls dd => (so_asg (so_lst (so_cons (so_c (sca_str _)) (so_cons so_xval (so_cons (so_isXT (cs := [p.C_InvalidEffect, p.C_InvalidPlace, p.C_TooShallow]) (by show (3 : Nat) ≤ 100; decide)) (so_cons so_isX so_nil))))) (so_gname (i := 7))))
      (HdsSo.cons (fun a cls dd => (so_asg (so_lst (so_cons (so_c (sca_str _)) (so_cons so_xval (so_cons (so_isXT (cs := [p.C_InvalidNumber, p.C_InvalidEffect, p.C_TooShallow]) (by show (3 : Nat) ≤ 100; decide)) (so_cons so_isX so_nil))))) (so_gname (i := 7))))
      (HdsSo.cons (fun a cls dd => so_neverA)
      HdsSo.nil)))))
      (so_ret (so_lst (so_cons (so_mov (i := 6)) (so_cons (so_mov (i := 7)) so_nil))))))⟩) (val__law_ng_caught p)
def duT : Option (Nat × D) → D
  | none => .none
  | some (c, d) => .list [.str (nmT c), d, .bool false, .bool true]
def w__law_ng_fault : Tw := fun ds Q => ∃ b w e k r s, ds = [.int w, .bool b, dE e, .int k, .int r, .int s] ∧ (b = true ↔ ¬ Eff e) ∧ Q (duT (faT w e k r s))
theorem ar__law_ng_fault : ∀ ds G, w__law_ng_fault ds G → ds.length = 6 := by
  rintro ds G ⟨b, w, e, k, r, s, rfl, _⟩
  rfl
def kr__law_ng_fault_1 : KS := (kRet (kIf (kTAnd (kTest (kOp (vEq false) (kVar 0) (kC (.int 7)))) (kTest (kOp (vB fun i j => decide (i < j)) (kVar 5) (kC (.int 1))))) (kMk true 4 (kCons (kC (.str ("place" : String))) (kCons (kVar 5) (kCons (kC (.bool false)) (kCons (kC (.bool true)) kNil))))) (kC .none)))
def kr__law_ng_fault_2 : KS := (kSeq (kIfS (kTAnd (kTest (kOp (vIn false) (kVar 0) (kLit (.tuple [(.int 1), (.int 2), (.int 4), (.int 5), (.int 6), (.int 7)])))) (kTest (kOp (vB fun i j => decide (i < j)) (kVar 4) (kC (.int 1)))))
  (kRet (kMk true 4 (kCons (kC (.str ("place" : String))) (kCons (kVar 4) (kCons (kC (.bool false)) (kCons (kC (.bool true)) kNil))))))
  kNext)
  kr__law_ng_fault_1)
def kr__law_ng_fault_3 : KS := (kSeq (kIfS (kTAnd (kTest (kOp (vIn false) (kVar 0) (kLit (.tuple [(.int 0), (.int 1), (.int 3), (.int 4)])))) (kTest (kOp (vB fun i j => decide (i < j)) (kVar 3) (kC (.int 0)))))
  (kRet (kMk true 4 (kCons (kC (.str ("number" : String))) (kCons (kVar 3) (kCons (kC (.bool false)) (kCons (kC (.bool true)) kNil))))))
  kNext)
  kr__law_ng_fault_2)
def k__law_ng_fault : KS := (kSeq (kIfS (kTest (kVar 1))
  (kRet (kMk true 4 (kCons (kC (.str ("effect" : String))) (kCons (kCallT w__law_ng_copy 1 (kCons (kVar 2) kNil)) (kCons (kC (.bool false)) (kCons (kC (.bool true)) kNil))))))
  kNext)
  kr__law_ng_fault_3)
local macro_rules | `(tactic| walk_at "go") => `(tactic| ((first | unfold kr__law_ng_fault_1 | unfold kr__law_ng_fault_2 | unfold kr__law_ng_fault_3); walk_at "ev"))
theorem val__law_ng_fault : ∀ ds G, w__law_ng_fault ds G → k__law_ng_fault ⟨ds.map Sl.fz ++ [], [], 0⟩ (edT G) := by
  rintro ds Gq ⟨b, w, e, k, r, s, rfl, hb, q⟩
  have e1 : inV (V.int w) [V.int 0, V.int 1, V.int 3, V.int 4] = decide (w = 0 ∨ w = 1 ∨ w = 3 ∨ w = 4) := by
    have := inV_ints w [0, 1, 3, 4]
    simpa using this
  have e2 : inV (V.int w) [V.int 1, V.int 2, V.int 4, V.int 5, V.int 6, V.int 7] = decide (w = 1 ∨ w = 2 ∨ w = 4 ∨ w = 5 ∨ w = 6 ∨ w = 7) := by
    have := inV_ints w [1, 2, 4, 5, 6, 7]
    simpa using this
  unfold k__law_ng_fault
  walk_at "ev"
  refine iteB (fun c0 => ?_) (fun c0 => ?_)
  · refine ⟨e, rfl, ?_⟩
    rw [faT_eff (hb.mp c0)] at q
    exact q
  have ef : Eff e := Classical.byContradiction fun z => by rw [hb.mpr z] at c0; cases c0
  walk_at "go"
  rw [e1]
  have snd : ¬ ((w = 1 ∨ w = 2 ∨ w = 4 ∨ w = 5 ∨ w = 6 ∨ w = 7) ∧ r < 1) → ((w = 0 ∨ w = 1 ∨ w = 3 ∨ w = 4) → 0 ≤ k) → kr__law_ng_fault_1 ⟨[.fz (.int w), .fz (.bool b), .fz (dE e), .fz (.int k), .fz (.int r), .fz (.int s)], [], 0⟩ (edT Gq) := fun h hk => by
    walk_at "go"
    have other : ¬ (w = 7 ∧ s < 1) → Gq .none := fun z => by
      rw [faT_none ef hk (by omega) (by omega)] at q
      exact q
    refine iteB (fun c2 => ?_) (fun c2 => ?_)
    · obtain rfl : w = 7 := of_decide_eq_true c2
      refine iteB (fun c3 => ?_) (fun c3 => ?_)
      · have c3 := of_decide_eq_true c3
        rw [faT_snd ef (by omega) c3] at q
        exact q
      · exact other (by have := of_decide_eq_false c3; omega)
    · exact other (by have := of_decide_eq_false c2; omega)
  have fst : ((w = 0 ∨ w = 1 ∨ w = 3 ∨ w = 4) → 0 ≤ k) → kr__law_ng_fault_2 ⟨[.fz (.int w), .fz (.bool b), .fz (dE e), .fz (.int k), .fz (.int r), .fz (.int s)], [], 0⟩ (edT Gq) := fun hk => by
    walk_at "go"
    rw [e2]
    refine iteB (fun c2 => ?_) (fun c2 => ?_)
    · have c2 := of_decide_eq_true c2
      refine iteB (fun c3 => ?_) (fun c3 => ?_)
      · have c3 := of_decide_eq_true c3
        rw [faT_plc ef hk c2 c3] at q
        exact q
      · exact snd (by have := of_decide_eq_false c3; omega) hk
    · exact snd (fun z => of_decide_eq_false c2 z.1) hk
  refine iteB (fun c2 => ?_) (fun c2 => ?_)
  · have c2 := of_decide_eq_true c2
    refine iteB (fun c3 => ?_) (fun c3 => ?_)
    · have c3 := of_decide_eq_true c3
      rw [faT_num ef c2 c3] at q
      exact q
    · exact fst (by have := of_decide_eq_false c3; omega)
  · exact fst (fun z => absurd z (of_decide_eq_false c2))
theorem ok__law_ng_fault (p : Prog K mg) : FnG P w K mg base CX0 2 p.f__law_ng_fault p.fd__law_ng_fault ["_law_rank", "_law_is_bad", "_law_shape", "_law_turns", "_law_depth", "_law_deeper"] (spT w__law_ng_fault) :=
  okT p.d__law_ng_fault.F sc__law_ng_fault (by decide) ar__law_ng_fault (fun cdv A outer s H E hg hr => ⟨_, (pss_cons (ps_if (pt_val (pv 1))
      (pss_one (ps_ret (pe_lst (pa_cons pe_str (pa_cons (pe_callG ((ok__law_ng_copy p).mono (by decide)) hg hr (by rfl) p.d__law_ng_copy.gl p.d__law_ng_copy.kp p.d__law_ng_copy.bd pass0 (pa_cons (pv 2) pa_nil)) (pa_cons pe_bl (pa_cons pe_bl pa_nil))))))) pss_nil)
      (pss_cons (ps_if (PW.pt (pw_and (pt_cmpR op_in_seq (pv 0) (pe_tup (pa_cons pe_int (pa_cons pe_int (pa_cons pe_int (pa_cons pe_int pa_nil))))) rfl) (pw_and1 (pt_cmpR op_lt (pv 3) pe_int (nomark _)))))
      (pss_one (ps_ret (pe_lst (pa_cons pe_str (pa_cons (pv 3) (pa_cons pe_bl (pa_cons pe_bl pa_nil))))))) pss_nil)
      (pss_cons (ps_if (PW.pt (pw_and (pt_cmpR op_in_seq (pv 0) (pe_tup (pa_cons pe_int (pa_cons pe_int (pa_cons pe_int (pa_cons pe_int (pa_cons pe_int (pa_cons pe_int pa_nil))))))) rfl) (pw_and1 (pt_cmpR op_lt (pv 4) pe_int (nomark _)))))
      (pss_one (ps_ret (pe_lst (pa_cons pe_str (pa_cons (pv 4) (pa_cons pe_bl (pa_cons pe_bl pa_nil))))))) pss_nil)
      (pss_one (ps_ret (pe_ifExp (PW.pt (pw_and (pt_cmpR op_eq (pv 0) pe_int (nomark _)) (pw_and1 (pt_cmpR op_lt (pv 5) pe_int (nomark _))))) (pe_lst (pa_cons pe_str (pa_cons (pv 5) (pa_cons pe_bl (pa_cons pe_bl pa_nil))))) pe_non)))))),
    fun C xc => (so_seq (so_ifS (so_test (so_var (i := 1)))
      (so_ret (so_lst (so_cons (so_c (sca_str _)) (so_cons (so_callT (so_cons (so_var (i := 2)) so_nil)) (so_cons (so_c (sca_bl _)) (so_cons (so_c (sca_bl _)) so_nil)))))) so_next)
      (so_seq (so_ifS (so_tand (so_test (so_op sr_in (so_var (i := 0)) (so_lit_tup (so_lits_cons (so_lit_c (sca_int _) rfl) (so_lits_cons (so_lit_c (sca_int _) rfl) (so_lits_cons (so_lit_c (sca_int _) rfl) (so_lits_cons (so_lit_c (sca_int _) rfl) so_lits_nil))))))) (so_test (so_op sr_B (so_var (i := 3)) (so_c (sca_int _)))))
      (so_ret (so_lst (so_cons (so_c (sca_str _)) (so_cons (so_var (i := 3)) (so_cons (so_c (sca_bl _)) (so_cons (so_c (sca_bl _)) so_nil)))))) so_next)
      (so_seq (so_ifS (so_tand (so_test (so_op sr_in (so_var (i := 0)) (so_lit_tup (so_lits_cons (so_lit_c (sca_int _) rfl) (so_lits_cons (so_lit_c (sca_int _) rfl) (so_lits_cons (so_lit_c (sca_int _) rfl) (so_lits_cons (so_lit_c (sca_int _) rfl) (so_lits_cons (so_lit_c (sca_int _) rfl) (so_lits_cons (so_lit_c (sca_int _) rfl) so_lits_nil))))))))) (so_test (so_op sr_B (so_var (i := 4)) (so_c (sca_int _)))))
      (so_ret (so_lst (so_cons (so_c (sca_str _)) (so_cons (so_var (i := 4)) (so_cons (so_c (sca_bl _)) (so_cons (so_c (sca_bl _)) so_nil)))))) so_next)
      (so_ret (so_if (so_tand (so_test (so_op sr_eq (so_var (i := 0)) (so_c (sca_int _)))) (so_test (so_op sr_B (so_var (i := 5)) (so_c (sca_int _))))) (so_lst (so_cons (so_c (sca_str _)) (so_cons (so_var (i := 5)) (so_cons (so_c (sca_bl _)) (so_cons (so_c (sca_bl _)) so_nil))))) (so_c sca_non))))))⟩) val__law_ng_fault
def w__law_ng_k25 : Tw := fun ds Q => ds = [] ∧ Q (.bool true)
theorem ar__law_ng_k25 : ∀ ds G, w__law_ng_k25 ds G → ds.length + 1 = 1 := by
  rintro ds G ⟨rfl, _⟩
  rfl
def kr__law_ng_k25_1 : KS := (kIfS (kTest (kOp (vIsN true) (kIx true (kVar 16) (kC (.int 1))) (kC .none)))
  (kRet (kC (.bool false)))
  kNext)
def kr__law_ng_k25_2 : KS := (kSeq (kIfS (kTNot (kTest (kCallT w__law_ng_is 2 (kCons (kVar 16) (kCons (kCallT w__law_ng_caught 6 (kCons (kVar 2) (kCons (kVar 1) (kCons (kMk false 2 (kCons (kIx false (kVar 9) (kC (.int 0))) (kCons (kLit (.list [])) kNil))) (kCons (kVar 4) (kCons (kVar 6) (kCons (kVar 7) kNil))))))) kNil)))))
  (kRet (kC (.bool false)))
  kNext)
  kr__law_ng_k25_1)
def kr__law_ng_k25_3 : KS := (kSeq (kAsg (kCallT w__law_ng_caught 6 (kCons (kVar 2) (kCons (kVar 1) (kCons (kVar 9) (kCons (kVar 4) (kCons (kVar 6) (kCons (kVar 7) kNil))))))) (kgName 16))
  kr__law_ng_k25_2)
def kr__law_ng_k25_4 : KS := (kRet (kAndV (kOp (vIsN false) (kIx true (kVar 8) (kC (.int 1))) (kC .none)) (kCallT w__law_ng_is 2 (kCons (kVar 8) (kCons (kVar 17) kNil)))))
def kr__law_ng_k25_5 : KS := (kSeq (kAsg (kCallT w__law_ng_caught 6 (kCons (kVar 2) (kCons (kVar 1) (kCons (kCallT w__law_ng_copy 1 (kCons (kVar 3) kNil)) (kCons (kVar 4) (kCons (kVar 6) (kCons (kVar 7) kNil))))))) (kgName 17))
  kr__law_ng_k25_4)
def kr__law_ng_k25_6 : KS := (kSeq (kIfS (kTest (kOp (vB fun i j => decide (j ≤ i)) (kIx false (kVar 9) (kC (.int 0))) (kC (.int 0))))
  (kSeq (kDrop (kClear (kIx false (kVar 9) (kC (.int 1)))))
  kr__law_ng_k25_3)
  kNext)
  kr__law_ng_k25_5)
def kr__law_ng_k25_7 : KS := (kSeq (kIfS (kTest (kOp (vEq true) (kF 1 vRepr (kCons (kVar 9) kNil)) (kVar 13)))
  (kRet (kC (.bool false)))
  kNext)
  kr__law_ng_k25_6)
def kr__law_ng_k25_8 : KS := (kSeq (kIfS (kTAnd (kTest (kOp (vIsN true) (kVar 14) (kC .none))) (kTest (kOp (vEq false) (kIx true (kVar 14) (kC (.int 0))) (kC (.str ("effect" : String))))))
  (kDrop (kApp (kIx false (kIx true (kIx true (kVar 15) (kC (.int 1))) (kC (.int 1))) (kC (.int 1))) (kC (.int 7))))
  kNext)
  kr__law_ng_k25_7)
def kr__law_ng_k25_9 : KS := (kSeq (kIfS (kTNot (kTest (kCallT w__law_ng_is 2 (kCons (kIx true (kVar 15) (kC (.int 1))) (kCons (kVar 14) kNil)))))
  (kRet (kC (.bool false)))
  kNext)
  kr__law_ng_k25_8)
def kr__law_ng_k25_10 : KS := (kSeq (kAsg (kCallT w__law_ng_caught 6 (kCons (kVar 2) (kCons (kVar 1) (kCons (kVar 9) (kCons (kIx true (kVar 12) (kC (.int 0))) (kCons (kIx true (kVar 12) (kC (.int 1))) (kCons (kIx true (kVar 12) (kC (.int 2))) kNil))))))) (kgName 15))
  kr__law_ng_k25_9)
def kr__law_ng_k25_11 : KS := (kSeq (kAsg (kCallT w__law_ng_fault 6 (kCons (kVar 1) (kCons (kVar 5) (kCons (kVar 9) (kCons (kIx true (kVar 12) (kC (.int 0))) (kCons (kIx true (kVar 12) (kC (.int 1))) (kCons (kIx true (kVar 12) (kC (.int 2))) kNil))))))) (kgName 14))
  kr__law_ng_k25_10)
def kr__law_ng_k25_12 : KS := (kSeq (kPar 12 13 (kCons (kIx true (kFrz 11) (kCallP 1 w__law_coin 1 (kCons (kVar 0) (kCons (kC (.int 6)) kNil)))) (kCons (kF 1 vRepr (kCons (kVar 9) kNil)) kNil)))
  kr__law_ng_k25_11)
def kr__law_ng_k25_13 : KS := (kSeq (kAsg (kCat (kFrz 11) (kMk true 2 (kCons (kMk true 3 (kCons (kOp (vI noC fun i j => i - j) (kVar 10) (kC (.int 1))) (kCons (kVar 10) (kCons (kOp (vI noC fun i j => i - j) (kC (.int 1)) (kVar 7)) kNil)))) (kCons (kMk true 3 (kCons (kVar 4) (kCons (kVar 10) (kCons (kUn vNeg (kVar 7)) kNil)))) kNil)))) (kgName 11))
  kr__law_ng_k25_12)
def kr__law_ng_k25_14 : KS := (kSeq (kAsg (kMk true 4 (kCons (kMk true 3 (kCons (kVar 4) (kCons (kVar 6) (kCons (kVar 7) kNil)))) (kCons (kMk true 3 (kCons (kOp (vI noC fun i j => i - j) (kVar 10) (kC (.int 1))) (kCons (kVar 6) (kCons (kVar 7) kNil)))) (kCons (kMk true 3 (kCons (kVar 4) (kCons (kVar 10) (kCons (kVar 7) kNil)))) (kCons (kMk true 3 (kCons (kVar 4) (kCons (kVar 6) (kCons (kVar 10) kNil)))) kNil))))) (kgName 11))
  kr__law_ng_k25_13)
def kr__law_ng_k25_15 : KS := (kSeq (kAsg (kUn vNeg (kCallP 2 w__law_ng_number 1 (kCons (kVar 0) (kCons (kOp (vI noC fun i j => i - j) (kOp (vI CPowW fun i j => i ^ j.toNat) (kC (.int 10)) (kC (.int 30))) (kC (.int 1))) kNil)))) (kgName 10))
  kr__law_ng_k25_14)
def kr__law_ng_k25_16 : KS := (kSeq (kAsg (kIf (kTest (kVar 5)) (kCallP 800 w__law_ng_bad 0 (kCons (kVar 0) kNil)) (kCallT w__law_ng_copy 1 (kCons (kVar 3) kNil))) (kgName 9))
  kr__law_ng_k25_15)
def kr__law_ng_k25_17 : KS := (kSeq (kAsg (kCallT w__law_ng_caught 6 (kCons (kVar 2) (kCons (kVar 1) (kCons (kCallT w__law_ng_copy 1 (kCons (kVar 3) kNil)) (kCons (kVar 4) (kCons (kVar 6) (kCons (kVar 7) kNil))))))) (kgName 8))
  kr__law_ng_k25_16)
def kr__law_ng_k25_18 : KS := (kSeq (kPar 6 7 (kCons (kOp (vI noC fun i j => i + j) (kC (.int 1)) (kCallP 2 w__law_ng_number 1 (kCons (kVar 0) (kCons (kC (.int 59)) kNil)))) (kCons (kOp (vI noC fun i j => i + j) (kC (.int 1)) (kCallP 2 w__law_ng_number 1 (kCons (kVar 0) (kCons (kC (.int 59)) kNil)))) kNil)))
  kr__law_ng_k25_17)
def kr__law_ng_k25_19 : KS := (kSeq (kPar 4 5 (kCons (kCallP 2 w__law_ng_number 1 (kCons (kVar 0) (kCons (kC (.int 40)) kNil))) (kCons (kOp (vEq false) (kCallP 1 w__law_coin 1 (kCons (kVar 0) (kCons (kC (.int 3)) kNil))) (kC (.int 0))) kNil)))
  kr__law_ng_k25_18)
def k__law_ng_k25 : KS := (kSeq (kPar3 1 2 3 (kCons (kCallP 1 w__law_coin 1 (kCons (kVar 0) (kCons (kC (.int 9)) kNil))) (kCons (kOp (vEq false) (kCallP 1 w__law_coin 1 (kCons (kVar 0) (kCons (kC (.int 2)) kNil))) (kC (.int 0))) (kCons (kCallP 500 w__law_ng_shape 2 (kCons (kVar 0) (kCons (kC (.int 6)) (kCons (kC (.int 8)) kNil)))) kNil))))
  kr__law_ng_k25_19)
local macro_rules | `(tactic| walk_at "go") => `(tactic| ((first | unfold kr__law_ng_k25_1 | unfold kr__law_ng_k25_2 | unfold kr__law_ng_k25_3 | unfold kr__law_ng_k25_4 | unfold kr__law_ng_k25_5 | unfold kr__law_ng_k25_6 | unfold kr__law_ng_k25_7 | unfold kr__law_ng_k25_8 | unfold kr__law_ng_k25_9 | unfold kr__law_ng_k25_10 | unfold kr__law_ng_k25_11 | unfold kr__law_ng_k25_12 | unfold kr__law_ng_k25_13 | unfold kr__law_ng_k25_14 | unfold kr__law_ng_k25_15 | unfold kr__law_ng_k25_16 | unfold kr__law_ng_k25_17 | unfold kr__law_ng_k25_18 | unfold kr__law_ng_k25_19); walk_at "ev"))
theorem sh_nm (c : Nat) : Sh 1 205 (.str (nmT c)) := by
  have h0 : PyData.showable (.str (("effect" : String) : Str)) = true ∧ PyData.depth (.str (("effect" : String) : Str)) ≤ 1 ∧ G.wd (.str (("effect" : String) : Str)) ≤ 205 := by decide +kernel
  have h1 : PyData.showable (.str (("number" : String) : Str)) = true ∧ PyData.depth (.str (("number" : String) : Str)) ≤ 1 ∧ G.wd (.str (("number" : String) : Str)) ≤ 205 := by decide +kernel
  have h2 : PyData.showable (.str (("place" : String) : Str)) = true ∧ PyData.depth (.str (("place" : String) : Str)) ≤ 1 ∧ G.wd (.str (("place" : String) : Str)) ≤ 205 := by decide +kernel
  match c with
  | 0 => exact ⟨h0.1, h0.2.1, h0.2.2⟩
  | 1 => exact ⟨h1.1, h1.2.1, h1.2.2⟩
  | _ + 2 => exact ⟨h2.1, h2.2.1, h2.2.2⟩
theorem sh_fa {w : Int} {e : Int × List Int} {k r s : Int} {c : Nat} {d : D} (h : faT w e k r s = some (c, d)) (he : Sh 3 1700000 (dE e)) (hk : k.natAbs < 2 ^ 200) (hr : r.natAbs < 2 ^ 200) (hs : s.natAbs < 2 ^ 200) : Sh 3 1700000 d := by
  unfold faT at h
  split at h
  · cases h; exact he
  · split at h
    · cases h; exact (sh_int hk).mono (by decide) (by decide)
    · split at h
      · cases h; exact (sh_int hr).mono (by decide) (by decide)
      · split at h
        · cases h; exact (sh_int hs).mono (by decide) (by decide)
        · cases h
theorem sh_du {c : Nat} {d : D} (h : Sh 3 1700000 d) : Sh 60 10000000 (.list [.str (nmT c), d, .bool false, .bool true]) := by
  refine (sh_list (k := 3) (B := 1700000) (n := 4) (fun e m => ?_) (by simp)).mono (by omega) (by omega)
  simp only [List.mem_cons, List.not_mem_nil, or_false] at m
  rcases m with rfl | rfl | rfl | rfl
  · exact (sh_nm c).mono (by decide) (by decide)
  · exact h
  · exact (sh_bool _).mono (by decide) (by decide)
  · exact (sh_bool _).mono (by decide) (by decide)
theorem fa_eff {w : Int} {e : Int × List Int} {k r s : Int} {c : Nat} {d : D} (h : faT w e k r s = some (c, d)) (hc : nmT c = (("effect" : String) : Str)) : d = dE e := by
  have n1 : nmT 1 ≠ (("effect" : String) : Str) := by decide +kernel
  have n2 : nmT 2 ≠ (("effect" : String) : Str) := by decide +kernel
  unfold faT at h
  split at h
  · cases h; rfl
  · split at h
    · cases h; exact absurd hc n1
    · split at h
      · cases h; exact absurd hc n2
      · split at h
        · cases h; exact absurd hc n2
        · cases h
theorem val__law_ng_k25 : ∀ ds G, w__law_ng_k25 ds G → k__law_ng_k25 ⟨.pu :: (ds.map Sl.fz ++ [.jk, .jk, .jk, .jk, .jk, .jk, .jk, .jk, .jk, .jk, .jk, .jk, .jk, .jk, .jk, .jk, .jk]), [], 100000⟩ (edP G) := by
  rintro ds Gq ⟨rfl, q⟩
  unfold k__law_ng_k25
  walk_at "ev"
  refine ⟨by decide, 9, rfl, by decide, by decide, fun w w0 w1 => ?_⟩
  walk_at "ev"
  refine ⟨by decide, 2, rfl, by decide, by decide, fun bn b0 b1 => ?_⟩
  walk_at "ev"
  refine ⟨by decide, 6, 8, rfl, by decide, by decide, by decide, by decide, fun n gs ef lf hn hl => ?_⟩
  have n0 : 0 ≤ n := ef.nn
  have n6 : n ≤ 6 := by omega
  have l8 : gs.length ≤ 8 := by omega
  clear hn hl
  generalize (decide (bn = 0)) = bb
  walk_at "ev"
  walk_at "go"
  refine ⟨by decide, 40, rfl, by decide, by decide, fun k k0 k1 => ?_⟩
  walk_at "ev"
  refine ⟨by decide, 3, rfl, by decide, by decide, fun bd c0 c1 => ?_⟩
  walk_at "ev"
  walk_at "go"
  refine ⟨by decide, 59, rfl, by decide, by decide, fun r r0 r1 => ?_⟩
  walk_at "ev"
  refine ⟨by decide, 59, rfl, by decide, by decide, fun s s0 s1 => ?_⟩
  walk_at "ev"
  obtain ⟨r', hr⟩ : ∃ r', 1 + r = r' := ⟨_, rfl⟩
  obtain ⟨s', hs⟩ : ∃ s', 1 + s = s' := ⟨_, rfl⟩
  rw [hr, hs]
  have r0 : 1 ≤ r' := by omega
  have r1 : r' ≤ 60 := by omega
  have s0 : 1 ≤ s' := by omega
  have s1 : s' ≤ 60 := by omega
  clear hr hs
  have B : ∀ {e : Int × List Int} {k r s : Int}, e.1 ≤ 6 → e.2.length ≤ 1000 → (Eff e → e.2.length ≤ 8) → k ≤ 40 → r ≤ 60 → s ≤ 60 → BdT e k r s := fun a b c d e f => ⟨a, b, c, d, e, f⟩
  have gB : BdT (n, gs) k r' s' := B n6 (by dsimp only; omega) (fun _ => l8) (by omega) r1 s1
  have gN : faT w (n, gs) k r' s' = none := faT_none ef (fun _ => k0) (fun _ => r0) (fun _ => s0)
  walk_at "go"
  refine ⟨(n, gs), rfl, ?_⟩
  walk_at "ev"
  refine ⟨bb, w, (n, gs), k, r', s', rfl, w0, by omega, gB, fun _ ahead hA => ?_, fun c d h => by rw [gN] at h; cases h⟩
  walk_at "ev"
  have rest : ∀ (bad : Bool) (m : Int) (hs : List Int) (j : Int), 2000 ≤ j → (bad = true ↔ ¬ Eff (m, hs)) → m ≤ 6 → m.natAbs ≤ 10000000000000000000000000000001 → hs.length ≤ 1000 → (Eff (m, hs) → hs.length ≤ 8) → (∀ x ∈ hs, x.natAbs ≤ 10000000000000000000000000000001) →
      kr__law_ng_k25_15 ⟨[.pu, .fz (.int w), .fz (.bool bb), .ow true (dE (n, gs)), .fz (.int k), .fz (.bool bad), .fz (.int r'), .fz (.int s'), .ow true (.list [ahead, .none]), .ow true (dE (m, hs)), .jk, .jk, .jk, .jk, .jk, .jk, .jk, .jk], [], j⟩ (edP Gq) := fun bad m hs j hj hb m6 mb hl h8 hx => by
    have c30 : CPowW 10 30 := by unfold CPowW; decide
    have e30 : (10 : Int) ^ (30 : Int).toNat = 1000000000000000000000000000000 := by decide
    walk_at "go"
    refine ⟨c30, ⟨by decide, by omega⟩, _, rfl, by rw [e30]; decide, by rw [e30]; decide, fun i i0 i1 => ?_⟩
    rw [e30] at i1
    obtain ⟨b, hb'⟩ : ∃ b, -i = b := ⟨_, rfl⟩
    walk_at "ev"
    rw [hb']
    have b0 : b ≤ 0 := by omega
    have b1 : b.natAbs ≤ 10000000000000000000000000000001 := by omega
    clear hb'
    walk_at "go"
    walk_at "go"
    walk_at "go"
    refine ⟨by decide, ⟨by decide, by omega⟩, 6, rfl, by decide, by decide, fun u u0 u1 => ?_⟩
    walk_at "ev"
    refine ixD_any u0 (by simpa using u1) fun o ho => ?_
    obtain ⟨lk, lr, ls, rfl, lk1, lk2, lr1, lr2, ls1, ls2⟩ : ∃ lk lr ls : Int, o = .list [.int lk, .int lr, .int ls] ∧ lk ≤ 40 ∧ lk.natAbs ≤ 10000000000000000000000000000002 ∧ lr ≤ 60 ∧ lr.natAbs ≤ 10000000000000000000000000000002 ∧ ls ≤ 60 ∧ ls.natAbs ≤ 10000000000000000000000000000002 := by
      have hm := List.mem_of_getElem? ho
      simp only [List.mem_cons, List.not_mem_nil, or_false] at hm
      rcases hm with rfl | rfl | rfl | rfl | rfl | rfl <;> exact ⟨_, _, _, rfl, by omega, by omega, by omega, by omega, by omega, by omega⟩
    clear ho
    have shs : Sh 3 1700000 (dE (m, hs)) := sh_eff (by dsimp only; omega) (fun x hx' => by have := hx x hx'; omega) (by dsimp only; omega)
    refine ⟨shs.sh, Nat.le_trans shs.dp (by decide), Nat.le_trans shs.wd (by decide), ?_⟩
    walk_at "ev"
    generalize Sl.fz (PyData.list [PyData.list [PyData.int k, PyData.int r', PyData.int s'], PyData.list [PyData.int (b - 1), PyData.int r', PyData.int s'], PyData.list [PyData.int k, PyData.int b, PyData.int s'], PyData.list [PyData.int k, PyData.int r', PyData.int b], PyData.list [PyData.int (b - 1), PyData.int b, PyData.int (1 - s')], PyData.list [PyData.int k, PyData.int b, PyData.int (-s')]]) = LL
    walk_at "go"
    refine ⟨bad, w, (m, hs), lk, lr, ls, rfl, hb, ?_⟩
    walk_at "ev"
    obtain ⟨fo, hfo⟩ : ∃ fo, faT w (m, hs) lk lr ls = fo := ⟨_, rfl⟩
    rw [hfo]
    have bB : BdT (m, hs) lk lr ls := B m6 hl h8 lk1 lr1 ls1
    have p200 : ∀ x : Int, x.natAbs ≤ 10000000000000000000000000000002 → x.natAbs < 2 ^ 200 := fun x hx => by
      have e200 : (2 : Nat) ^ 200 = 1606938044258990275541962092341162602522202993782792835301376 := by decide
      omega
    have last : ∀ (T U : Sl), kr__law_ng_k25_7 ⟨[.pu, .fz (.int w), .fz (.bool bb), .ow true (dE (n, gs)), .fz (.int k), .fz (.bool bad), .fz (.int r'), .fz (.int s'), .ow true (.list [ahead, .none]), .ow true (dE (m, hs)), .fz (.int b), LL, .fz (.list [.int lk, .int lr, .int ls]), .fz (.str (PyData.shown (dE (m, hs)))), T, U, .jk, .jk], [], j - 2 - 1⟩ (edP Gq) := fun T U => by
      walk_at "go"
      refine ⟨shs.sh, Nat.le_trans shs.dp (by decide), Nat.le_trans shs.wd (by decide), ?_⟩
      have shl : ∀ {d : D}, Sh 10 2000000 d → Sh 60 10000000 (.list [d, .none]) := fun {d} h => by
        refine (sh_list (k := 10) (B := 2000000) (n := 2) (fun e m => ?_) (by simp)).mono (by omega) (by omega)
        simp only [List.mem_cons, List.not_mem_nil, or_false] at m
        rcases m with rfl | rfl
        · exact h
        · exact sh_none.mono (by decide) (by decide)
      have fin : ∀ (b1 : Sl) (X Y : Sl), kr__law_ng_k25_5 ⟨[.pu, .fz (.int w), .fz (.bool bb), .ow true (dE (n, gs)), .fz (.int k), .fz (.bool bad), .fz (.int r'), .fz (.int s'), .ow true (.list [ahead, .none]), b1, .fz (.int b), LL, .fz (.list [.int lk, .int lr, .int ls]), .fz (.str (PyData.shown (dE (m, hs)))), T, U, X, Y], [], j - 2 - 1⟩ (edP Gq) := fun b1 X Y => by
        walk_at "go"
        refine ⟨(n, gs), rfl, ?_⟩
        walk_at "ev"
        refine ⟨bb, w, (n, gs), k, r', s', rfl, w0, by omega, gB, fun _ behind hB => ?_, fun c d h => by rw [gN] at h; cases h⟩
        walk_at "ev"
        walk_at "go"
        have := hA.uniq hB
        subst this
        refine ⟨_, _, rfl, rfl, shl hA.1, ?_⟩
        walk_at "ev"
        exact ⟨by omega, q⟩
      walk_at "go"
      refine iteB (fun cm => ?_) (fun cm => ?_)
      · have cm := of_decide_eq_true cm
        have em : Eff (m, []) := ⟨cm, fun x hx => (nomatch hx), fun x hx => (nomatch hx)⟩
        have mB : BdT (m, []) k r' s' := B m6 (by simp) (fun _ => by simp) (by omega) r1 s1
        have mN : faT w (m, []) k r' s' = none := faT_none em (fun _ => k0) (fun _ => r0) (fun _ => s0)
        walk_at "go"
        refine ⟨bb, w, (m, []), k, r', s', rfl, w0, by omega, mB, fun _ later hL => ?_, fun c d h => by rw [mN] at h; cases h⟩
        walk_at "ev"
        walk_at "go"
        refine ⟨bb, w, (m, []), k, r', s', rfl, w0, by omega, mB, fun _ later' hL' => ?_, fun c d h => by rw [mN] at h; cases h⟩
        have := hL.uniq hL'
        subst this
        walk_at "ev"
        refine ⟨_, _, rfl, rfl, shl hL.1, ?_⟩
        walk_at "ev"
        walk_at "go"
        exact fin _ _ _
      · exact fin _ _ _
    cases fo with
    | none =>
      rw [show own (duT none) = Sl.fz .none from rfl]
      walk_at "go"
      refine ⟨bb, w, (m, hs), lk, lr, ls, rfl, w0, by omega, bB, fun _ d hd => ?_, fun c d h => by rw [hfo] at h; cases h⟩
      walk_at "ev"
      walk_at "go"
      refine ⟨_, _, rfl, rfl, sh_none.mono (by decide) (by decide), ?_⟩
      walk_at "ev"
      walk_at "go"
      exact last _ _
    | some fo =>
      obtain ⟨c, d⟩ := fo
      rw [show own (duT (some (c, d))) = Sl.ow true (.list [.str (nmT c), d, .bool false, .bool true]) from rfl]
      walk_at "go"
      refine ⟨bb, w, (m, hs), lk, lr, ls, rfl, w0, by omega, bB, fun h => (by rw [hfo] at h; cases h), fun c' d' h => ?_⟩
      obtain ⟨rfl, rfl⟩ : c' = c ∧ d' = d := by rw [hfo] at h; cases h; exact ⟨rfl, rfl⟩
      have shd := sh_fa h shs (p200 _ lk2) (p200 _ lr2) (p200 _ ls2)
      by_cases hc : nmT c' = (("effect" : String) : Str)
      · obtain rfl := fa_eff h hc
        walk_at "ev"
        walk_at "go"
        refine ⟨_, _, rfl, rfl, sh_du shd, ?_⟩
        walk_at "ev"
        walk_at "go"
        rw [decide_eq_true hc]
        refine iteT ?_
        refine ⟨by omega, ?_⟩
        exact last _ _
      · walk_at "ev"
        walk_at "go"
        refine ⟨_, _, rfl, rfl, sh_du shd, ?_⟩
        walk_at "ev"
        walk_at "go"
        rw [decide_eq_false hc]
        refine iteF ?_
        exact last _ _
  walk_at "go"
  refine iteB (fun cb => ?_) (fun cb => ?_)
  · refine ⟨by decide, rfl, fun m hs a1 a2 a3 a4 a5 => ?_⟩
    walk_at "ev"
    exact rest _ m hs _ (by decide) (by rw [cb]; exact ⟨fun _ => a5, fun _ => rfl⟩) a1 a2 (by omega) (fun z => absurd z a5) a4
  · refine ⟨(n, gs), rfl, ?_⟩
    walk_at "ev"
    refine rest _ n gs _ (by decide) (by rw [cb]; exact ⟨fun z => (nomatch z), fun z => absurd ef z⟩) n6 (by omega) (by omega) (fun _ => l8) fun x hx => ?_
    have := ef.ge x hx
    have := ef.le x hx
    omega
theorem ok__law_ng_k25 (p : Prog K mg) : FnG P w K mg base CX0 9 p.f__law_ng_k25 p.fd__law_ng_k25 ["_law_purse"] (spP 100000 w__law_ng_k25) :=
  okP p.d__law_ng_k25.F sc__law_ng_k25 (by decide) ar__law_ng_k25 (by decide) (fun cdv A outer s H E hg hr => ⟨_, (pss_cons (ps_par3 (i := 1) (j := 2) (l := 3) rfl sc__law_ng_k25.nd rfl rfl rfl (by decide) (by decide) (by decide) rfl rfl rfl (pa_cons (pe_callG ((ok__law_coin p).mono (by decide)) hg hr (by rfl) p.d__law_coin.gl p.d__law_coin.kp p.d__law_coin.bd pass0 (pa_cons (pv 0) (pa_cons pe_int pa_nil))) (pa_cons (pe_cmpR op_eq (pe_callG ((ok__law_coin p).mono (by decide)) hg hr (by rfl) p.d__law_coin.gl p.d__law_coin.kp p.d__law_coin.bd pass0 (pa_cons (pv 0) (pa_cons pe_int pa_nil))) pe_int (nomark _)) (pa_cons (pe_callG ((ok__law_ng_shape p).mono (by decide)) hg hr (by rfl) p.d__law_ng_shape.gl p.d__law_ng_shape.kp p.d__law_ng_shape.bd pass0 (pa_cons (pv 0) (pa_cons pe_int (pa_cons pe_int pa_nil)))) pa_nil))) (by rfl))
      (pss_cons (ps_par (i := 4) (j := 5) rfl sc__law_ng_k25.nd rfl rfl (by decide) rfl rfl (pa_cons (pe_callG ((ok__law_ng_number p).mono (by decide)) hg hr (by rfl) p.d__law_ng_number.gl p.d__law_ng_number.kp p.d__law_ng_number.bd pass0 (pa_cons (pv 0) (pa_cons pe_int pa_nil))) (pa_cons (pe_cmpR op_eq (pe_callG ((ok__law_coin p).mono (by decide)) hg hr (by rfl) p.d__law_coin.gl p.d__law_coin.kp p.d__law_coin.bd pass0 (pa_cons (pv 0) (pa_cons pe_int pa_nil))) pe_int (nomark _)) pa_nil)) (by rfl))
      (pss_cons (ps_par (i := 6) (j := 7) rfl sc__law_ng_k25.nd rfl rfl (by decide) rfl rfl (pa_cons (pe_op op_add pe_int (pe_callG ((ok__law_ng_number p).mono (by decide)) hg hr (by rfl) p.d__law_ng_number.gl p.d__law_ng_number.kp p.d__law_ng_number.bd pass0 (pa_cons (pv 0) (pa_cons pe_int pa_nil)))) (pa_cons (pe_op op_add pe_int (pe_callG ((ok__law_ng_number p).mono (by decide)) hg hr (by rfl) p.d__law_ng_number.gl p.d__law_ng_number.kp p.d__law_ng_number.bd pass0 (pa_cons (pv 0) (pa_cons pe_int pa_nil)))) pa_nil)) (by rfl))
      (pss_cons (ps_set (i := 8) sc__law_ng_k25.nd rfl (Or.inl rfl) (pe_callG ((ok__law_ng_caught p).mono (by decide)) hg hr (by rfl) p.d__law_ng_caught.gl p.d__law_ng_caught.kp p.d__law_ng_caught.bd pass0 (pa_cons (pv 2) (pa_cons (pv 1) (pa_cons (pe_callG ((ok__law_ng_copy p).mono (by decide)) hg hr (by rfl) p.d__law_ng_copy.gl p.d__law_ng_copy.kp p.d__law_ng_copy.bd pass0 (pa_cons (pv 3) pa_nil)) (pa_cons (pv 4) (pa_cons (pv 6) (pa_cons (pv 7) pa_nil))))))))
      (pss_cons (ps_set (i := 9) sc__law_ng_k25.nd rfl (Or.inl rfl) (pe_ifExp (pt_val (pv 5)) (pe_callG ((ok__law_ng_bad p).mono (by decide)) hg hr (by rfl) p.d__law_ng_bad.gl p.d__law_ng_bad.kp p.d__law_ng_bad.bd pass0 (pa_cons (pv 0) pa_nil)) (pe_callG ((ok__law_ng_copy p).mono (by decide)) hg hr (by rfl) p.d__law_ng_copy.gl p.d__law_ng_copy.kp p.d__law_ng_copy.bd pass0 (pa_cons (pv 3) pa_nil))))
      (pss_cons (ps_set (i := 10) sc__law_ng_k25.nd rfl (Or.inl rfl) (pe_un un_neg (pe_callG ((ok__law_ng_number p).mono (by decide)) hg hr (by rfl) p.d__law_ng_number.gl p.d__law_ng_number.kp p.d__law_ng_number.bd pass0 (pa_cons (pv 0) (pa_cons (pe_op op_sub (pe_op op_powW pe_int pe_int) pe_int) pa_nil)))))
      (pss_cons (ps_set (i := 11) sc__law_ng_k25.nd rfl (Or.inl rfl) (pe_lst (pa_cons (pe_lst (pa_cons (pv 4) (pa_cons (pv 6) (pa_cons (pv 7) pa_nil)))) (pa_cons (pe_lst (pa_cons (pe_op op_sub (pv 10) pe_int) (pa_cons (pv 6) (pa_cons (pv 7) pa_nil)))) (pa_cons (pe_lst (pa_cons (pv 4) (pa_cons (pv 10) (pa_cons (pv 7) pa_nil)))) (pa_cons (pe_lst (pa_cons (pv 4) (pa_cons (pv 6) (pa_cons (pv 10) pa_nil)))) pa_nil))))))
      (pss_cons (ps_set (i := 11) sc__law_ng_k25.nd rfl (Or.inl rfl) (pe_op op_cat (pv 11) (pe_lst (pa_cons (pe_lst (pa_cons (pe_op op_sub (pv 10) pe_int) (pa_cons (pv 10) (pa_cons (pe_op op_sub pe_int (pv 7)) pa_nil)))) (pa_cons (pe_lst (pa_cons (pv 4) (pa_cons (pv 10) (pa_cons (pe_un un_neg (pv 7)) pa_nil)))) pa_nil)))))
      (pss_cons (ps_par (i := 12) (j := 13) rfl sc__law_ng_k25.nd rfl rfl (by decide) rfl rfl (pa_cons (pe_ix ix_list (pv 11) (pe_callG ((ok__law_coin p).mono (by decide)) hg hr (by rfl) p.d__law_coin.gl p.d__law_coin.kp p.d__law_coin.bd pass0 (pa_cons (pv 0) (pa_cons pe_int pa_nil))) (fun _ _ => rfl)) (pa_cons (pe_callB (cr_repr hg hr.units) (by rfl) p.blt.repr (by decide +kernel) (pa_cons (pv 9) pa_nil)) pa_nil)) (by rfl))
      (pss_cons (ps_set (i := 14) sc__law_ng_k25.nd rfl (Or.inl rfl) (pe_callG ((ok__law_ng_fault p).mono (by decide)) hg hr (by rfl) p.d__law_ng_fault.gl p.d__law_ng_fault.kp p.d__law_ng_fault.bd pass0 (pa_cons (pv 1) (pa_cons (pv 5) (pa_cons (pv 9) (pa_cons (pe_ix ix_list (pv 12) pe_int (fun _ _ => rfl)) (pa_cons (pe_ix ix_list (pv 12) pe_int (fun _ _ => rfl)) (pa_cons (pe_ix ix_list (pv 12) pe_int (fun _ _ => rfl)) pa_nil))))))))
      (pss_cons (ps_set (i := 15) sc__law_ng_k25.nd rfl (Or.inl rfl) (pe_callG ((ok__law_ng_caught p).mono (by decide)) hg hr (by rfl) p.d__law_ng_caught.gl p.d__law_ng_caught.kp p.d__law_ng_caught.bd pass0 (pa_cons (pv 2) (pa_cons (pv 1) (pa_cons (pv 9) (pa_cons (pe_ix ix_list (pv 12) pe_int (fun _ _ => rfl)) (pa_cons (pe_ix ix_list (pv 12) pe_int (fun _ _ => rfl)) (pa_cons (pe_ix ix_list (pv 12) pe_int (fun _ _ => rfl)) pa_nil))))))))
      (pss_cons (ps_if (pt_not (pt_val (pe_callG ((ok__law_ng_is p).mono (by decide)) hg hr (by rfl) p.d__law_ng_is.gl p.d__law_ng_is.kp p.d__law_ng_is.bd pass0 (pa_cons (pe_ix ix_list (pv 15) pe_int (fun _ _ => rfl)) (pa_cons (pv 14) pa_nil)))))
      (pss_one (ps_ret pe_bl)) pss_nil)
      (pss_cons (ps_if (PW.pt (pw_and (pt_cmpR op_notN (pv 14) pe_non (nomark _)) (pw_and1 (pt_cmpR op_eq (pe_ix ix_list (pv 14) pe_int (fun _ _ => rfl)) pe_str (nomark _)))))
      (pss_one (ps_expr (pe_bm PySem.F.plainAttrs_list PySem.F.slot_list_append PySem.F.type_list_append mt_append (pe_ix ix_tup (pe_ix ix_list (pe_ix ix_list (pv 15) pe_int (fun _ _ => rfl)) pe_int (fun _ _ => rfl)) pe_int (fun _ _ => rfl)) (pa_cons pe_int pa_nil)))) pss_nil)
      (pss_cons (ps_if (pt_cmpR op_ne (pe_callB (cr_repr hg hr.units) (by rfl) p.blt.repr (by decide +kernel) (pa_cons (pv 9) pa_nil)) (pv 13) (nomark _))
      (pss_one (ps_ret pe_bl)) pss_nil)
      (pss_cons (ps_if (pt_cmpR op_ge (pe_ix ix_tup (pv 9) pe_int (fun _ _ => rfl)) pe_int (nomark _))
      (pss_cons (ps_expr (pe_bm0 PySem.F.plainAttrs_list PySem.F.slot_list_clear PySem.F.type_list_clear mt_clear (pe_ix ix_tup (pv 9) pe_int (fun _ _ => rfl))))
      (pss_cons (ps_set (i := 16) sc__law_ng_k25.nd rfl (Or.inl rfl) (pe_callG ((ok__law_ng_caught p).mono (by decide)) hg hr (by rfl) p.d__law_ng_caught.gl p.d__law_ng_caught.kp p.d__law_ng_caught.bd pass0 (pa_cons (pv 2) (pa_cons (pv 1) (pa_cons (pv 9) (pa_cons (pv 4) (pa_cons (pv 6) (pa_cons (pv 7) pa_nil))))))))
      (pss_cons (ps_if (pt_not (pt_val (pe_callG ((ok__law_ng_is p).mono (by decide)) hg hr (by rfl) p.d__law_ng_is.gl p.d__law_ng_is.kp p.d__law_ng_is.bd pass0 (pa_cons (pv 16) (pa_cons (pe_callG ((ok__law_ng_caught p).mono (by decide)) hg hr (by rfl) p.d__law_ng_caught.gl p.d__law_ng_caught.kp p.d__law_ng_caught.bd pass0 (pa_cons (pv 2) (pa_cons (pv 1) (pa_cons (pe_tup (pa_cons (pe_ix ix_tup (pv 9) pe_int (fun _ _ => rfl)) (pa_cons (pe_lst pa_nil) pa_nil))) (pa_cons (pv 4) (pa_cons (pv 6) (pa_cons (pv 7) pa_nil))))))) pa_nil)))))
      (pss_one (ps_ret pe_bl)) pss_nil)
      (pss_one (ps_if (pt_cmpR op_notN (pe_ix ix_list (pv 16) pe_int (fun _ _ => rfl)) pe_non (nomark _))
      (pss_one (ps_ret pe_bl)) pss_nil))))) pss_nil)
      (pss_cons (ps_set (i := 17) sc__law_ng_k25.nd rfl (Or.inl rfl) (pe_callG ((ok__law_ng_caught p).mono (by decide)) hg hr (by rfl) p.d__law_ng_caught.gl p.d__law_ng_caught.kp p.d__law_ng_caught.bd pass0 (pa_cons (pv 2) (pa_cons (pv 1) (pa_cons (pe_callG ((ok__law_ng_copy p).mono (by decide)) hg hr (by rfl) p.d__law_ng_copy.gl p.d__law_ng_copy.kp p.d__law_ng_copy.bd pass0 (pa_cons (pv 3) pa_nil)) (pa_cons (pv 4) (pa_cons (pv 6) (pa_cons (pv 7) pa_nil))))))))
      (pss_one (ps_ret (pe_and (pe_cmpR op_isN (pe_ix ix_list (pv 8) pe_int (fun _ _ => rfl)) pe_non (nomark _)) (pe_one (pe_callG ((ok__law_ng_is p).mono (by decide)) hg hr (by rfl) p.d__law_ng_is.gl p.d__law_ng_is.kp p.d__law_ng_is.bd pass0 (pa_cons (pv 8) (pa_cons (pv 17) pa_nil))))))))))))))))))))))),
    fun C xc => (so_seq (so_par3 (i := 1) (j := 2) (l := 3) (by decide) (by decide) (by decide) (so_cons (so_callP (so_cons (so_var (i := 0)) (so_cons (so_c (sca_int _)) so_nil))) (so_cons (so_op sr_eq (so_callP (so_cons (so_var (i := 0)) (so_cons (so_c (sca_int _)) so_nil))) (so_c (sca_int _))) (so_cons (so_callP (so_cons (so_var (i := 0)) (so_cons (so_c (sca_int _)) (so_cons (so_c (sca_int _)) so_nil)))) so_nil))))
      (so_seq (so_par (i := 4) (j := 5) (by decide) (so_cons (so_callP (so_cons (so_var (i := 0)) (so_cons (so_c (sca_int _)) so_nil))) (so_cons (so_op sr_eq (so_callP (so_cons (so_var (i := 0)) (so_cons (so_c (sca_int _)) so_nil))) (so_c (sca_int _))) so_nil)))
      (so_seq (so_par (i := 6) (j := 7) (by decide) (so_cons (so_op sr_I0 (so_c (sca_int _)) (so_callP (so_cons (so_var (i := 0)) (so_cons (so_c (sca_int _)) so_nil)))) (so_cons (so_op sr_I0 (so_c (sca_int _)) (so_callP (so_cons (so_var (i := 0)) (so_cons (so_c (sca_int _)) so_nil)))) so_nil)))
      (so_seq (so_asg (so_callT (so_cons (so_var (i := 2)) (so_cons (so_var (i := 1)) (so_cons (so_callT (so_cons (so_var (i := 3)) so_nil)) (so_cons (so_var (i := 4)) (so_cons (so_var (i := 6)) (so_cons (so_var (i := 7)) so_nil))))))) (so_gname (i := 8)))
      (so_seq (so_asg (so_if (so_test (so_var (i := 5))) (so_callP (so_cons (so_var (i := 0)) so_nil)) (so_callT (so_cons (so_var (i := 3)) so_nil))) (so_gname (i := 9)))
      (so_seq (so_asg (so_neg (so_callP (so_cons (so_var (i := 0)) (so_cons (so_op sr_I0 (so_op sr_I (so_c (sca_int _)) (so_c (sca_int _))) (so_c (sca_int _))) so_nil)))) (so_gname (i := 10)))
      (so_seq (so_asg (so_lst (so_cons (so_lst (so_cons (so_var (i := 4)) (so_cons (so_var (i := 6)) (so_cons (so_var (i := 7)) so_nil)))) (so_cons (so_lst (so_cons (so_op sr_I0 (so_var (i := 10)) (so_c (sca_int _))) (so_cons (so_var (i := 6)) (so_cons (so_var (i := 7)) so_nil)))) (so_cons (so_lst (so_cons (so_var (i := 4)) (so_cons (so_var (i := 10)) (so_cons (so_var (i := 7)) so_nil)))) (so_cons (so_lst (so_cons (so_var (i := 4)) (so_cons (so_var (i := 6)) (so_cons (so_var (i := 10)) so_nil)))) so_nil))))) (so_gname (i := 11)))
      (so_seq (so_asg (so_cat (so_frz (i := 11)) (so_lst (so_cons (so_lst (so_cons (so_op sr_I0 (so_var (i := 10)) (so_c (sca_int _))) (so_cons (so_var (i := 10)) (so_cons (so_op sr_I0 (so_c (sca_int _)) (so_var (i := 7))) so_nil)))) (so_cons (so_lst (so_cons (so_var (i := 4)) (so_cons (so_var (i := 10)) (so_cons (so_neg (so_var (i := 7))) so_nil)))) so_nil)))) (so_gname (i := 11)))
      (so_seq (so_par (i := 12) (j := 13) (by decide) (so_cons (so_ixL (so_frz (i := 11)) (so_callP (so_cons (so_var (i := 0)) (so_cons (so_c (sca_int _)) so_nil)))) (so_cons (so_f sc_repr (so_cons (so_var (i := 9)) so_nil)) so_nil)))
      (so_seq (so_asg (so_callT (so_cons (so_var (i := 1)) (so_cons (so_var (i := 5)) (so_cons (so_var (i := 9)) (so_cons (so_ixL (so_var (i := 12)) (so_c (sca_int _))) (so_cons (so_ixL (so_var (i := 12)) (so_c (sca_int _))) (so_cons (so_ixL (so_var (i := 12)) (so_c (sca_int _))) so_nil))))))) (so_gname (i := 14)))
      (so_seq (so_asg (so_callT (so_cons (so_var (i := 2)) (so_cons (so_var (i := 1)) (so_cons (so_var (i := 9)) (so_cons (so_ixL (so_var (i := 12)) (so_c (sca_int _))) (so_cons (so_ixL (so_var (i := 12)) (so_c (sca_int _))) (so_cons (so_ixL (so_var (i := 12)) (so_c (sca_int _))) so_nil))))))) (so_gname (i := 15)))
      (so_seq (so_ifS (so_tnot (so_test (so_callT (so_cons (so_ixL (so_var (i := 15)) (so_c (sca_int _))) (so_cons (so_var (i := 14)) so_nil)))))
      (so_ret (so_c (sca_bl _))) so_next)
      (so_seq (so_ifS (so_tand (so_test (so_op sr_notN (so_var (i := 14)) (so_c sca_non))) (so_test (so_op sr_eq (so_ixL (so_var (i := 14)) (so_c (sca_int _))) (so_c (sca_str _)))))
      (so_drop (so_app (so_ixT (so_ixL (so_ixL (so_var (i := 15)) (so_c (sca_int _))) (so_c (sca_int _))) (so_c (sca_int _))) (so_c (sca_int _)))) so_next)
      (so_seq (so_ifS (so_test (so_op sr_ne (so_f sc_repr (so_cons (so_var (i := 9)) so_nil)) (so_var (i := 13))))
      (so_ret (so_c (sca_bl _))) so_next)
      (so_seq (so_ifS (so_test (so_op sr_B (so_ixT (so_var (i := 9)) (so_c (sca_int _))) (so_c (sca_int _))))
      (so_seq (so_drop (so_clear (so_ixT (so_var (i := 9)) (so_c (sca_int _)))))
      (so_seq (so_asg (so_callT (so_cons (so_var (i := 2)) (so_cons (so_var (i := 1)) (so_cons (so_var (i := 9)) (so_cons (so_var (i := 4)) (so_cons (so_var (i := 6)) (so_cons (so_var (i := 7)) so_nil))))))) (so_gname (i := 16)))
      (so_seq (so_ifS (so_tnot (so_test (so_callT (so_cons (so_var (i := 16)) (so_cons (so_callT (so_cons (so_var (i := 2)) (so_cons (so_var (i := 1)) (so_cons (so_tup (so_cons (so_ixT (so_var (i := 9)) (so_c (sca_int _))) (so_cons (so_lit_lst so_lits_nil) so_nil))) (so_cons (so_var (i := 4)) (so_cons (so_var (i := 6)) (so_cons (so_var (i := 7)) so_nil))))))) so_nil)))))
      (so_ret (so_c (sca_bl _))) so_next)
      (so_ifS (so_test (so_op sr_notN (so_ixL (so_var (i := 16)) (so_c (sca_int _))) (so_c sca_non)))
      (so_ret (so_c (sca_bl _))) so_next)))) so_next)
      (so_seq (so_asg (so_callT (so_cons (so_var (i := 2)) (so_cons (so_var (i := 1)) (so_cons (so_callT (so_cons (so_var (i := 3)) so_nil)) (so_cons (so_var (i := 4)) (so_cons (so_var (i := 6)) (so_cons (so_var (i := 7)) so_nil))))))) (so_gname (i := 17)))
      (so_ret (so_andV (so_op sr_isN (so_ixL (so_var (i := 8)) (so_c (sca_int _))) (so_c sca_non)) (so_callT (so_cons (so_var (i := 8)) (so_cons (so_var (i := 17)) so_nil)))))))))))))))))))))⟩) val__law_ng_k25
def spLaw (K : PySem.W.Frag) : Sp := fun vs H Q _ => ∃ (a : Addr) (ns : List Int), vs = [.ref a] ∧ SqL K H a (ns.map V.int) ∧ ns.length ≤ 63 ∧ (∀ z ∈ ns, Builtin.Int.intBits z ≤ 1048576) ∧ ∀ H', Q (.bl true) H'
theorem ok_law (p : Prog K mg) : FnG P w K mg base CX0 10 p.f_law p.fd_law ["_law_script"] (spLaw K) := by
  refine okG p.d_law.F sc_law (fun vs H Q E h => ?_) (fun cdv A outer s H vs Q E hg hr h => ?_)
  · obtain ⟨a, ns, rfl, _⟩ := h
    rfl
  · obtain ⟨a, ns, rfl, hs, hl, hb, q⟩ := h
    refine ⟨_, (pss_cons (ps_for PassesOwn.never rfl (pi_range1 (by rfl) p.blt.range (pa_cons (pe_callB (call_max2 rfl) (by rfl) p.blt.max (by decide +kernel) (pa_cons pe_int (pa_cons (pe_callB (call_min2 rfl) (by rfl) p.blt.min (by decide +kernel) (pa_cons pe_int (pa_cons (pe_callB call_len_seq (by rfl) p.blt.len PySem.boot_len (pa_cons (pv 0) pa_nil)) pa_nil))) pa_nil))) pa_nil)) (pg_name (i := 1) sc_law.nd rfl (Or.inl rfl))
      (pss_cons (ps_set (i := 2) sc_law.nd rfl (Or.inl rfl) (pe_callG ((ok__law_ng_purse p).mono (by decide)) hg hr (by rfl) p.d__law_ng_purse.gl p.d__law_ng_purse.kp p.d__law_ng_purse.bd pass0 (pa_cons (pv 0) (pa_cons (pv 1) pa_nil))))
      (pss_one (ps_if (pt_not (pt_val (pe_callG ((ok__law_ng_k25 p).mono (by decide)) hg hr (by rfl) p.d__law_ng_k25.gl p.d__law_ng_k25.kp p.d__law_ng_k25.bd pass0 (pa_cons (pv 2) pa_nil))))
      (pss_one (ps_ret pe_bl)) pss_nil))))
      (pss_one (ps_ret pe_bl))), ?_⟩
    refine ⟨_, rfl, a, _, rfl, .inl hs, _, _, rfl, _, _, rfl, ?_⟩
    rw [ints_len]
    refine ⟨_, rfl, by split <;> split <;> omega, by split <;> split <;> omega, ?_⟩
    refine for_range (fun i σ H1 => ∃ y1 y2, σ = [some (.ref a), y1, y2] ∧ Same H H1) ⟨none, none, rfl, Same.refl _⟩ (fun i σ H1 hi hI => ?_) (fun σ H1 hI => q _)
    obtain ⟨y1, y2, rfl, sm⟩ := hI
    have hi' : i ≤ 64 := by
      revert hi
      split <;> split <;> omega
    refine ⟨_, rfl, _, rfl, a, ns, _, rfl, sm.seq hs, hl, hb, by omega, by omega, fun H2 u sm2 un pu => ?_⟩
    refine ⟨_, rfl, u, _, [], [], [], _, rfl, pu, by omega, .nil, (fun z => nomatch z), ⟨rfl, rfl⟩, fun d v H4 ed fr pu4 nw => ?_⟩
    subst ed
    obtain ⟨S, rp, _⟩ := nw
    cases rp
    refine ⟨_, rfl, iteF ?_⟩
    refine ⟨_, _, rfl, fun b o e => fr b o (sm2 b o (sm b o e)) fun z => ?_⟩
    rw [z] at e
    have := sm _ _ e
    rw [un] at this
    cases this
theorem all_mk {l : PySem.W.OpenLaw} {w : World} {K : PySem.W.Frag} {h : Heap} {mg : Str → Option Value} {fa : Addr} (X : K.In h) (G : h.Ns mainGlobals mg) (hfa : mg "law" = some (.ref fa))
    {f0 f1 f2 f3 f4 f5 f6 f7 f8 f9 f10 f11 f12 f13 f14 f15 f16 f17 f18 f19 f20 f21 f22 f23 f24 f25 f26 f27 f28 f29 f30 f31 f32 f33 f34 f35 f36 f37 f38 f39 f40 f41 f42 f43 : Addr} {od0 an0 : Option Addr} {sl0 : Array (Option Value)} {oc0 kV0 dc0 pm0 cd0 ct0 : Value} {od1 an1 : Option Addr} {sl1 : Array (Option Value)} {oc1 kV1 dc1 pm1 cd1 ct1 : Value} {od2 an2 : Option Addr} {sl2 : Array (Option Value)} {oc2 kV2 dc2 pm2 cd2 ct2 : Value} {od3 an3 : Option Addr} {sl3 : Array (Option Value)} {oc3 kV3 dc3 pm3 cd3 ct3 : Value} {od4 an4 : Option Addr} {sl4 : Array (Option Value)} {oc4 kV4 dc4 pm4 cd4 ct4 : Value} {od5 an5 : Option Addr} {sl5 : Array (Option Value)} {oc5 kV5 dc5 pm5 cd5 ct5 : Value} {od6 an6 : Option Addr} {sl6 : Array (Option Value)} {oc6 kV6 dc6 pm6 cd6 ct6 : Value} {od7 an7 : Option Addr} {sl7 : Array (Option Value)} {oc7 kV7 dc7 pm7 cd7 ct7 : Value} {od8 an8 : Option Addr} {sl8 : Array (Option Value)} {oc8 kV8 dc8 pm8 cd8 ct8 : Value} {od9 an9 : Option Addr} {sl9 : Array (Option Value)} {oc9 kV9 dc9 pm9 cd9 ct9 : Value} {od10 an10 : Option Addr} {sl10 : Array (Option Value)} {oc10 kV10 dc10 pm10 cd10 ct10 : Value} {od11 an11 : Option Addr} {sl11 : Array (Option Value)} {oc11 kV11 dc11 pm11 cd11 ct11 : Value} {od12 an12 : Option Addr} {sl12 : Array (Option Value)} {oc12 kV12 dc12 pm12 cd12 ct12 : Value} {od13 an13 : Option Addr} {sl13 : Array (Option Value)} {oc13 kV13 dc13 pm13 cd13 ct13 : Value} {od14 an14 : Option Addr} {sl14 : Array (Option Value)} {oc14 kV14 dc14 pm14 cd14 ct14 : Value} {od15 an15 : Option Addr} {sl15 : Array (Option Value)} {oc15 kV15 dc15 pm15 cd15 ct15 : Value} {od16 an16 : Option Addr} {sl16 : Array (Option Value)} {oc16 kV16 dc16 pm16 cd16 ct16 : Value} {od17 an17 : Option Addr} {sl17 : Array (Option Value)} {oc17 kV17 dc17 pm17 cd17 ct17 : Value} {od18 an18 : Option Addr} {sl18 : Array (Option Value)} {oc18 kV18 dc18 pm18 cd18 ct18 : Value} {od19 an19 : Option Addr} {sl19 : Array (Option Value)} {oc19 kV19 dc19 pm19 cd19 ct19 : Value} {od20 an20 : Option Addr} {sl20 : Array (Option Value)} {oc20 kV20 dc20 pm20 cd20 ct20 : Value} {od21 an21 : Option Addr} {sl21 : Array (Option Value)} {oc21 kV21 dc21 pm21 cd21 ct21 : Value} {od22 an22 : Option Addr} {sl22 : Array (Option Value)} {oc22 kV22 dc22 pm22 cd22 ct22 : Value} {od23 an23 : Option Addr} {sl23 : Array (Option Value)} {oc23 kV23 dc23 pm23 cd23 ct23 : Value} {od24 an24 : Option Addr} {sl24 : Array (Option Value)} {oc24 kV24 dc24 pm24 cd24 ct24 : Value} {od25 an25 : Option Addr} {sl25 : Array (Option Value)} {oc25 kV25 dc25 pm25 cd25 ct25 : Value} {od26 an26 : Option Addr} {sl26 : Array (Option Value)} {oc26 kV26 dc26 pm26 cd26 ct26 : Value} {od27 an27 : Option Addr} {sl27 : Array (Option Value)} {oc27 kV27 dc27 pm27 cd27 ct27 : Value} {od28 an28 : Option Addr} {sl28 : Array (Option Value)} {oc28 kV28 dc28 pm28 cd28 ct28 : Value} {od29 an29 : Option Addr} {sl29 : Array (Option Value)} {oc29 kV29 dc29 pm29 cd29 ct29 : Value} {od30 an30 : Option Addr} {sl30 : Array (Option Value)} {oc30 kV30 dc30 pm30 cd30 ct30 : Value} {od31 an31 : Option Addr} {sl31 : Array (Option Value)} {oc31 kV31 dc31 pm31 cd31 ct31 : Value} {od32 an32 : Option Addr} {sl32 : Array (Option Value)} {oc32 kV32 dc32 pm32 cd32 ct32 : Value} {od33 an33 : Option Addr} {sl33 : Array (Option Value)} {oc33 kV33 dc33 pm33 cd33 ct33 : Value} {od34 an34 : Option Addr} {sl34 : Array (Option Value)} {oc34 kV34 dc34 pm34 cd34 ct34 : Value} {od35 an35 : Option Addr} {sl35 : Array (Option Value)} {oc35 kV35 dc35 pm35 cd35 ct35 : Value} {od36 an36 : Option Addr} {sl36 : Array (Option Value)} {oc36 kV36 dc36 pm36 cd36 ct36 : Value} {od37 an37 : Option Addr} {sl37 : Array (Option Value)} {oc37 kV37 dc37 pm37 cd37 ct37 : Value} {od38 an38 : Option Addr} {sl38 : Array (Option Value)} {oc38 kV38 dc38 pm38 cd38 ct38 : Value} {od39 an39 : Option Addr} {sl39 : Array (Option Value)} {oc39 kV39 dc39 pm39 cd39 ct39 : Value} {od40 an40 : Option Addr} {sl40 : Array (Option Value)} {oc40 kV40 dc40 pm40 cd40 ct40 : Value} {od41 an41 : Option Addr} {sl41 : Array (Option Value)} {oc41 kV41 dc41 pm41 cd41 ct41 : Value} {od42 an42 : Option Addr} {sl42 : Array (Option Value)} {oc42 kV42 dc42 pm42 cd42 ct42 : Value} {od43 an43 : Option Addr} {sl43 : Array (Option Value)} {oc43 kV43 dc43 pm43 cd43 ct43 : Value}
    (a0 : PySem.W.nsIn K mainGlobals "is_effect" = some (some (.ref f0))) (l0 : K.lookup f0 = some ⟨oc0, od0, .func (PySem.W.fnOf "is_effect" "is_effect" (defArgs s_is_effect) (defBody s_is_effect) (defScope s_is_effect) .none kV0 dc0 pm0 an0 cd0 ct0), sl0⟩) (c0 : PySem.W.codeIn K cd0 "is_effect" = true) (k0 : PySem.W.keepIn K (.ref f0) = true)
    (a1 : PySem.W.nsIn K mainGlobals "least_of" = some (some (.ref f1))) (l1 : K.lookup f1 = some ⟨oc1, od1, .func (PySem.W.fnOf "least_of" "least_of" (defArgs s_least_of) (defBody s_least_of) (defScope s_least_of) .none kV1 dc1 pm1 an1 cd1 ct1), sl1⟩) (c1 : PySem.W.codeIn K cd1 "least_of" = true) (k1 : PySem.W.keepIn K (.ref f1) = true)
    (a2 : PySem.W.nsIn K mainGlobals "checked" = some (some (.ref f2))) (l2 : K.lookup f2 = some ⟨oc2, od2, .func (PySem.W.fnOf "checked" "checked" (defArgs s_checked) (defBody s_checked) (defScope s_checked) .none kV2 dc2 pm2 an2 cd2 ct2), sl2⟩) (c2 : PySem.W.codeIn K cd2 "checked" = true) (k2 : PySem.W.keepIn K (.ref f2) = true)
    (a3 : PySem.W.nsIn K mainGlobals "came_from" = some (some (.ref f3))) (l3 : K.lookup f3 = some ⟨oc3, od3, .func (PySem.W.fnOf "came_from" "came_from" (defArgs s_came_from) (defBody s_came_from) (defScope s_came_from) .none kV3 dc3 pm3 an3 cd3 ct3), sl3⟩) (c3 : PySem.W.codeIn K cd3 "came_from" = true) (k3 : PySem.W.keepIn K (.ref f3) = true)
    (a4 : PySem.W.nsIn K mainGlobals "join_of" = some (some (.ref f4))) (l4 : K.lookup f4 = some ⟨oc4, od4, .func (PySem.W.fnOf "join_of" "join_of" (defArgs s_join_of) (defBody s_join_of) (defScope s_join_of) .none kV4 dc4 pm4 an4 cd4 ct4), sl4⟩) (c4 : PySem.W.codeIn K cd4 "join_of" = true) (k4 : PySem.W.keepIn K (.ref f4) = true)
    (a5 : PySem.W.nsIn K mainGlobals "power_of" = some (some (.ref f5))) (l5 : K.lookup f5 = some ⟨oc5, od5, .func (PySem.W.fnOf "power_of" "power_of" (defArgs s_power_of) (defBody s_power_of) (defScope s_power_of) .none kV5 dc5 pm5 an5 cd5 ct5), sl5⟩) (c5 : PySem.W.codeIn K cd5 "power_of" = true) (k5 : PySem.W.keepIn K (.ref f5) = true)
    (a6 : PySem.W.nsIn K mainGlobals "goes_on" = some (some (.ref f6))) (l6 : K.lookup f6 = some ⟨oc6, od6, .func (PySem.W.fnOf "goes_on" "goes_on" (defArgs s_goes_on) (defBody s_goes_on) (defScope s_goes_on) .none kV6 dc6 pm6 an6 cd6 ct6), sl6⟩) (c6 : PySem.W.codeIn K cd6 "goes_on" = true) (k6 : PySem.W.keepIn K (.ref f6) = true)
    (a7 : PySem.W.nsIn K mainGlobals "told_way" = some (some (.ref f7))) (l7 : K.lookup f7 = some ⟨oc7, od7, .func (PySem.W.fnOf "told_way" "told_way" (defArgs s_told_way) (defBody s_told_way) (defScope s_told_way) .none kV7 dc7 pm7 an7 cd7 ct7), sl7⟩) (c7 : PySem.W.codeIn K cd7 "told_way" = true) (k7 : PySem.W.keepIn K (.ref f7) = true)
    (a8 : PySem.W.nsIn K mainGlobals "walked_places" = some (some (.ref f8))) (l8 : K.lookup f8 = some ⟨oc8, od8, .func (PySem.W.fnOf "walked_places" "walked_places" (defArgs s_walked_places) (defBody s_walked_places) (defScope s_walked_places) .none kV8 dc8 pm8 an8 cd8 ct8), sl8⟩) (c8 : PySem.W.codeIn K cd8 "walked_places" = true) (k8 : PySem.W.keepIn K (.ref f8) = true)
    (a9 : PySem.W.nsIn K mainGlobals "steps_down" = some (some (.ref f9))) (l9 : K.lookup f9 = some ⟨oc9, od9, .func (PySem.W.fnOf "steps_down" "steps_down" (defArgs s_steps_down) (defBody s_steps_down) (defScope s_steps_down) .none kV9 dc9 pm9 an9 cd9 ct9), sl9⟩) (c9 : PySem.W.codeIn K cd9 "steps_down" = true) (k9 : PySem.W.keepIn K (.ref f9) = true)
    (a10 : PySem.W.nsIn K mainGlobals "spot_after" = some (some (.ref f10))) (l10 : K.lookup f10 = some ⟨oc10, od10, .func (PySem.W.fnOf "spot_after" "spot_after" (defArgs s_spot_after) (defBody s_spot_after) (defScope s_spot_after) .none kV10 dc10 pm10 an10 cd10 ct10), sl10⟩) (c10 : PySem.W.codeIn K cd10 "spot_after" = true) (k10 : PySem.W.keepIn K (.ref f10) = true)
    (a11 : PySem.W.nsIn K mainGlobals "arrivals_at" = some (some (.ref f11))) (l11 : K.lookup f11 = some ⟨oc11, od11, .func (PySem.W.fnOf "arrivals_at" "arrivals_at" (defArgs s_arrivals_at) (defBody s_arrivals_at) (defScope s_arrivals_at) .none kV11 dc11 pm11 an11 cd11 ct11), sl11⟩) (c11 : PySem.W.codeIn K cd11 "arrivals_at" = true) (k11 : PySem.W.keepIn K (.ref f11) = true)
    (a12 : PySem.W.nsIn K mainGlobals "count_after" = some (some (.ref f12))) (l12 : K.lookup f12 = some ⟨oc12, od12, .func (PySem.W.fnOf "count_after" "count_after" (defArgs s_count_after) (defBody s_count_after) (defScope s_count_after) .none kV12 dc12 pm12 an12 cd12 ct12), sl12⟩) (c12 : PySem.W.codeIn K cd12 "count_after" = true) (k12 : PySem.W.keepIn K (.ref f12) = true)
    (a13 : PySem.W.nsIn K mainGlobals "ring_size" = some (some (.ref f13))) (l13 : K.lookup f13 = some ⟨oc13, od13, .func (PySem.W.fnOf "ring_size" "ring_size" (defArgs s_ring_size) (defBody s_ring_size) (defScope s_ring_size) .none kV13 dc13 pm13 an13 cd13 ct13), sl13⟩) (c13 : PySem.W.codeIn K cd13 "ring_size" = true) (k13 : PySem.W.keepIn K (.ref f13) = true)
    (a14 : PySem.W.nsIn K mainGlobals "size_after_times" = some (some (.ref f14))) (l14 : K.lookup f14 = some ⟨oc14, od14, .func (PySem.W.fnOf "size_after_times" "size_after_times" (defArgs s_size_after_times) (defBody s_size_after_times) (defScope s_size_after_times) .none kV14 dc14 pm14 an14 cd14 ct14), sl14⟩) (c14 : PySem.W.codeIn K cd14 "size_after_times" = true) (k14 : PySem.W.keepIn K (.ref f14) = true)
    (a15 : PySem.W.nsIn K mainGlobals "counts_told" = some (some (.ref f15))) (l15 : K.lookup f15 = some ⟨oc15, od15, .func (PySem.W.fnOf "counts_told" "counts_told" (defArgs s_counts_told) (defBody s_counts_told) (defScope s_counts_told) .none kV15 dc15 pm15 an15 cd15 ct15), sl15⟩) (c15 : PySem.W.codeIn K cd15 "counts_told" = true) (k15 : PySem.W.keepIn K (.ref f15) = true)
    (a16 : PySem.W.nsIn K mainGlobals "lost_from" = some (some (.ref f16))) (l16 : K.lookup f16 = some ⟨oc16, od16, .func (PySem.W.fnOf "lost_from" "lost_from" (defArgs s_lost_from) (defBody s_lost_from) (defScope s_lost_from) .none kV16 dc16 pm16 an16 cd16 ct16), sl16⟩) (c16 : PySem.W.codeIn K cd16 "lost_from" = true) (k16 : PySem.W.keepIn K (.ref f16) = true)
    (a17 : PySem.W.nsIn K mainGlobals "merged_from" = some (some (.ref f17))) (l17 : K.lookup f17 = some ⟨oc17, od17, .func (PySem.W.fnOf "merged_from" "merged_from" (defArgs s_merged_from) (defBody s_merged_from) (defScope s_merged_from) .none kV17 dc17 pm17 an17 cd17 ct17), sl17⟩) (c17 : PySem.W.codeIn K cd17 "merged_from" = true) (k17 : PySem.W.keepIn K (.ref f17) = true)
    (a18 : PySem.W.nsIn K mainGlobals "check_number" = some (some (.ref f18))) (l18 : K.lookup f18 = some ⟨oc18, od18, .func (PySem.W.fnOf "check_number" "check_number" (defArgs s_check_number) (defBody s_check_number) (defScope s_check_number) .none kV18 dc18 pm18 an18 cd18 ct18), sl18⟩) (c18 : PySem.W.codeIn K cd18 "check_number" = true) (k18 : PySem.W.keepIn K (.ref f18) = true)
    (a19 : PySem.W.nsIn K mainGlobals "check_place" = some (some (.ref f19))) (l19 : K.lookup f19 = some ⟨oc19, od19, .func (PySem.W.fnOf "check_place" "check_place" (defArgs s_check_place) (defBody s_check_place) (defScope s_check_place) .none kV19 dc19 pm19 an19 cd19 ct19), sl19⟩) (c19 : PySem.W.codeIn K cd19 "check_place" = true) (k19 : PySem.W.keepIn K (.ref f19) = true)
    (a20 : PySem.W.nsIn K mainGlobals "times" = some (some (.ref f20))) (l20 : K.lookup f20 = some ⟨oc20, od20, .func (PySem.W.fnOf "times" "times" (defArgs s_times) (defBody s_times) (defScope s_times) .none kV20 dc20 pm20 an20 cd20 ct20), sl20⟩) (c20 : PySem.W.codeIn K cd20 "times" = true) (k20 : PySem.W.keepIn K (.ref f20) = true)
    (a21 : PySem.W.nsIn K mainGlobals "place_after" = some (some (.ref f21))) (l21 : K.lookup f21 = some ⟨oc21, od21, .func (PySem.W.fnOf "place_after" "place_after" (defArgs s_place_after) (defBody s_place_after) (defScope s_place_after) .none kV21 dc21 pm21 an21 cd21 ct21), sl21⟩) (c21 : PySem.W.codeIn K cd21 "place_after" = true) (k21 : PySem.W.keepIn K (.ref f21) = true)
    (a22 : PySem.W.nsIn K mainGlobals "way" = some (some (.ref f22))) (l22 : K.lookup f22 = some ⟨oc22, od22, .func (PySem.W.fnOf "way" "way" (defArgs s_way) (defBody s_way) (defScope s_way) .none kV22 dc22 pm22 an22 cd22 ct22), sl22⟩) (c22 : PySem.W.codeIn K cd22 "way" = true) (k22 : PySem.W.keepIn K (.ref f22) = true)
    (a23 : PySem.W.nsIn K mainGlobals "size_after" = some (some (.ref f23))) (l23 : K.lookup f23 = some ⟨oc23, od23, .func (PySem.W.fnOf "size_after" "size_after" (defArgs s_size_after) (defBody s_size_after) (defScope s_size_after) .none kV23 dc23 pm23 an23 cd23 ct23), sl23⟩) (c23 : PySem.W.codeIn K cd23 "size_after" = true) (k23 : PySem.W.keepIn K (.ref f23) = true)
    (a24 : PySem.W.nsIn K mainGlobals "copies" = some (some (.ref f24))) (l24 : K.lookup f24 = some ⟨oc24, od24, .func (PySem.W.fnOf "copies" "copies" (defArgs s_copies) (defBody s_copies) (defScope s_copies) .none kV24 dc24 pm24 an24 cd24 ct24), sl24⟩) (c24 : PySem.W.codeIn K cd24 "copies" = true) (k24 : PySem.W.keepIn K (.ref f24) = true)
    (a25 : PySem.W.nsIn K mainGlobals "copies_way" = some (some (.ref f25))) (l25 : K.lookup f25 = some ⟨oc25, od25, .func (PySem.W.fnOf "copies_way" "copies_way" (defArgs s_copies_way) (defBody s_copies_way) (defScope s_copies_way) .none kV25 dc25 pm25 an25 cd25 ct25), sl25⟩) (c25 : PySem.W.codeIn K cd25 "copies_way" = true) (k25 : PySem.W.keepIn K (.ref f25) = true)
    (a26 : PySem.W.nsIn K mainGlobals "lost_after" = some (some (.ref f26))) (l26 : K.lookup f26 = some ⟨oc26, od26, .func (PySem.W.fnOf "lost_after" "lost_after" (defArgs s_lost_after) (defBody s_lost_after) (defScope s_lost_after) .none kV26 dc26 pm26 an26 cd26 ct26), sl26⟩) (c26 : PySem.W.codeIn K cd26 "lost_after" = true) (k26 : PySem.W.keepIn K (.ref f26) = true)
    (a27 : PySem.W.nsIn K mainGlobals "merged_after" = some (some (.ref f27))) (l27 : K.lookup f27 = some ⟨oc27, od27, .func (PySem.W.fnOf "merged_after" "merged_after" (defArgs s_merged_after) (defBody s_merged_after) (defScope s_merged_after) .none kV27 dc27 pm27 an27 cd27 ct27), sl27⟩) (c27 : PySem.W.codeIn K cd27 "merged_after" = true) (k27 : PySem.W.keepIn K (.ref f27) = true)
    (a28 : PySem.W.nsIn K mainGlobals "comes_again" = some (some (.ref f28))) (l28 : K.lookup f28 = some ⟨oc28, od28, .func (PySem.W.fnOf "comes_again" "comes_again" (defArgs s_comes_again) (defBody s_comes_again) (defScope s_comes_again) .none kV28 dc28 pm28 an28 cd28 ct28), sl28⟩) (c28 : PySem.W.codeIn K cd28 "comes_again" = true) (k28 : PySem.W.keepIn K (.ref f28) = true)
    (a29 : PySem.W.nsIn K mainGlobals "_law_ng_purse" = some (some (.ref f29))) (l29 : K.lookup f29 = some ⟨oc29, od29, .func (PySem.W.fnOf "_law_ng_purse" "_law_ng_purse" (defArgs s__law_ng_purse) (defBody s__law_ng_purse) (defScope s__law_ng_purse) .none kV29 dc29 pm29 an29 cd29 ct29), sl29⟩) (c29 : PySem.W.codeIn K cd29 "_law_ng_purse" = true) (k29 : PySem.W.keepIn K (.ref f29) = true)
    (a30 : PySem.W.nsIn K mainGlobals "_law_coin" = some (some (.ref f30))) (l30 : K.lookup f30 = some ⟨oc30, od30, .func (PySem.W.fnOf "_law_coin" "_law_coin" (defArgs s__law_coin) (defBody s__law_coin) (defScope s__law_coin) .none kV30 dc30 pm30 an30 cd30 ct30), sl30⟩) (c30 : PySem.W.codeIn K cd30 "_law_coin" = true) (k30 : PySem.W.keepIn K (.ref f30) = true)
    (a31 : PySem.W.nsIn K mainGlobals "_law_ng_number" = some (some (.ref f31))) (l31 : K.lookup f31 = some ⟨oc31, od31, .func (PySem.W.fnOf "_law_ng_number" "_law_ng_number" (defArgs s__law_ng_number) (defBody s__law_ng_number) (defScope s__law_ng_number) .none kV31 dc31 pm31 an31 cd31 ct31), sl31⟩) (c31 : PySem.W.codeIn K cd31 "_law_ng_number" = true) (k31 : PySem.W.keepIn K (.ref f31) = true)
    (a32 : PySem.W.nsIn K mainGlobals "_law_ng_least" = some (some (.ref f32))) (l32 : K.lookup f32 = some ⟨oc32, od32, .func (PySem.W.fnOf "_law_ng_least" "_law_ng_least" (defArgs s__law_ng_least) (defBody s__law_ng_least) (defScope s__law_ng_least) .none kV32 dc32 pm32 an32 cd32 ct32), sl32⟩) (c32 : PySem.W.codeIn K cd32 "_law_ng_least" = true) (k32 : PySem.W.keepIn K (.ref f32) = true)
    (a33 : PySem.W.nsIn K mainGlobals "_law_ng_menu" = some (some (.ref f33))) (l33 : K.lookup f33 = some ⟨oc33, od33, .func (PySem.W.fnOf "_law_ng_menu" "_law_ng_menu" (defArgs s__law_ng_menu) (defBody s__law_ng_menu) (defScope s__law_ng_menu) .none kV33 dc33 pm33 an33 cd33 ct33), sl33⟩) (c33 : PySem.W.codeIn K cd33 "_law_ng_menu" = true) (k33 : PySem.W.keepIn K (.ref f33) = true)
    (a34 : PySem.W.nsIn K mainGlobals "_law_ng_shape" = some (some (.ref f34))) (l34 : K.lookup f34 = some ⟨oc34, od34, .func (PySem.W.fnOf "_law_ng_shape" "_law_ng_shape" (defArgs s__law_ng_shape) (defBody s__law_ng_shape) (defScope s__law_ng_shape) .none kV34 dc34 pm34 an34 cd34 ct34), sl34⟩) (c34 : PySem.W.codeIn K cd34 "_law_ng_shape" = true) (k34 : PySem.W.keepIn K (.ref f34) = true)
    (a35 : PySem.W.nsIn K mainGlobals "_law_ng_copy" = some (some (.ref f35))) (l35 : K.lookup f35 = some ⟨oc35, od35, .func (PySem.W.fnOf "_law_ng_copy" "_law_ng_copy" (defArgs s__law_ng_copy) (defBody s__law_ng_copy) (defScope s__law_ng_copy) .none kV35 dc35 pm35 an35 cd35 ct35), sl35⟩) (c35 : PySem.W.codeIn K cd35 "_law_ng_copy" = true) (k35 : PySem.W.keepIn K (.ref f35) = true)
    (a36 : PySem.W.nsIn K mainGlobals "_law_ng_is" = some (some (.ref f36))) (l36 : K.lookup f36 = some ⟨oc36, od36, .func (PySem.W.fnOf "_law_ng_is" "_law_ng_is" (defArgs s__law_ng_is) (defBody s__law_ng_is) (defScope s__law_ng_is) .none kV36 dc36 pm36 an36 cd36 ct36), sl36⟩) (c36 : PySem.W.codeIn K cd36 "_law_ng_is" = true) (k36 : PySem.W.keepIn K (.ref f36) = true)
    (a37 : PySem.W.nsIn K mainGlobals "_law_ng_bad" = some (some (.ref f37))) (l37 : K.lookup f37 = some ⟨oc37, od37, .func (PySem.W.fnOf "_law_ng_bad" "_law_ng_bad" (defArgs s__law_ng_bad) (defBody s__law_ng_bad) (defScope s__law_ng_bad) .none kV37 dc37 pm37 an37 cd37 ct37), sl37⟩) (c37 : PySem.W.codeIn K cd37 "_law_ng_bad" = true) (k37 : PySem.W.keepIn K (.ref f37) = true)
    (a38 : PySem.W.nsIn K mainGlobals "_law_ng_ask" = some (some (.ref f38))) (l38 : K.lookup f38 = some ⟨oc38, od38, .func (PySem.W.fnOf "_law_ng_ask" "_law_ng_ask" (defArgs s__law_ng_ask) (defBody s__law_ng_ask) (defScope s__law_ng_ask) .none kV38 dc38 pm38 an38 cd38 ct38), sl38⟩) (c38 : PySem.W.codeIn K cd38 "_law_ng_ask" = true) (k38 : PySem.W.keepIn K (.ref f38) = true)
    (a39 : PySem.W.nsIn K mainGlobals "_law_ng_ask_by_name" = some (some (.ref f39))) (l39 : K.lookup f39 = some ⟨oc39, od39, .func (PySem.W.fnOf "_law_ng_ask_by_name" "_law_ng_ask_by_name" (defArgs s__law_ng_ask_by_name) (defBody s__law_ng_ask_by_name) (defScope s__law_ng_ask_by_name) .none kV39 dc39 pm39 an39 cd39 ct39), sl39⟩) (c39 : PySem.W.codeIn K cd39 "_law_ng_ask_by_name" = true) (k39 : PySem.W.keepIn K (.ref f39) = true)
    (a40 : PySem.W.nsIn K mainGlobals "_law_ng_caught" = some (some (.ref f40))) (l40 : K.lookup f40 = some ⟨oc40, od40, .func (PySem.W.fnOf "_law_ng_caught" "_law_ng_caught" (defArgs s__law_ng_caught) (defBody s__law_ng_caught) (defScope s__law_ng_caught) .none kV40 dc40 pm40 an40 cd40 ct40), sl40⟩) (c40 : PySem.W.codeIn K cd40 "_law_ng_caught" = true) (k40 : PySem.W.keepIn K (.ref f40) = true)
    (a41 : PySem.W.nsIn K mainGlobals "_law_ng_fault" = some (some (.ref f41))) (l41 : K.lookup f41 = some ⟨oc41, od41, .func (PySem.W.fnOf "_law_ng_fault" "_law_ng_fault" (defArgs s__law_ng_fault) (defBody s__law_ng_fault) (defScope s__law_ng_fault) .none kV41 dc41 pm41 an41 cd41 ct41), sl41⟩) (c41 : PySem.W.codeIn K cd41 "_law_ng_fault" = true) (k41 : PySem.W.keepIn K (.ref f41) = true)
    (a42 : PySem.W.nsIn K mainGlobals "_law_ng_k25" = some (some (.ref f42))) (l42 : K.lookup f42 = some ⟨oc42, od42, .func (PySem.W.fnOf "_law_ng_k25" "_law_ng_k25" (defArgs s__law_ng_k25) (defBody s__law_ng_k25) (defScope s__law_ng_k25) .none kV42 dc42 pm42 an42 cd42 ct42), sl42⟩) (c42 : PySem.W.codeIn K cd42 "_law_ng_k25" = true) (k42 : PySem.W.keepIn K (.ref f42) = true)
    (a43 : PySem.W.nsIn K mainGlobals "law" = some (some (.ref f43))) (l43 : K.lookup f43 = some ⟨oc43, od43, .func (PySem.W.fnOf "law" "law" (defArgs s_law) (defBody s_law) (defScope s_law) .none kV43 dc43 pm43 an43 cd43 ct43), sl43⟩) (c43 : PySem.W.codeIn K cd43 "law" = true) (k43 : PySem.W.keepIn K (.ref f43) = true)
    (z0 : PySem.W.nsIn K mainGlobals "len" = some none)
    (z1 : PySem.W.nsIn K mainGlobals "range" = some none)
    (z2 : PySem.W.nsIn K mainGlobals "max" = some none)
    (z3 : PySem.W.nsIn K mainGlobals "min" = some none)
    (z4 : PySem.W.nsIn K mainGlobals "abs" = some none)
    (z5 : PySem.W.nsIn K mainGlobals "int" = some none)
    (z6 : PySem.W.nsIn K mainGlobals "list" = some none)
    (z7 : PySem.W.nsIn K mainGlobals "tuple" = some none)
    (z8 : PySem.W.nsIn K mainGlobals "repr" = some none)
    (z9 : PySem.W.nsIn K mainGlobals "all" = some none)
    (z10 : PySem.W.nsIn K mainGlobals "any" = some none)
    (z11 : PySem.W.nsIn K mainGlobals "sum" = some none)
    (z12 : PySem.W.nsIn K mainGlobals "sorted" = some none)
    (z13 : PySem.W.nsIn K mainGlobals "isinstance" = some none)
    (z14 : PySem.W.nsIn K mainGlobals "set" = some none)
    (z15 : PySem.W.nsIn K mainGlobals "enumerate" = some none)
    (z16 : PySem.W.nsIn K mainGlobals "zip" = some none)
    (z17 : PySem.W.nsIn K mainGlobals "str" = some none)
    (z18 : PySem.W.nsIn K mainGlobals "divmod" = some none)
    (z19 : PySem.W.nsIn K mainGlobals "dict" = some none)
    (z20 : PySem.W.nsIn K mainGlobals "bool" = some none)
    (z21 : PySem.W.nsIn K mainGlobals "reversed" = some none)
    {fI : Addr} {odI anI : Option Addr} {slI : Array (Option Value)} {ocI kVI dcI pmI cdI ctI : Value}
    (lI : K.lookup fI = some ⟨ocI, odI, .func (PySem.W.fnOf "__init__" "PileError.__init__" (defArgs s_VE) (defBody s_VE) (defScope s_VE) .none kVI dcI pmI anI cdI ctI), slI⟩) (cI : PySem.W.codeIn K cdI "PileError.__init__" = true) (kI : PySem.W.keepIn K (.ref fI) = true) (tI : PySem.W.typeIn K (.ref fI) = some (.type "function"))
    (gV : PySem.W.nsIn K mainGlobals "ValueError" = some none) (vV : PySem.W.findCls K (.type "ValueError") (.type "type") "__init__" = some (.val (.builtin "ValueError.__init__")))
    {E0 : Addr} {xnm0 xq0 xN0 xbs0 xbm0 xsn0 xsub0 xab0 xcol0 xdd0 xk0_0 xk1_0 xk2_0 xk3_0 xk5_0}
    (ea0 : PySem.W.nsIn K mainGlobals "InvalidEffect" = some (some (.ref E0))) (el0 : K.lookup E0 = some (PySem.excClassObj xnm0 xq0 E0 xN0 xbs0 xbm0 true xsn0 xsub0 xab0 xcol0 xdd0 xk0_0 xk1_0 xk2_0 xk3_0 xk5_0 "ValueError.__new__")) (er0 : PySem.HandSPX.refsVE xbm0 = true)
    (es0 : PySem.W.findIn K (.ref E0) "__setattr__" = some (some (.builtin "object.__setattr__"))) (eb0 : PySem.W.subIn K (.ref E0) (.type "BaseException") = some true) (et0 : PySem.W.typeIn K (.ref E0) = some (.type "type")) (ek0 : PySem.W.keepIn K (.ref E0) = true)
    (en0 : PySem.W.findIn K (.ref E0) "value" = some none) (ei0 : PySem.W.findIn K (.ref E0) "__init__" = some (some (.ref fI))) (ex0 : PySem.W.exmOne K (.ref E0) (.ref E0) = some true)
    (eg0 : PySem.W.findIn K (.ref E0) "__getattribute__" = some (some (.builtin "BaseException.__getattribute__"))) (eh0 : PySem.W.findIn K (.ref E0) "__getattr__" = some none) (ej0 : PySem.W.hasDictIn K E0 = true)
    {E1 : Addr} {xnm1 xq1 xN1 xbs1 xbm1 xsn1 xsub1 xab1 xcol1 xdd1 xk0_1 xk1_1 xk2_1 xk3_1 xk5_1}
    (ea1 : PySem.W.nsIn K mainGlobals "InvalidNumber" = some (some (.ref E1))) (el1 : K.lookup E1 = some (PySem.excClassObj xnm1 xq1 E1 xN1 xbs1 xbm1 true xsn1 xsub1 xab1 xcol1 xdd1 xk0_1 xk1_1 xk2_1 xk3_1 xk5_1 "ValueError.__new__")) (er1 : PySem.HandSPX.refsVE xbm1 = true)
    (es1 : PySem.W.findIn K (.ref E1) "__setattr__" = some (some (.builtin "object.__setattr__"))) (eb1 : PySem.W.subIn K (.ref E1) (.type "BaseException") = some true) (et1 : PySem.W.typeIn K (.ref E1) = some (.type "type")) (ek1 : PySem.W.keepIn K (.ref E1) = true)
    (en1 : PySem.W.findIn K (.ref E1) "value" = some none) (ei1 : PySem.W.findIn K (.ref E1) "__init__" = some (some (.ref fI))) (ex1 : PySem.W.exmOne K (.ref E1) (.ref E1) = some true)
    (eg1 : PySem.W.findIn K (.ref E1) "__getattribute__" = some (some (.builtin "BaseException.__getattribute__"))) (eh1 : PySem.W.findIn K (.ref E1) "__getattr__" = some none) (ej1 : PySem.W.hasDictIn K E1 = true)
    {E2 : Addr} {xnm2 xq2 xN2 xbs2 xbm2 xsn2 xsub2 xab2 xcol2 xdd2 xk0_2 xk1_2 xk2_2 xk3_2 xk5_2}
    (ea2 : PySem.W.nsIn K mainGlobals "InvalidPlace" = some (some (.ref E2))) (el2 : K.lookup E2 = some (PySem.excClassObj xnm2 xq2 E2 xN2 xbs2 xbm2 true xsn2 xsub2 xab2 xcol2 xdd2 xk0_2 xk1_2 xk2_2 xk3_2 xk5_2 "ValueError.__new__")) (er2 : PySem.HandSPX.refsVE xbm2 = true)
    (es2 : PySem.W.findIn K (.ref E2) "__setattr__" = some (some (.builtin "object.__setattr__"))) (eb2 : PySem.W.subIn K (.ref E2) (.type "BaseException") = some true) (et2 : PySem.W.typeIn K (.ref E2) = some (.type "type")) (ek2 : PySem.W.keepIn K (.ref E2) = true)
    (en2 : PySem.W.findIn K (.ref E2) "value" = some none) (ei2 : PySem.W.findIn K (.ref E2) "__init__" = some (some (.ref fI))) (ex2 : PySem.W.exmOne K (.ref E2) (.ref E2) = some true)
    (eg2 : PySem.W.findIn K (.ref E2) "__getattribute__" = some (some (.builtin "BaseException.__getattribute__"))) (eh2 : PySem.W.findIn K (.ref E2) "__getattr__" = some none) (ej2 : PySem.W.hasDictIn K E2 = true)
    {E3 : Addr} {xnm3 xq3 xN3 xbs3 xbm3 xsn3 xsub3 xab3 xcol3 xdd3 xk0_3 xk1_3 xk2_3 xk3_3 xk5_3}
    (ea3 : PySem.W.nsIn K mainGlobals "PileError" = some (some (.ref E3))) (el3 : K.lookup E3 = some (PySem.excClassObj xnm3 xq3 E3 xN3 xbs3 xbm3 true xsn3 xsub3 xab3 xcol3 xdd3 xk0_3 xk1_3 xk2_3 xk3_3 xk5_3 "ValueError.__new__")) (er3 : PySem.HandSPX.refsVE xbm3 = true)
    (es3 : PySem.W.findIn K (.ref E3) "__setattr__" = some (some (.builtin "object.__setattr__"))) (eb3 : PySem.W.subIn K (.ref E3) (.type "BaseException") = some true) (et3 : PySem.W.typeIn K (.ref E3) = some (.type "type")) (ek3 : PySem.W.keepIn K (.ref E3) = true)
    (en3 : PySem.W.findIn K (.ref E3) "value" = some none) (ei3 : PySem.W.findIn K (.ref E3) "__init__" = some (some (.ref fI))) (ex3 : PySem.W.exmOne K (.ref E3) (.ref E3) = some true)
    (eg3 : PySem.W.findIn K (.ref E3) "__getattribute__" = some (some (.builtin "BaseException.__getattribute__"))) (eh3 : PySem.W.findIn K (.ref E3) "__getattr__" = some none) (ej3 : PySem.W.hasDictIn K E3 = true)
    {E4 : Addr} {xnm4 xq4 xN4 xbs4 xbm4 xsn4 xsub4 xab4 xcol4 xdd4 xk0_4 xk1_4 xk2_4 xk3_4 xk5_4}
    (ea4 : PySem.W.nsIn K mainGlobals "TooShallow" = some (some (.ref E4))) (el4 : K.lookup E4 = some (PySem.excClassObj xnm4 xq4 E4 xN4 xbs4 xbm4 true xsn4 xsub4 xab4 xcol4 xdd4 xk0_4 xk1_4 xk2_4 xk3_4 xk5_4 "ValueError.__new__")) (er4 : PySem.HandSPX.refsVE xbm4 = true)
    (es4 : PySem.W.findIn K (.ref E4) "__setattr__" = some (some (.builtin "object.__setattr__"))) (eb4 : PySem.W.subIn K (.ref E4) (.type "BaseException") = some true) (et4 : PySem.W.typeIn K (.ref E4) = some (.type "type")) (ek4 : PySem.W.keepIn K (.ref E4) = true)
    (en4 : PySem.W.findIn K (.ref E4) "value" = some none) (ei4 : PySem.W.findIn K (.ref E4) "__init__" = some (some (.ref fI))) (ex4 : PySem.W.exmOne K (.ref E4) (.ref E4) = some true)
    (eg4 : PySem.W.findIn K (.ref E4) "__getattribute__" = some (some (.builtin "BaseException.__getattribute__"))) (eh4 : PySem.W.findIn K (.ref E4) "__getattr__" = some none) (ej4 : PySem.W.hasDictIn K E4 = true)
    (xm_InvalidEffect_InvalidEffect : PySem.W.exmOne K (.ref E0) (.ref E0) = some true)
    (xm_InvalidEffect_InvalidNumber : PySem.W.exmOne K (.ref E0) (.ref E1) = some false)
    (xm_InvalidEffect_InvalidPlace : PySem.W.exmOne K (.ref E0) (.ref E2) = some false)
    (xm_InvalidEffect_PileError : PySem.W.exmOne K (.ref E0) (.ref E3) = some true)
    (xm_InvalidNumber_InvalidEffect : PySem.W.exmOne K (.ref E1) (.ref E0) = some false)
    (xm_InvalidNumber_InvalidNumber : PySem.W.exmOne K (.ref E1) (.ref E1) = some true)
    (xm_InvalidNumber_InvalidPlace : PySem.W.exmOne K (.ref E1) (.ref E2) = some false)
    (xm_InvalidNumber_PileError : PySem.W.exmOne K (.ref E1) (.ref E3) = some true)
    (xm_InvalidPlace_InvalidEffect : PySem.W.exmOne K (.ref E2) (.ref E0) = some false)
    (xm_InvalidPlace_InvalidNumber : PySem.W.exmOne K (.ref E2) (.ref E1) = some false)
    (xm_InvalidPlace_InvalidPlace : PySem.W.exmOne K (.ref E2) (.ref E2) = some true)
    (xm_InvalidPlace_PileError : PySem.W.exmOne K (.ref E2) (.ref E3) = some true)
    (isn : PySem.W.specialIn K (.builtin "object.__class__") "__get__" = some (some (.builtin "getset_descriptor.__get__"))) (ist : PySem.W.takesIn K (.builtin "object.__class__") = some true)
    (ia0 : PySem.W.findIn K (.ref E0) "__class__" = some (some (.builtin "object.__class__"))) (im0 : PySem.W.mroIn K E0 (.type "object") = some true)
    (ia1 : PySem.W.findIn K (.ref E1) "__class__" = some (some (.builtin "object.__class__"))) (im1 : PySem.W.mroIn K E1 (.type "object") = some true)
    (ia2 : PySem.W.findIn K (.ref E2) "__class__" = some (some (.builtin "object.__class__"))) (im2 : PySem.W.mroIn K E2 (.type "object") = some true)
    (kt_InvalidEffect_InvalidNumber_InvalidPlace_TooShallow : PySem.W.kitAny K (.ref E0) [.ref E1, .ref E2, .ref E4] = some false)
    (ki_InvalidEffect_PileError : PySem.W.kitOne K (.ref E0) (.ref E3) = some true)
    (kt_InvalidNumber_InvalidEffect_InvalidPlace_TooShallow : PySem.W.kitAny K (.ref E1) [.ref E0, .ref E2, .ref E4] = some false)
    (ki_InvalidNumber_PileError : PySem.W.kitOne K (.ref E1) (.ref E3) = some true)
    (kt_InvalidPlace_InvalidNumber_InvalidEffect_TooShallow : PySem.W.kitAny K (.ref E2) [.ref E1, .ref E0, .ref E4] = some false)
    (ki_InvalidPlace_PileError : PySem.W.kitOne K (.ref E2) (.ref E3) = some true)
    : ∃ fd : FuncData, (∀ (s : Shared) (v : Value), BindsTo s fd ⟨[v], []⟩ [("_law_script", v)]) ∧ ∀ base : Heap, K.In base → base.Ns mainGlobals mg → FnG l.prog w K mg base CX0 10 fa fd ["_law_script"] (spLaw K) := by
  have e := hfa.symm.trans (PySem.W.mg_of X G a43)
  cases e
  exact ⟨PySem.W.fnOf "law" "law" (defArgs s_law) (defBody s_law) (defScope s_law) .none kV43 dc43 pm43 an43 cd43 ct43, fun s v => .of_eq rfl, fun base _ _ => ok_law (⟨⟨PySem.W.mg_none_of X G z0, PySem.W.mg_none_of X G z1, PySem.W.mg_none_of X G z2, PySem.W.mg_none_of X G z3, PySem.W.mg_none_of X G z4, PySem.W.mg_none_of X G z5, PySem.W.mg_none_of X G z6, PySem.W.mg_none_of X G z7, PySem.W.mg_none_of X G z8, PySem.W.mg_none_of X G z9, PySem.W.mg_none_of X G z10, PySem.W.mg_none_of X G z11, PySem.W.mg_none_of X G z12, PySem.W.mg_none_of X G z13, PySem.W.mg_none_of X G z14, PySem.W.mg_none_of X G z15, PySem.W.mg_none_of X G z16, PySem.W.mg_none_of X G z17, PySem.W.mg_none_of X G z18, PySem.W.mg_none_of X G z19, PySem.W.mg_none_of X G z20, PySem.W.mg_none_of X G z21⟩,
    f0, _, ⟨fun_mk (st := s_is_effect) l0 c0 k0, PySem.W.mg_of X G a0, (fun_mk (st := s_is_effect) l0 c0 k0).binds fun _ _ _ _ _ _ us hl => match us, hl with | [_], _ => rfl⟩,
    f1, _, ⟨fun_mk (st := s_least_of) l1 c1 k1, PySem.W.mg_of X G a1, (fun_mk (st := s_least_of) l1 c1 k1).binds fun _ _ _ _ _ _ us hl => match us, hl with | [_, _], _ => rfl⟩,
    f2, _, ⟨fun_mk (st := s_checked) l2 c2 k2, PySem.W.mg_of X G a2, (fun_mk (st := s_checked) l2 c2 k2).binds fun _ _ _ _ _ _ us hl => match us, hl with | [_], _ => rfl⟩,
    f3, _, ⟨fun_mk (st := s_came_from) l3 c3 k3, PySem.W.mg_of X G a3, (fun_mk (st := s_came_from) l3 c3 k3).binds fun _ _ _ _ _ _ us hl => match us, hl with | [_, _], _ => rfl⟩,
    f4, _, ⟨fun_mk (st := s_join_of) l4 c4 k4, PySem.W.mg_of X G a4, (fun_mk (st := s_join_of) l4 c4 k4).binds fun _ _ _ _ _ _ us hl => match us, hl with | [_, _], _ => rfl⟩,
    f5, _, ⟨fun_mk (st := s_power_of) l5 c5 k5, PySem.W.mg_of X G a5, (fun_mk (st := s_power_of) l5 c5 k5).binds fun _ _ _ _ _ _ us hl => match us, hl with | [_, _], _ => rfl⟩,
    f6, _, ⟨fun_mk (st := s_goes_on) l6 c6 k6, PySem.W.mg_of X G a6, (fun_mk (st := s_goes_on) l6 c6 k6).binds fun _ _ _ _ _ _ us hl => match us, hl with | [_, _, _], _ => rfl⟩,
    f7, _, ⟨fun_mk (st := s_told_way) l7 c7 k7, PySem.W.mg_of X G a7, (fun_mk (st := s_told_way) l7 c7 k7).binds fun _ _ _ _ _ _ us hl => match us, hl with | [_, _, _, _], _ => rfl⟩,
    f8, _, ⟨fun_mk (st := s_walked_places) l8 c8 k8, PySem.W.mg_of X G a8, (fun_mk (st := s_walked_places) l8 c8 k8).binds fun _ _ _ _ _ _ us hl => match us, hl with | [_, _], _ => rfl⟩,
    f9, _, ⟨fun_mk (st := s_steps_down) l9 c9 k9, PySem.W.mg_of X G a9, (fun_mk (st := s_steps_down) l9 c9 k9).binds fun _ _ _ _ _ _ us hl => match us, hl with | [_, _, _], _ => rfl⟩,
    f10, _, ⟨fun_mk (st := s_spot_after) l10 c10 k10, PySem.W.mg_of X G a10, (fun_mk (st := s_spot_after) l10 c10 k10).binds fun _ _ _ _ _ _ us hl => match us, hl with | [_, _, _], _ => rfl⟩,
    f11, _, ⟨fun_mk (st := s_arrivals_at) l11 c11 k11, PySem.W.mg_of X G a11, (fun_mk (st := s_arrivals_at) l11 c11 k11).binds fun _ _ _ _ _ _ us hl => match us, hl with | [_, _, _, _], _ => rfl⟩,
    f12, _, ⟨fun_mk (st := s_count_after) l12 c12 k12, PySem.W.mg_of X G a12, (fun_mk (st := s_count_after) l12 c12 k12).binds fun _ _ _ _ _ _ us hl => match us, hl with | [_, _, _], _ => rfl⟩,
    f13, _, ⟨fun_mk (st := s_ring_size) l13 c13 k13, PySem.W.mg_of X G a13, (fun_mk (st := s_ring_size) l13 c13 k13).binds fun _ _ _ _ _ _ us hl => match us, hl with | [_, _], _ => rfl⟩,
    f14, _, ⟨fun_mk (st := s_size_after_times) l14 c14 k14, PySem.W.mg_of X G a14, (fun_mk (st := s_size_after_times) l14 c14 k14).binds fun _ _ _ _ _ _ us hl => match us, hl with | [_, _], _ => rfl⟩,
    f15, _, ⟨fun_mk (st := s_counts_told) l15 c15 k15, PySem.W.mg_of X G a15, (fun_mk (st := s_counts_told) l15 c15 k15).binds fun _ _ _ _ _ _ us hl => match us, hl with | [_, _], _ => rfl⟩,
    f16, _, ⟨fun_mk (st := s_lost_from) l16 c16 k16, PySem.W.mg_of X G a16, (fun_mk (st := s_lost_from) l16 c16 k16).binds fun _ _ _ _ _ _ us hl => match us, hl with | [_, _], _ => rfl⟩,
    f17, _, ⟨fun_mk (st := s_merged_from) l17 c17 k17, PySem.W.mg_of X G a17, (fun_mk (st := s_merged_from) l17 c17 k17).binds fun _ _ _ _ _ _ us hl => match us, hl with | [_, _, _], _ => rfl⟩,
    f18, _, ⟨fun_mk (st := s_check_number) l18 c18 k18, PySem.W.mg_of X G a18, (fun_mk (st := s_check_number) l18 c18 k18).binds fun _ _ _ _ _ _ us hl => match us, hl with | [_], _ => rfl⟩,
    f19, _, ⟨fun_mk (st := s_check_place) l19 c19 k19, PySem.W.mg_of X G a19, (fun_mk (st := s_check_place) l19 c19 k19).binds fun _ _ _ _ _ _ us hl => match us, hl with | [_], _ => rfl⟩,
    f20, _, ⟨fun_mk (st := s_times) l20 c20 k20, PySem.W.mg_of X G a20, (fun_mk (st := s_times) l20 c20 k20).binds fun _ _ _ _ _ _ us hl => match us, hl with | [_, _], _ => rfl⟩,
    f21, _, ⟨fun_mk (st := s_place_after) l21 c21 k21, PySem.W.mg_of X G a21, (fun_mk (st := s_place_after) l21 c21 k21).binds fun _ _ _ _ _ _ us hl => match us, hl with | [_, _, _], _ => rfl⟩,
    f22, _, ⟨fun_mk (st := s_way) l22 c22 k22, PySem.W.mg_of X G a22, (fun_mk (st := s_way) l22 c22 k22).binds fun _ _ _ _ _ _ us hl => match us, hl with | [_, _], _ => rfl⟩,
    f23, _, ⟨fun_mk (st := s_size_after) l23 c23 k23, PySem.W.mg_of X G a23, (fun_mk (st := s_size_after) l23 c23 k23).binds fun _ _ _ _ _ _ us hl => match us, hl with | [_, _], _ => rfl⟩,
    f24, _, ⟨fun_mk (st := s_copies) l24 c24 k24, PySem.W.mg_of X G a24, (fun_mk (st := s_copies) l24 c24 k24).binds fun _ _ _ _ _ _ us hl => match us, hl with | [_, _, _], _ => rfl⟩,
    f25, _, ⟨fun_mk (st := s_copies_way) l25 c25 k25, PySem.W.mg_of X G a25, (fun_mk (st := s_copies_way) l25 c25 k25).binds fun _ _ _ _ _ _ us hl => match us, hl with | [_, _], _ => rfl⟩,
    f26, _, ⟨fun_mk (st := s_lost_after) l26 c26 k26, PySem.W.mg_of X G a26, (fun_mk (st := s_lost_after) l26 c26 k26).binds fun _ _ _ _ _ _ us hl => match us, hl with | [_, _], _ => rfl⟩,
    f27, _, ⟨fun_mk (st := s_merged_after) l27 c27 k27, PySem.W.mg_of X G a27, (fun_mk (st := s_merged_after) l27 c27 k27).binds fun _ _ _ _ _ _ us hl => match us, hl with | [_, _, _], _ => rfl⟩,
    f28, _, ⟨fun_mk (st := s_comes_again) l28 c28 k28, PySem.W.mg_of X G a28, (fun_mk (st := s_comes_again) l28 c28 k28).binds fun _ _ _ _ _ _ us hl => match us, hl with | [_], _ => rfl⟩,
    f29, _, ⟨fun_mk (st := s__law_ng_purse) l29 c29 k29, PySem.W.mg_of X G a29, (fun_mk (st := s__law_ng_purse) l29 c29 k29).binds fun _ _ _ _ _ _ us hl => match us, hl with | [_, _], _ => rfl⟩,
    f30, _, ⟨fun_mk (st := s__law_coin) l30 c30 k30, PySem.W.mg_of X G a30, (fun_mk (st := s__law_coin) l30 c30 k30).binds fun _ _ _ _ _ _ us hl => match us, hl with | [_, _], _ => rfl⟩,
    f31, _, ⟨fun_mk (st := s__law_ng_number) l31 c31 k31, PySem.W.mg_of X G a31, (fun_mk (st := s__law_ng_number) l31 c31 k31).binds fun _ _ _ _ _ _ us hl => match us, hl with | [_, _], _ => rfl⟩,
    f32, _, ⟨fun_mk (st := s__law_ng_least) l32 c32 k32, PySem.W.mg_of X G a32, (fun_mk (st := s__law_ng_least) l32 c32 k32).binds fun _ _ _ _ _ _ us hl => match us, hl with | [_, _], _ => rfl⟩,
    f33, _, ⟨fun_mk (st := s__law_ng_menu) l33 c33 k33, PySem.W.mg_of X G a33, (fun_mk (st := s__law_ng_menu) l33 c33 k33).binds fun _ _ _ _ _ _ us hl => match us, hl with | [_], _ => rfl⟩,
    f34, _, ⟨fun_mk (st := s__law_ng_shape) l34 c34 k34, PySem.W.mg_of X G a34, (fun_mk (st := s__law_ng_shape) l34 c34 k34).binds fun _ _ _ _ _ _ us hl => match us, hl with | [_, _, _], _ => rfl⟩,
    f35, _, ⟨fun_mk (st := s__law_ng_copy) l35 c35 k35, PySem.W.mg_of X G a35, (fun_mk (st := s__law_ng_copy) l35 c35 k35).binds fun _ _ _ _ _ _ us hl => match us, hl with | [_], _ => rfl⟩,
    f36, _, ⟨fun_mk (st := s__law_ng_is) l36 c36 k36, PySem.W.mg_of X G a36, (fun_mk (st := s__law_ng_is) l36 c36 k36).binds fun _ _ _ _ _ _ us hl => match us, hl with | [_, _], _ => rfl⟩,
    f37, _, ⟨fun_mk (st := s__law_ng_bad) l37 c37 k37, PySem.W.mg_of X G a37, (fun_mk (st := s__law_ng_bad) l37 c37 k37).binds fun _ _ _ _ _ _ us hl => match us, hl with | [_], _ => rfl⟩,
    f38, _, ⟨fun_mk (st := s__law_ng_ask) l38 c38 k38, PySem.W.mg_of X G a38, (fun_mk (st := s__law_ng_ask) l38 c38 k38).binds fun _ _ _ _ _ _ us hl => match us, hl with | [_, _, _, _, _], _ => rfl⟩,
    f39, _, ⟨fun_mk (st := s__law_ng_ask_by_name) l39 c39 k39, PySem.W.mg_of X G a39, (fun_mk (st := s__law_ng_ask_by_name) l39 c39 k39).binds fun _ _ _ _ _ _ us hl => match us, hl with | [_, _, _, _, _], _ => rfl⟩,
    f40, _, ⟨fun_mk (st := s__law_ng_caught) l40 c40 k40, PySem.W.mg_of X G a40, (fun_mk (st := s__law_ng_caught) l40 c40 k40).binds fun _ _ _ _ _ _ us hl => match us, hl with | [_, _, _, _, _, _], _ => rfl⟩,
    f41, _, ⟨fun_mk (st := s__law_ng_fault) l41 c41 k41, PySem.W.mg_of X G a41, (fun_mk (st := s__law_ng_fault) l41 c41 k41).binds fun _ _ _ _ _ _ us hl => match us, hl with | [_, _, _, _, _, _], _ => rfl⟩,
    f42, _, ⟨fun_mk (st := s__law_ng_k25) l42 c42 k42, PySem.W.mg_of X G a42, (fun_mk (st := s__law_ng_k25) l42 c42 k42).binds fun _ _ _ _ _ _ us hl => match us, hl with | [_], _ => rfl⟩,
    fa, _, ⟨fun_mk (st := s_law) l43 c43 k43, PySem.W.mg_of X G a43, (fun_mk (st := s_law) l43 c43 k43).binds fun _ _ _ _ _ _ us hl => match us, hl with | [_], _ => rfl⟩,
    E0, fI, _, ⟨PySem.W.mg_of X G ea0, oex_mk el0 er0 es0 eb0 et0 ek0, en0, ei0, tI, fun_mk (st := s_VE) lI cI kI, (fun_mk (st := s_VE) lI cI kI).binds fun _ _ _ _ _ _ us hl => match us, hl with | [_, _], _ => rfl, ex0, PySem.W.mg_none_of X G gV, vV, ⟨eg0, eh0, eb0, ej0⟩⟩,
    E1, fI, _, ⟨PySem.W.mg_of X G ea1, oex_mk el1 er1 es1 eb1 et1 ek1, en1, ei1, tI, fun_mk (st := s_VE) lI cI kI, (fun_mk (st := s_VE) lI cI kI).binds fun _ _ _ _ _ _ us hl => match us, hl with | [_, _], _ => rfl, ex1, PySem.W.mg_none_of X G gV, vV, ⟨eg1, eh1, eb1, ej1⟩⟩,
    E2, fI, _, ⟨PySem.W.mg_of X G ea2, oex_mk el2 er2 es2 eb2 et2 ek2, en2, ei2, tI, fun_mk (st := s_VE) lI cI kI, (fun_mk (st := s_VE) lI cI kI).binds fun _ _ _ _ _ _ us hl => match us, hl with | [_, _], _ => rfl, ex2, PySem.W.mg_none_of X G gV, vV, ⟨eg2, eh2, eb2, ej2⟩⟩,
    E3, fI, _, ⟨PySem.W.mg_of X G ea3, oex_mk el3 er3 es3 eb3 et3 ek3, en3, ei3, tI, fun_mk (st := s_VE) lI cI kI, (fun_mk (st := s_VE) lI cI kI).binds fun _ _ _ _ _ _ us hl => match us, hl with | [_, _], _ => rfl, ex3, PySem.W.mg_none_of X G gV, vV, ⟨eg3, eh3, eb3, ej3⟩⟩,
    E4, fI, _, ⟨PySem.W.mg_of X G ea4, oex_mk el4 er4 es4 eb4 et4 ek4, en4, ei4, tI, fun_mk (st := s_VE) lI cI kI, (fun_mk (st := s_VE) lI cI kI).binds fun _ _ _ _ _ _ us hl => match us, hl with | [_, _], _ => rfl, ex4, PySem.W.mg_none_of X G gV, vV, ⟨eg4, eh4, eb4, ej4⟩⟩,
    xm_InvalidEffect_InvalidEffect,
    xm_InvalidEffect_InvalidNumber,
    xm_InvalidEffect_InvalidPlace,
    xm_InvalidEffect_PileError,
    xm_InvalidNumber_InvalidEffect,
    xm_InvalidNumber_InvalidNumber,
    xm_InvalidNumber_InvalidPlace,
    xm_InvalidNumber_PileError,
    xm_InvalidPlace_InvalidEffect,
    xm_InvalidPlace_InvalidNumber,
    xm_InvalidPlace_InvalidPlace,
    xm_InvalidPlace_PileError,
    ⟨eg0, eh0, eb0, ej0, ia0, isn, ist, im0⟩,
    ⟨eg1, eh1, eb1, ej1, ia1, isn, ist, im1⟩,
    ⟨eg2, eh2, eb2, ej2, ia2, isn, ist, im2⟩,
    kt_InvalidEffect_InvalidNumber_InvalidPlace_TooShallow,
    ki_InvalidEffect_PileError,
    kt_InvalidNumber_InvalidEffect_InvalidPlace_TooShallow,
    ki_InvalidNumber_PileError,
    kt_InvalidPlace_InvalidNumber_InvalidEffect_TooShallow,
    ki_InvalidPlace_PileError⟩ : Prog K mg)⟩
end
end My
open PySem PySem.W PyProof.Rows
set_option maxHeartbeats 0 in
theorem PySem.Challenge.cw_pileshifts_k25_refused_times_holds : PySem.Challenge.rw_pileshifts_k25_refused_times.Holds := by
  w_on; o_law; k_head; (case hw => w_witness2)
  k_fill
  refine G.walk_ofG (l := PySem.Challenge.rw_pileshifts_k25_refused_times) (n := 63) (k := 10) (x := "_law_script") (CX := fun _ => L2.CX0) (sp := fun w => My.spLaw _) rfl (by decide) rfl ⟨rfl, by decide, by decide⟩ (fun w h Y => PySem.W.kIn_of Y) ?F (fun _ _ a ns hl hb _ hS => ⟨a, ns, rfl, hS, hl, hb, fun _ => rfl⟩) (fun _ _ _ _ _ h => h)
  case F =>
    intro w mg fa h KX G hmg
    refine' My.all_mk KX G hmg ?a0 ?l0 ?c0 ?k0 ?a1 ?l1 ?c1 ?k1 ?a2 ?l2 ?c2 ?k2 ?a3 ?l3 ?c3 ?k3 ?a4 ?l4 ?c4 ?k4 ?a5 ?l5 ?c5 ?k5 ?a6 ?l6 ?c6 ?k6 ?a7 ?l7 ?c7 ?k7 ?a8 ?l8 ?c8 ?k8 ?a9 ?l9 ?c9 ?k9 ?a10 ?l10 ?c10 ?k10 ?a11 ?l11 ?c11 ?k11 ?a12 ?l12 ?c12 ?k12 ?a13 ?l13 ?c13 ?k13 ?a14 ?l14 ?c14 ?k14 ?a15 ?l15 ?c15 ?k15 ?a16 ?l16 ?c16 ?k16 ?a17 ?l17 ?c17 ?k17 ?a18 ?l18 ?c18 ?k18 ?a19 ?l19 ?c19 ?k19 ?a20 ?l20 ?c20 ?k20 ?a21 ?l21 ?c21 ?k21 ?a22 ?l22 ?c22 ?k22 ?a23 ?l23 ?c23 ?k23 ?a24 ?l24 ?c24 ?k24 ?a25 ?l25 ?c25 ?k25 ?a26 ?l26 ?c26 ?k26 ?a27 ?l27 ?c27 ?k27 ?a28 ?l28 ?c28 ?k28 ?a29 ?l29 ?c29 ?k29 ?a30 ?l30 ?c30 ?k30 ?a31 ?l31 ?c31 ?k31 ?a32 ?l32 ?c32 ?k32 ?a33 ?l33 ?c33 ?k33 ?a34 ?l34 ?c34 ?k34 ?a35 ?l35 ?c35 ?k35 ?a36 ?l36 ?c36 ?k36 ?a37 ?l37 ?c37 ?k37 ?a38 ?l38 ?c38 ?k38 ?a39 ?l39 ?c39 ?k39 ?a40 ?l40 ?c40 ?k40 ?a41 ?l41 ?c41 ?k41 ?a42 ?l42 ?c42 ?k42 ?a43 ?l43 ?c43 ?k43 ?z0 ?z1 ?z2 ?z3 ?z4 ?z5 ?z6 ?z7 ?z8 ?z9 ?z10 ?z11 ?z12 ?z13 ?z14 ?z15 ?z16 ?z17 ?z18 ?z19 ?z20 ?z21 ?lI ?cI ?kI ?tI ?gV ?vV ?ea0 ?el0 ?er0 ?es0 ?eb0 ?et0 ?ek0 ?en0 ?ei0 ?ex0 ?eg0 ?eh0 ?ej0 ?ea1 ?el1 ?er1 ?es1 ?eb1 ?et1 ?ek1 ?en1 ?ei1 ?ex1 ?eg1 ?eh1 ?ej1 ?ea2 ?el2 ?er2 ?es2 ?eb2 ?et2 ?ek2 ?en2 ?ei2 ?ex2 ?eg2 ?eh2 ?ej2 ?ea3 ?el3 ?er3 ?es3 ?eb3 ?et3 ?ek3 ?en3 ?ei3 ?ex3 ?eg3 ?eh3 ?ej3 ?ea4 ?el4 ?er4 ?es4 ?eb4 ?et4 ?ek4 ?en4 ?ei4 ?ex4 ?eg4 ?eh4 ?ej4 ?xm_InvalidEffect_InvalidEffect ?xm_InvalidEffect_InvalidNumber ?xm_InvalidEffect_InvalidPlace ?xm_InvalidEffect_PileError ?xm_InvalidNumber_InvalidEffect ?xm_InvalidNumber_InvalidNumber ?xm_InvalidNumber_InvalidPlace ?xm_InvalidNumber_PileError ?xm_InvalidPlace_InvalidEffect ?xm_InvalidPlace_InvalidNumber ?xm_InvalidPlace_InvalidPlace ?xm_InvalidPlace_PileError ?isn ?ist ?ia0 ?im0 ?ia1 ?im1 ?ia2 ?im2 ?kt_InvalidEffect_InvalidNumber_InvalidPlace_TooShallow ?ki_InvalidEffect_PileError ?kt_InvalidNumber_InvalidEffect_InvalidPlace_TooShallow ?ki_InvalidNumber_PileError ?kt_InvalidPlace_InvalidNumber_InvalidEffect_TooShallow ?ki_InvalidPlace_PileError
    (case a0 => k_is)
    (case l0 => k_is)
    (case c0 => k_is)
    (case k0 => k_is)
    (case a1 => k_is)
    (case l1 => k_is)
    (case c1 => k_is)
    (case k1 => k_is)
    (case a2 => k_is)
    (case l2 => k_is)
    (case c2 => k_is)
    (case k2 => k_is)
    (case a3 => k_is)
    (case l3 => k_is)
    (case c3 => k_is)
    (case k3 => k_is)
    (case a4 => k_is)
    (case l4 => k_is)
    (case c4 => k_is)
    (case k4 => k_is)
    (case a5 => k_is)
    (case l5 => k_is)
    (case c5 => k_is)
    (case k5 => k_is)
    (case a6 => k_is)
    (case l6 => k_is)
    (case c6 => k_is)
    (case k6 => k_is)
    (case a7 => k_is)
    (case l7 => k_is)
    (case c7 => k_is)
    (case k7 => k_is)
    (case a8 => k_is)
    (case l8 => k_is)
    (case c8 => k_is)
    (case k8 => k_is)
    (case a9 => k_is)
    (case l9 => k_is)
    (case c9 => k_is)
    (case k9 => k_is)
    (case a10 => k_is)
    (case l10 => k_is)
    (case c10 => k_is)
    (case k10 => k_is)
    (case a11 => k_is)
    (case l11 => k_is)
    (case c11 => k_is)
    (case k11 => k_is)
    (case a12 => k_is)
    (case l12 => k_is)
    (case c12 => k_is)
    (case k12 => k_is)
    (case a13 => k_is)
    (case l13 => k_is)
    (case c13 => k_is)
    (case k13 => k_is)
    (case a14 => k_is)
    (case l14 => k_is)
    (case c14 => k_is)
    (case k14 => k_is)
    (case a15 => k_is)
    (case l15 => k_is)
    (case c15 => k_is)
    (case k15 => k_is)
    (case a16 => k_is)
    (case l16 => k_is)
    (case c16 => k_is)
    (case k16 => k_is)
    (case a17 => k_is)
    (case l17 => k_is)
    (case c17 => k_is)
    (case k17 => k_is)
    (case a18 => k_is)
    (case l18 => k_is)
    (case c18 => k_is)
    (case k18 => k_is)
    (case a19 => k_is)
    (case l19 => k_is)
    (case c19 => k_is)
    (case k19 => k_is)
    (case a20 => k_is)
    (case l20 => k_is)
    (case c20 => k_is)
    (case k20 => k_is)
    (case a21 => k_is)
    (case l21 => k_is)
    (case c21 => k_is)
    (case k21 => k_is)
    (case a22 => k_is)
    (case l22 => k_is)
    (case c22 => k_is)
    (case k22 => k_is)
    (case a23 => k_is)
    (case l23 => k_is)
    (case c23 => k_is)
    (case k23 => k_is)
    (case a24 => k_is)
    (case l24 => k_is)
    (case c24 => k_is)
    (case k24 => k_is)
    (case a25 => k_is)
    (case l25 => k_is)
    (case c25 => k_is)
    (case k25 => k_is)
    (case a26 => k_is)
    (case l26 => k_is)
    (case c26 => k_is)
    (case k26 => k_is)
    (case a27 => k_is)
    (case l27 => k_is)
    (case c27 => k_is)
    (case k27 => k_is)
    (case a28 => k_is)
    (case l28 => k_is)
    (case c28 => k_is)
    (case k28 => k_is)
    (case a29 => k_is)
    (case l29 => k_is)
    (case c29 => k_is)
    (case k29 => k_is)
    (case a30 => k_is)
    (case l30 => k_is)
    (case c30 => k_is)
    (case k30 => k_is)
    (case a31 => k_is)
    (case l31 => k_is)
    (case c31 => k_is)
    (case k31 => k_is)
    (case a32 => k_is)
    (case l32 => k_is)
    (case c32 => k_is)
    (case k32 => k_is)
    (case a33 => k_is)
    (case l33 => k_is)
    (case c33 => k_is)
    (case k33 => k_is)
    (case a34 => k_is)
    (case l34 => k_is)
    (case c34 => k_is)
    (case k34 => k_is)
    (case a35 => k_is)
    (case l35 => k_is)
    (case c35 => k_is)
    (case k35 => k_is)
    (case a36 => k_is)
    (case l36 => k_is)
    (case c36 => k_is)
    (case k36 => k_is)
    (case a37 => k_is)
    (case l37 => k_is)
    (case c37 => k_is)
    (case k37 => k_is)
    (case a38 => k_is)
    (case l38 => k_is)
    (case c38 => k_is)
    (case k38 => k_is)
    (case a39 => k_is)
    (case l39 => k_is)
    (case c39 => k_is)
    (case k39 => k_is)
    (case a40 => k_is)
    (case l40 => k_is)
    (case c40 => k_is)
    (case k40 => k_is)
    (case a41 => k_is)
    (case l41 => k_is)
    (case c41 => k_is)
    (case k41 => k_is)
    (case a42 => k_is)
    (case l42 => k_is)
    (case c42 => k_is)
    (case k42 => k_is)
    (case a43 => k_is)
    (case l43 => k_is)
    (case c43 => k_is)
    (case k43 => k_is)
    (case z0 => k_is)
    (case z1 => k_is)
    (case z2 => k_is)
    (case z3 => k_is)
    (case z4 => k_is)
    (case z5 => k_is)
    (case z6 => k_is)
    (case z7 => k_is)
    (case z8 => k_is)
    (case z9 => k_is)
    (case z10 => k_is)
    (case z11 => k_is)
    (case z12 => k_is)
    (case z13 => k_is)
    (case z14 => k_is)
    (case z15 => k_is)
    (case z16 => k_is)
    (case z17 => k_is)
    (case z18 => k_is)
    (case z19 => k_is)
    (case z20 => k_is)
    (case z21 => k_is)
    (case ea0 => k_is)
    (case el0 => k_is)
    (case er0 => first | k_is | decide +kernel | rfl)
    (case es0 => k_is)
    (case eb0 => k_is)
    (case et0 => k_is)
    (case ek0 => k_is)
    (case en0 => k_is)
    (case ei0 => k_is)
    (case ex0 => first | rfl | decide +kernel)
    (case eg0 => k_is)
    (case eh0 => k_is)
    (case ej0 => k_is)
    (case ea1 => k_is)
    (case el1 => k_is)
    (case er1 => first | k_is | decide +kernel | rfl)
    (case es1 => k_is)
    (case eb1 => k_is)
    (case et1 => k_is)
    (case ek1 => k_is)
    (case en1 => k_is)
    (case ei1 => k_is)
    (case ex1 => first | rfl | decide +kernel)
    (case eg1 => k_is)
    (case eh1 => k_is)
    (case ej1 => k_is)
    (case ea2 => k_is)
    (case el2 => k_is)
    (case er2 => first | k_is | decide +kernel | rfl)
    (case es2 => k_is)
    (case eb2 => k_is)
    (case et2 => k_is)
    (case ek2 => k_is)
    (case en2 => k_is)
    (case ei2 => k_is)
    (case ex2 => first | rfl | decide +kernel)
    (case eg2 => k_is)
    (case eh2 => k_is)
    (case ej2 => k_is)
    (case ea3 => k_is)
    (case el3 => k_is)
    (case er3 => first | k_is | decide +kernel | rfl)
    (case es3 => k_is)
    (case eb3 => k_is)
    (case et3 => k_is)
    (case ek3 => k_is)
    (case en3 => k_is)
    (case ei3 => k_is)
    (case ex3 => first | rfl | decide +kernel)
    (case eg3 => k_is)
    (case eh3 => k_is)
    (case ej3 => k_is)
    (case ea4 => k_is)
    (case el4 => k_is)
    (case er4 => first | k_is | decide +kernel | rfl)
    (case es4 => k_is)
    (case eb4 => k_is)
    (case et4 => k_is)
    (case ek4 => k_is)
    (case en4 => k_is)
    (case ei4 => k_is)
    (case ex4 => first | rfl | decide +kernel)
    (case eg4 => k_is)
    (case eh4 => k_is)
    (case ej4 => k_is)
    (case xm_InvalidEffect_InvalidEffect => first | rfl | decide +kernel)
    (case xm_InvalidEffect_InvalidNumber => first | rfl | decide +kernel)
    (case xm_InvalidEffect_InvalidPlace => first | rfl | decide +kernel)
    (case xm_InvalidEffect_PileError => first | rfl | decide +kernel)
    (case xm_InvalidNumber_InvalidEffect => first | rfl | decide +kernel)
    (case xm_InvalidNumber_InvalidNumber => first | rfl | decide +kernel)
    (case xm_InvalidNumber_InvalidPlace => first | rfl | decide +kernel)
    (case xm_InvalidNumber_PileError => first | rfl | decide +kernel)
    (case xm_InvalidPlace_InvalidEffect => first | rfl | decide +kernel)
    (case xm_InvalidPlace_InvalidNumber => first | rfl | decide +kernel)
    (case xm_InvalidPlace_InvalidPlace => first | rfl | decide +kernel)
    (case xm_InvalidPlace_PileError => first | rfl | decide +kernel)
    (case isn => first | k_is | rfl | decide +kernel)
    (case ist => first | k_is | rfl | decide +kernel)
    (case ia0 => first | k_is | rfl | decide +kernel)
    (case im0 => first | k_is | rfl | decide +kernel)
    (case ia1 => first | k_is | rfl | decide +kernel)
    (case im1 => first | k_is | rfl | decide +kernel)
    (case ia2 => first | k_is | rfl | decide +kernel)
    (case im2 => first | k_is | rfl | decide +kernel)
    (case kt_InvalidEffect_InvalidNumber_InvalidPlace_TooShallow => first | rfl | decide +kernel)
    (case ki_InvalidEffect_PileError => first | rfl | decide +kernel)
    (case kt_InvalidNumber_InvalidEffect_InvalidPlace_TooShallow => first | rfl | decide +kernel)
    (case ki_InvalidNumber_PileError => first | rfl | decide +kernel)
    (case kt_InvalidPlace_InvalidNumber_InvalidEffect_TooShallow => first | rfl | decide +kernel)
    (case ki_InvalidPlace_PileError => first | rfl | decide +kernel)
    (case lI => k_is)
    (case cI => k_is)
    (case kI => k_is)
    (case tI => k_is)
    (case gV => k_is)
    (case vV => k_is)
