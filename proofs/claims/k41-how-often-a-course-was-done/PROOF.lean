import PyProof.Rows.All
import Wide.All
import OpenK.AllK
import Wide.FinOn
import HandS.ForMost
import HandS.Wide
import HandS.WideBits
import KE.BitLaws
import HandS.EndBits
import HandS.Conv
import HandS.SetFor
import HandS.Codes
import HandS.IsInst
import HandS.Dict
import PyProof.DictTruth
import PyProof.DictKeyH
import PyProof.P3In
import PyProof.Rows.SetFrom
import HandS.Zip
import HandS.SortKw
import KE.DatumOrd
import PyProof.StrLawsRepr
import HandS.More
import HandS.TryMany
import KE.KDictZip
import PyProof.EnumMake
import PyProof.EnumFor
import HandS.ExcIs
import KE.KExcIs
import HandS.Exc
import HandS.ExcOwn
import HandS.ExcInit
import HandS.ExcField
import HandS.WordsExc
import HandS.TryOnly
import HandS.NoneIn
import HandS.Style
import PyProof.ReprRoads
import PyProof.ReprLen
import PyProof.MaxThree
import KE.SortData
import HandS.Property
import HandS.MakeKw
import HandS.DictComp
import HandS.FStr
import HandS.Text
import HandS.Star
import HandS.NamedTupSort
import PyProof.InstEq
import PyProof.InstNe
import PyProof.CompUse
import PySem.Challenge.RW_pileshifts_k41_how_often_a_course_was_do
set_option Elab.async false
set_option linter.all false
set_option maxRecDepth 100000
set_option maxHeartbeats 4000000
namespace G
open PySem PySem.Spec PyProof.Rows L2
abbrev D := PyData
/-- no tuple -/
def NT : HO → Prop
  | .tup _ => False
  | .xd _ => False
  | _ => True
def dOf : Key → D
  | .inl i => .int i
  | .inr x => .str x
/-- what holds values: an instance with its fields, a dict with its keys -/
inductive Bx (H : Hp) (a : Addr) : D → List V → Prop
  | ins {C dx : Addr} {ns : List Str} {vs : List V} : H a = some (.ins C dx (ns.zip vs)) → ns.length = vs.length → Bx H a (.tuple (.int C :: ns.map PyData.str)) vs
  | dK {ks : List Key} {vs : List V} : H a = some (.dK (ks.zip vs)) → ks.length = vs.length → Bx H a (.list (ks.map dOf)) vs
theorem Bx.mono {H H' : Hp} {a : Addr} {t : D} {vs : List V} (h : Bx H a t vs) (k : ∀ o, H a = some o → H' a = some o) : Bx H' a t vs := by
  cases h with
  | ins e l => exact .ins (k _ e) l
  | dK e l => exact .dK (k _ e) l
theorem Bx.dom {H : Hp} {a : Addr} {t : D} {vs : List V} (h : Bx H a t vs) : ∃ o, H a = some o ∧ NT o := by
  cases h with
  | ins e _ => exact ⟨_, e, True.intro⟩
  | dK e _ => exact ⟨_, e, True.intro⟩
theorem zip_inj {α β : Type} {ns ms : List α} {vs us : List β} (h : ns.length = vs.length) (k : ms.length = us.length) (e : ns.zip vs = ms.zip us) : ns = ms ∧ vs = us := by
  have a := congrArg (List.map (·.1)) e
  have b := congrArg (List.map (·.2)) e
  rw [List.map_fst_zip (by omega), List.map_fst_zip (by omega)] at a
  rw [List.map_snd_zip (by omega), List.map_snd_zip (by omega)] at b
  exact ⟨a, b⟩
theorem Bx.uniq {H : Hp} {a : Addr} {t t' : D} {vs us : List V} (h : Bx H a t vs) (k : Bx H a t' us) : t = t' ∧ vs = us := by
  cases h with
  | ins e l =>
    cases k with
    | ins e' l' =>
      rw [e] at e'
      simp only [Option.some.injEq, HO.ins.injEq] at e'
      obtain ⟨rfl, _, z⟩ := e'
      obtain ⟨rfl, rfl⟩ := zip_inj l l' z
      exact ⟨rfl, rfl⟩
    | dK e' _ => rw [e] at e'; cases e'
  | dK e l =>
    cases k with
    | ins e' _ => rw [e] at e'; cases e'
    | dK e' l' =>
      rw [e] at e'
      simp only [Option.some.injEq, HO.dK.injEq] at e'
      obtain ⟨rfl, rfl⟩ := zip_inj l l' e'
      exact ⟨rfl, rfl⟩
mutual
inductive Rep (H : Hp) : List Addr → V → D → Prop
  | non : Rep H [] .non .none
  | bl (b : Bool) : Rep H [] (.bl b) (.bool b)
  | int (i : Int) : Rep H [] (.int i) (.int i)
  | str (x : Str) : Rep H [] (.str x) (.str x)
  | lst {a : Addr} {vs : List V} {S : List Addr} {ds : List D} : H a = some (.lst vs) → Reps H S vs ds → Rep H (a :: S) (.ref a) (.list ds)
  | tup {a : Addr} {vs : List V} {S : List Addr} {ds : List D} : H a = some (.tup vs) → Reps H S vs ds → Rep H S (.ref a) (.tuple ds)
  | box {a : Addr} {t : D} {vs : List V} {S : List Addr} {ds : List D} : Bx H a t vs → Reps H S vs ds → Rep H (a :: S) (.ref a) (.dict [(t, .list ds)])
inductive Reps (H : Hp) : List Addr → List V → List D → Prop
  | nil : Reps H [] [] []
  | cons {S T : List Addr} {v : V} {vs : List V} {d : D} {ds : List D} : Rep H S v d → Reps H T vs ds → Reps H (S ++ T) (v :: vs) (d :: ds)
end
section
variable {H H' : Hp}
mutual
theorem Rep.mono (ht : ∀ t vs, H t = some (.tup vs) → H' t = some (.tup vs)) : ∀ (d : D) (S : List Addr) (v : V), Rep H S v d → (∀ a ∈ S, ∀ o, H a = some o → H' a = some o) → Rep H' S v d
  | .none, _, _, h, _ => by cases h; exact .non
  | .bool b, _, _, h, _ => by cases h; exact .bl b
  | .int i, _, _, h, _ => by cases h; exact .int i
  | .str x, _, _, h, _ => by cases h; exact .str x
  | .list ds, _, _, h, k => by
    cases h with
    | lst h1 h2 => exact .lst (k _ List.mem_cons_self _ h1) (Reps.mono ht ds _ _ h2 fun a ha => k a (List.mem_cons_of_mem _ ha))
  | .tuple ds, _, _, h, k => by
    cases h with
    | tup h1 h2 => exact .tup (ht _ _ h1) (Reps.mono ht ds _ _ h2 k)
  | .dict _, _, _, h, k => by
    cases h with
    | box h1 h2 => exact .box (h1.mono (k _ List.mem_cons_self)) (Reps.mono ht _ _ _ h2 fun a ha => k a (List.mem_cons_of_mem _ ha))
theorem Reps.mono (ht : ∀ t vs, H t = some (.tup vs) → H' t = some (.tup vs)) : ∀ (ds : List D) (S : List Addr) (vs : List V), Reps H S vs ds → (∀ a ∈ S, ∀ o, H a = some o → H' a = some o) → Reps H' S vs ds
  | [], _, _, h, _ => by cases h; exact .nil
  | d :: ds, _, _, h, k => by
    cases h with
    | cons h1 h2 => exact .cons (Rep.mono ht d _ _ h1 fun a ha => k a (List.mem_append_left _ ha)) (Reps.mono ht ds _ _ h2 fun a ha => k a (List.mem_append_right _ ha))
end
mutual
/-- the lists of a tree stand in the heap -/
theorem Rep.domN : ∀ (d : D) (S : List Addr) (v : V), Rep H S v d → ∀ a ∈ S, ∃ o, H a = some o ∧ NT o
  | .none, _, _, h => by cases h; intro a z; cases z
  | .bool b, _, _, h => by cases h; intro a z; cases z
  | .int i, _, _, h => by cases h; intro a z; cases z
  | .str x, _, _, h => by cases h; intro a z; cases z
  | .list ds, _, _, h => by
    cases h with
    | lst h1 h2 =>
      intro a z
      rcases List.mem_cons.mp z with rfl | z
      · exact ⟨_, h1, True.intro⟩
      · exact Reps.domN ds _ _ h2 a z
  | .tuple ds, _, _, h => by
    cases h with
    | tup h1 h2 => exact Reps.domN ds _ _ h2
  | .dict _, _, _, h => by
    cases h with
    | box h1 h2 =>
      intro a z
      rcases List.mem_cons.mp z with rfl | z
      · exact h1.dom
      · exact Reps.domN _ _ _ h2 a z
theorem Reps.domN : ∀ (ds : List D) (S : List Addr) (vs : List V), Reps H S vs ds → ∀ a ∈ S, ∃ o, H a = some o ∧ NT o
  | [], _, _, h => by cases h; intro a z; cases z
  | d :: ds, _, _, h => by
    cases h with
    | cons h1 h2 =>
      intro a z
      rcases List.mem_append.mp z with z | z
      · exact Rep.domN d _ _ h1 a z
      · exact Reps.domN ds _ _ h2 a z
end
theorem Rep.dom (d : D) (S : List Addr) (v : V) (h : Rep H S v d) : ∀ a ∈ S, ∃ o, H a = some o := fun a m => let ⟨o, e, _⟩ := Rep.domN d S v h a m; ⟨o, e⟩
theorem Reps.dom (ds : List D) (S : List Addr) (vs : List V) (h : Reps H S vs ds) : ∀ a ∈ S, ∃ o, H a = some o := fun a m => let ⟨o, e, _⟩ := Reps.domN ds S vs h a m; ⟨o, e⟩
mutual
/-- read by the layer's own words -/
theorem Rep.dp (K : PySem.W.Frag) : ∀ (d : D) (S : List Addr) (v : V), Rep H S v d → d.hasDict = false → Dp K H v d
  | .none, _, _, h, _ => by cases h; exact .non
  | .bool b, _, _, h, _ => by cases h; exact .bl b
  | .int i, _, _, h, _ => by cases h; exact .int i
  | .str x, _, _, h, _ => by cases h; exact .str x
  | .list ds, _, _, h, q => by
    cases h with
    | lst h1 h2 => exact .lst (SqL.of h1) (Reps.dp K ds _ _ h2 (by simpa [PyData.hasDict] using q))
  | .tuple ds, _, _, h, q => by
    cases h with
    | tup h1 h2 => exact .tup (SqT.of h1) (Reps.dp K ds _ _ h2 (by simpa [PyData.hasDict] using q))
  | .dict _, _, _, h, q => by simp [PyData.hasDict] at q
theorem Reps.dp (K : PySem.W.Frag) : ∀ (ds : List D) (S : List Addr) (vs : List V), Reps H S vs ds → PyData.hasDictAll ds = false → DpAll K H vs ds
  | [], _, _, h, _ => by cases h; exact .nil
  | d :: ds, _, _, h, q => by
    have q' : d.hasDict = false ∧ PyData.hasDictAll ds = false := by simpa [PyData.hasDictAll] using q
    cases h with
    | cons h1 h2 => exact .cons (Rep.dp K d _ _ h1 q'.1) (Reps.dp K ds _ _ h2 q'.2)
end
theorem Reps.length : ∀ {ds : List D} {S : List Addr} {vs : List V}, Reps H S vs ds → vs.length = ds.length
  | [], _, _, h => by cases h; rfl
  | d :: ds, _, _, h => by
    cases h with
    | cons h1 h2 => simp [Reps.length h2]
theorem Reps.append : ∀ {ds es : List D} {S T : List Addr} {vs us : List V}, Reps H S vs ds → Reps H T us es → Reps H (S ++ T) (vs ++ us) (ds ++ es)
  | [], _, _, _, _, _, h, k => by cases h; exact k
  | d :: ds, _, _, _, _, _, h, k => by
    cases h with
    | cons h1 h2 =>
      have q := Reps.cons h1 (Reps.append h2 k)
      rw [← List.append_assoc] at q
      exact q
theorem Reps.split : ∀ {ds es : List D} {S : List Addr} {us : List V}, Reps H S us (ds ++ es) → ∃ S1 S2 u1 u2, S = S1 ++ S2 ∧ us = u1 ++ u2 ∧ Reps H S1 u1 ds ∧ Reps H S2 u2 es
  | [], _, S, us, h => ⟨[], S, [], us, rfl, rfl, .nil, h⟩
  | d :: ds, _, _, _, h => by
    cases h with
    | cons h1 h2 =>
      obtain ⟨S1, S2, u1, u2, rfl, rfl, a, b⟩ := Reps.split h2
      exact ⟨_, S2, _, u2, (List.append_assoc ..).symm, rfl, .cons h1 a, b⟩
theorem Reps.intsR : ∀ (ns : List Int), Reps H [] (ns.map V.int) (ns.map PyData.int)
  | [] => .nil
  | n :: ns => .cons (S := []) (.int n) (Reps.intsR ns)
theorem Reps.intsInv : ∀ {ns : List Int} {S : List Addr} {vs : List V}, Reps H S vs (ns.map PyData.int) → S = [] ∧ vs = ns.map V.int
  | [], _, _, h => by cases h; exact ⟨rfl, rfl⟩
  | n :: ns, _, _, h => by
    cases h with
    | cons h1 h2 =>
      cases h1
      obtain ⟨rfl, rfl⟩ := Reps.intsInv h2
      exact ⟨rfl, rfl⟩
/-- one item -/
theorem Reps.get : ∀ {ds : List D} {S : List Addr} {vs : List V} {i : Nat} {d : D}, Reps H S vs ds → ds[i]? = some d → ∃ v T, vs[i]? = some v ∧ Rep H T v d ∧ ∀ a ∈ T, a ∈ S
  | [], _, _, _, _, _, e => by simp at e
  | d :: ds, _, _, 0, _, h, e => by
    cases h with
    | cons h1 h2 =>
      simp at e
      subst e
      exact ⟨_, _, rfl, h1, fun a z => List.mem_append_left _ z⟩
  | d :: ds, _, _, i + 1, _, h, e => by
    cases h with
    | cons h1 h2 =>
      obtain ⟨v, T, e1, r, s⟩ := Reps.get (i := i) h2 (by simpa using e)
      exact ⟨v, T, by simpa using e1, r, fun a z => List.mem_append_right _ (s a z)⟩
end
/-- a list of ints as data -/
abbrev dI (ns : List Int) : D := .list (ns.map PyData.int)
/-- a new tree: its lists are all new, each once -/
def New (H H' : Hp) (v : V) (d : D) : Prop := ∃ S, Rep H' S v d ∧ S.Nodup ∧ ∀ a ∈ S, H a = none
/-- three whole numbers, the last one (how many draws so far) at most b -/
def PuAt (H : Hp) (p : Addr) (b : Int) : Prop := ∃ x y z : Int, H p = some (.lst [.int x, .int y, .int z]) ∧ 0 ≤ y ∧ y < 10 ^ 25 ∧ 0 ≤ z ∧ z ≤ b
theorem PuAt.le {H : Hp} {p : Addr} {b c : Int} (h : PuAt H p b) (k : b ≤ c) : PuAt H p c := by
  obtain ⟨x, y, z, h1, h2, h3, h4, h5⟩ := h
  exact ⟨x, y, z, h1, h2, h3, h4, by omega⟩
/-- H0: the heap at the entry; M: its one list that may be changed; pu: the purse and a bound on its draws; Fz: trees that stay; Ow: trees whose lists each stand in one place alone, and may change; Tp: tuples -/
def St (H0 : Hp) (M : Option Addr) (pu : Option (Addr × Int)) (Fz Ow : List (V × D)) (Tp : List (Addr × List V)) (H : Hp) : Prop :=
  ∃ (Z : Addr → Prop) (S : List Addr),
    (∀ a o, H0 a = some o → some a ≠ M → Z a ∧ H a = some o) ∧
    (∀ x ∈ Fz, ∃ T, Rep H T x.1 x.2 ∧ ∀ a ∈ T, Z a) ∧
    Reps H S (Ow.map (·.1)) (Ow.map (·.2)) ∧ S.Nodup ∧ (∀ a ∈ S, ¬ Z a ∧ some a ≠ M) ∧
    (∀ x ∈ Tp, H x.1 = some (.tup x.2)) ∧
    (∀ p b, pu = some (p, b) → PuAt H p b ∧ ¬ Z p ∧ p ∉ S) ∧ (∀ a, Z a ∨ M = some a → ∃ o, H a = some o)
/-- pick one out of a list -/
inductive Pick {α : Type} (x : α) : List α → List α → Prop
  | hd {l : List α} : Pick x (x :: l) l
  | tl {y : α} {l l' : List α} : Pick x l l' → Pick x (y :: l) (y :: l')
/-- readable: v is the tree d -/
inductive Rdb (Fz Ow : List (V × D)) (Tp : List (Addr × List V)) : V → D → Prop
  | non : Rdb Fz Ow Tp .non .none
  | bl (b : Bool) : Rdb Fz Ow Tp (.bl b) (.bool b)
  | int (i : Int) : Rdb Fz Ow Tp (.int i) (.int i)
  | str (x : Str) : Rdb Fz Ow Tp (.str x) (.str x)
  | fz {v : V} {d : D} : (v, d) ∈ Fz → Rdb Fz Ow Tp v d
  | ow {v : V} {d : D} : (v, d) ∈ Ow → Rdb Fz Ow Tp v d
  | tp0 {t : Addr} : (t, []) ∈ Tp → Rdb Fz Ow Tp (.ref t) (.tuple [])
  | tp1 {t : Addr} {v1 : V} {d1 : D} : (t, [v1]) ∈ Tp → Rdb Fz Ow Tp v1 d1 → Rdb Fz Ow Tp (.ref t) (.tuple [d1])
  | tp2 {t : Addr} {v1 v2 : V} {d1 d2 : D} : (t, [v1, v2]) ∈ Tp → Rdb Fz Ow Tp v1 d1 → Rdb Fz Ow Tp v2 d2 → Rdb Fz Ow Tp (.ref t) (.tuple [d1, d2])
  | tp3 {t : Addr} {v1 v2 v3 : V} {d1 d2 d3 : D} : (t, [v1, v2, v3]) ∈ Tp → Rdb Fz Ow Tp v1 d1 → Rdb Fz Ow Tp v2 d2 → Rdb Fz Ow Tp v3 d3 → Rdb Fz Ow Tp (.ref t) (.tuple [d1, d2, d3])
inductive Rdbs (Fz Ow : List (V × D)) (Tp : List (Addr × List V)) : List V → List D → Prop
  | nil : Rdbs Fz Ow Tp [] []
  | cons {v : V} {vs : List V} {d : D} {ds : List D} : Rdb Fz Ow Tp v d → Rdbs Fz Ow Tp vs ds → Rdbs Fz Ow Tp (v :: vs) (d :: ds)
section
variable {H0 H H' : Hp} {M : Option Addr} {pu : Option (Addr × Int)} {Fz Ow Ow' : List (V × D)} {Tp : List (Addr × List V)} {v : V} {d : D}
theorem reps_of_mem {Ow : List (V × D)} {S : List Addr} (h : Reps H S (Ow.map (·.1)) (Ow.map (·.2))) : ∀ {x : V × D}, x ∈ Ow → ∃ T, Rep H T x.1 x.2 ∧ ∀ a ∈ T, a ∈ S := by
  induction Ow generalizing S with
  | nil => intro x z; cases z
  | cons y Ow ih =>
    intro x z
    cases h with
    | cons h1 h2 =>
      rcases List.mem_cons.mp z with rfl | z
      · exact ⟨_, h1, fun a m => List.mem_append_left _ m⟩
      · obtain ⟨T, r, s⟩ := ih h2 z
        exact ⟨T, r, fun a m => List.mem_append_right _ (s a m)⟩
/-- what is readable is read, away from the purse -/
theorem St.rd (h : St H0 M pu Fz Ow Tp H) (r : Rdb Fz Ow Tp v d) : ∃ T, Rep H T v d ∧ ∀ p b, pu = some (p, b) → p ∉ T := by
  obtain ⟨Z, S, h1, h2, h3, h4, h5, h6, h7, h8⟩ := h
  induction r with
  | non => exact ⟨_, .non, fun _ _ _ z => nomatch z⟩
  | bl b => exact ⟨_, .bl b, fun _ _ _ z => nomatch z⟩
  | int i => exact ⟨_, .int i, fun _ _ _ z => nomatch z⟩
  | str x => exact ⟨_, .str x, fun _ _ _ z => nomatch z⟩
  | fz m =>
    obtain ⟨T, r, z⟩ := h2 _ m
    exact ⟨T, r, fun p b e hp => (h7 p b e).2.1 (z p hp)⟩
  | ow m =>
    obtain ⟨T, r, z⟩ := reps_of_mem h3 m
    exact ⟨T, r, fun p b e hp => (h7 p b e).2.2 (z p hp)⟩
  | tp0 m => exact ⟨_, .tup (h6 _ m) .nil, fun _ _ _ z => nomatch z⟩
  | tp1 m _ i1 =>
    obtain ⟨T1, r1, z1⟩ := i1
    refine ⟨_, .tup (h6 _ m) (.cons r1 .nil), fun p b e hp => ?_⟩
    simp at hp
    exact z1 p b e hp
  | tp2 m _ _ i1 i2 =>
    obtain ⟨T1, r1, z1⟩ := i1
    obtain ⟨T2, r2, z2⟩ := i2
    refine ⟨_, .tup (h6 _ m) (.cons r1 (.cons r2 .nil)), fun p b e hp => ?_⟩
    simp at hp
    rcases hp with hp | hp
    · exact z1 p b e hp
    · exact z2 p b e hp
  | tp3 m _ _ _ i1 i2 i3 =>
    obtain ⟨T1, r1, z1⟩ := i1
    obtain ⟨T2, r2, z2⟩ := i2
    obtain ⟨T3, r3, z3⟩ := i3
    refine ⟨_, .tup (h6 _ m) (.cons r1 (.cons r2 (.cons r3 .nil))), fun p b e hp => ?_⟩
    simp at hp
    rcases hp with hp | hp | hp
    · exact z1 p b e hp
    · exact z2 p b e hp
    · exact z3 p b e hp
theorem St.rds (h : St H0 M pu Fz Ow Tp H) {vs : List V} {ds : List D} (r : Rdbs Fz Ow Tp vs ds) : ∃ T, Reps H T vs ds ∧ ∀ p b, pu = some (p, b) → p ∉ T := by
  induction r with
  | nil => exact ⟨_, .nil, fun _ _ _ z => nomatch z⟩
  | cons r _ ih =>
    obtain ⟨T1, r1, z1⟩ := h.rd r
    obtain ⟨T2, r2, z2⟩ := ih
    exact ⟨_, .cons r1 r2, fun p b e hp => (List.mem_append.mp hp).elim (z1 p b e) (z2 p b e)⟩
theorem Reps.pick {x : V × D} (k : Pick x Ow Ow') : ∀ {S : List Addr}, Reps H S (Ow.map (·.1)) (Ow.map (·.2)) → ∃ S1 S2, Rep H S1 x.1 x.2 ∧ Reps H S2 (Ow'.map (·.1)) (Ow'.map (·.2)) ∧ S.Perm (S1 ++ S2) := by
  induction k with
  | hd =>
    intro S h
    cases h with
    | cons h1 h2 => exact ⟨_, _, h1, h2, .refl _⟩
  | @tl y l l' k ih =>
    intro S h
    cases h with
    | @cons Sy T _ _ _ _ h1 h2 =>
      obtain ⟨S1, S2, r1, r2, pm⟩ := ih h2
      refine ⟨S1, Sy ++ S2, r1, .cons h1 r2, ?_⟩
      refine (List.Perm.append_left Sy pm).trans ?_
      rw [← List.append_assoc, ← List.append_assoc]
      exact List.Perm.append_right S2 List.perm_append_comm
/-- an owned tree to the front -/
theorem St.front {x : V × D} (h : St H0 M pu Fz Ow Tp H) (k : Pick x Ow Ow') : St H0 M pu Fz (x :: Ow') Tp H := by
  obtain ⟨Z, S, h1, h2, h3, h4, h5, h6, h7, h8⟩ := h
  obtain ⟨S1, S2, r1, r2, pm⟩ := Reps.pick k h3
  exact ⟨Z, S1 ++ S2, h1, h2, .cons r1 r2, pm.nodup_iff.mp h4, fun a m => h5 a (pm.mem_iff.mpr m), h6, fun p b e => ⟨(h7 p b e).1, (h7 p b e).2.1, fun m => (h7 p b e).2.2 (pm.mem_iff.mpr m)⟩, h8⟩
/-- forget an owned tree -/
theorem St.drop {x : V × D} (h : St H0 M pu Fz (x :: Ow) Tp H) : St H0 M pu Fz Ow Tp H := by
  obtain ⟨Z, S, h1, h2, h3, h4, h5, h6, h7, h8⟩ := h
  cases h3 with
  | cons r1 r2 => exact ⟨Z, _, h1, h2, r2, (List.nodup_append.mp h4).2.1, fun a m => h5 a (List.mem_append_right _ m), h6, fun p b e => ⟨(h7 p b e).1, (h7 p b e).2.1, fun m => (h7 p b e).2.2 (List.mem_append_right _ m)⟩, h8⟩
theorem St.fzs {Fz' : List (V × D)} (h : St H0 M pu Fz Ow Tp H) (k : ∀ x ∈ Fz', x ∈ Fz) : St H0 M pu Fz' Ow Tp H := by
  obtain ⟨Z, S, h1, h2, h3, h4, h5, h6, h7, h8⟩ := h
  exact ⟨Z, S, h1, fun x m => h2 x (k x m), h3, h4, h5, h6, h7, h8⟩
/-- an owned tree is from now on left as it is -/
theorem St.freeze (h : St H0 M pu Fz ((v, d) :: Ow) Tp H) : St H0 M pu ((v, d) :: Fz) Ow Tp H := by
  obtain ⟨Z, S, h1, h2, h3, h4, h5, h6, h7, h8⟩ := h
  cases h3 with
  | @cons S1 S2 _ _ _ _ r1 r2 =>
    have nd := List.nodup_append.mp h4
    refine ⟨fun a => Z a ∨ a ∈ S1, S2, fun a o e m => ⟨.inl (h1 a o e m).1, (h1 a o e m).2⟩, fun x m => ?_, r2, nd.2.1, fun a m => ⟨?_, (h5 a (List.mem_append_right _ m)).2⟩, h6, fun p b e => ⟨(h7 p b e).1, ?_, fun m => (h7 p b e).2.2 (List.mem_append_right _ m)⟩, fun a z => ?_⟩
    · rcases List.mem_cons.mp m with rfl | m
      · exact ⟨S1, r1, fun a z => .inr z⟩
      · obtain ⟨T, r, z⟩ := h2 x m
        exact ⟨T, r, fun a q => .inl (z a q)⟩
    · rintro (z | z)
      · exact (h5 a (List.mem_append_right _ m)).1 z
      · exact nd.2.2 a z a m rfl
    · rintro (z | z)
      · exact (h7 p b e).2.1 z
      · exact (h7 p b e).2.2 (List.mem_append_left _ z)
    · rcases z with (z | z) | z
      · exact h8 a (.inl z)
      · obtain ⟨xs, q⟩ := Rep.dom d S1 v r1 a z
        exact ⟨_, q⟩
      · exact h8 a (.inr z)
theorem St.step (h : St H0 M pu Fz Ow Tp H) (k : ∀ a o, H a = some o → (∀ p b, pu = some (p, b) → a ≠ p) → H' a = some o) (kp : ∀ p b, pu = some (p, b) → PuAt H' p b) : St H0 M pu Fz Ow Tp H' := by
  obtain ⟨Z, S, h1, h2, h3, h4, h5, h6, h7, h8⟩ := h
  have nt : ∀ t vs, H t = some (.tup vs) → H' t = some (.tup vs) := fun t vs e => k t _ e fun p b q z => by
    subst z
    obtain ⟨x, y, z, e2, _⟩ := (h7 t b q).1
    rw [e] at e2
    cases e2
  refine ⟨Z, S, fun a o e m => ⟨(h1 a o e m).1, k a o (h1 a o e m).2 fun p b q z => (h7 p b q).2.1 (z ▸ (h1 a o e m).1)⟩, fun x m => ?_, ?_, h4, h5, fun x m => nt _ _ (h6 x m), fun p b q => ⟨kp p b q, (h7 p b q).2⟩, fun a z => ?_⟩
  · obtain ⟨T, r, z⟩ := h2 x m
    exact ⟨T, Rep.mono nt _ _ _ r fun a q o e => k a o e fun p b e' y => (h7 p b e').2.1 (y ▸ z a q), z⟩
  · exact Reps.mono nt _ _ _ h3 fun a q o e => k a o e fun p b e' y => (h7 p b e').2.2 (y ▸ q)
  · obtain ⟨o, e⟩ := h8 a z
    cases hp : pu with
    | none => exact ⟨o, k a o e fun p b e' y => by rw [hp] at e'; cases e'⟩
    | some q =>
      by_cases hq : a = q.1
      · subst hq
        obtain ⟨x, y, zz, e2, _⟩ := kp q.1 q.2 (by rw [hp])
        exact ⟨_, e2⟩
      · exact ⟨o, k a o e fun p b e' y => hq (by rw [hp] at e'; cases e'; exact y)⟩
theorem PuAt.mono {p : Addr} {b : Int} (h : PuAt H p b) (k : ∀ o, H p = some o → H' p = some o) : PuAt H' p b := by
  obtain ⟨x, y, z, e, r⟩ := h
  exact ⟨x, y, z, k _ e, r⟩
/-- all is kept -/
theorem St.same (h : St H0 M pu Fz Ow Tp H) (k : Same H H') : St H0 M pu Fz Ow Tp H' := by
  have h7 := h
  obtain ⟨Z, S, _, _, _, _, _, _, h7, _⟩ := h7
  exact h.step (fun a o e _ => k a o e) fun p b e => (h7 p b e).1.mono (k p)
theorem same_upd {p : Addr} {o : HO} (h : H p = none) : Same H (upd H p o) := fun b x e => by
  rw [upd_ne (ne_of_none e h)]
  exact e
/-- a new tree comes -/
theorem St.new (h : St H0 M pu Fz Ow Tp H) (k : Same H H') (n : New H H' v d) : St H0 M pu Fz ((v, d) :: Ow) Tp H' := by
  obtain ⟨Z, S, h1, h2, h3, h4, h5, h6, h7, h8⟩ := h
  obtain ⟨S1, r, nd, fr⟩ := n
  have nt : ∀ t vs, H t = some (.tup vs) → H' t = some (.tup vs) := fun t vs e => k t _ e
  have out : ∀ a, Z a ∨ M = some a → a ∉ S1 := fun a z m => by
    obtain ⟨o, e⟩ := h8 a z
    rw [fr a m] at e
    cases e
  refine ⟨Z, S1 ++ S, fun a o e m => ⟨(h1 a o e m).1, k a o (h1 a o e m).2⟩, fun x m => ?_, .cons r (Reps.mono nt _ _ _ h3 fun a _ o e => k a o e), ?_, fun a m => ?_, fun x m => nt _ _ (h6 x m), fun p b e => ⟨(h7 p b e).1.mono (k p), (h7 p b e).2.1, fun m => ?_⟩, fun a z => ?_⟩
  · obtain ⟨T, r, z⟩ := h2 x m
    exact ⟨T, Rep.mono nt _ _ _ r fun a _ o e => k a o e, z⟩
  · refine List.nodup_append.mpr ⟨nd, h4, fun a m b m' e => ?_⟩
    subst e
    obtain ⟨xs, q⟩ := Reps.dom _ _ _ h3 a m'
    rw [fr a m] at q
    cases q
  · rcases List.mem_append.mp m with m | m
    · exact ⟨fun z => out a (.inl z) m, fun z => out a (.inr z.symm) m⟩
    · exact h5 a m
  · rcases List.mem_append.mp m with m | m
    · obtain ⟨x, y, z, e2, _⟩ := (h7 p b e).1
      rw [fr p m] at e2
      cases e2
    · exact (h7 p b e).2.2 m
  · obtain ⟨o, e⟩ := h8 a z
    exact ⟨o, k a o e⟩
/-- a tree that is an int, a truth value, None, a text -/
theorem St.int {i : Int} (h : St H0 M pu Fz ((v, .int i) :: Ow) Tp H) : v = .int i ∧ St H0 M pu Fz Ow Tp H := by
  refine ⟨?_, h.drop⟩
  obtain ⟨Z, S, h1, h2, h3, h4, h5, h6, h7, h8⟩ := h
  cases h3 with
  | cons r _ => cases r; rfl
theorem St.bool {b : Bool} (h : St H0 M pu Fz ((v, .bool b) :: Ow) Tp H) : v = .bl b ∧ St H0 M pu Fz Ow Tp H := by
  refine ⟨?_, h.drop⟩
  obtain ⟨Z, S, h1, h2, h3, h4, h5, h6, h7, h8⟩ := h
  cases h3 with
  | cons r _ => cases r; rfl
theorem St.none (h : St H0 M pu Fz ((v, .none) :: Ow) Tp H) : v = .non ∧ St H0 M pu Fz Ow Tp H := by
  refine ⟨?_, h.drop⟩
  obtain ⟨Z, S, h1, h2, h3, h4, h5, h6, h7, h8⟩ := h
  cases h3 with
  | cons r _ => cases r; rfl
theorem St.str {x : Str} (h : St H0 M pu Fz ((v, .str x) :: Ow) Tp H) : v = .str x ∧ St H0 M pu Fz Ow Tp H := by
  refine ⟨?_, h.drop⟩
  obtain ⟨Z, S, h1, h2, h3, h4, h5, h6, h7, h8⟩ := h
  cases h3 with
  | cons r _ => cases r; rfl
/-- an owned tuple is opened -/
theorem St.tup {ds : List D} (h : St H0 M pu Fz ((v, .tuple ds) :: Ow) Tp H) : ∃ t vs, v = .ref t ∧ vs.length = ds.length ∧ St H0 M pu Fz (vs.zip ds ++ Ow) ((t, vs) :: Tp) H := by
  obtain ⟨Z, S, h1, h2, h3, h4, h5, h6, h7, h8⟩ := h
  cases h3 with
  | cons r r' =>
    cases r with
    | @tup a vs S1 _ e rs =>
      have el := rs.length
      refine ⟨a, vs, rfl, el, Z, _, h1, h2, ?_, h4, h5, fun x m => ?_, h7, h8⟩
      · rw [List.map_append, List.map_append, List.map_fst_zip (by omega), List.map_snd_zip (by omega)]
        exact rs.append r'
      · rcases List.mem_cons.mp m with rfl | m
        · exact e
        · exact h6 x m
/-- a frozen tuple is opened -/
theorem St.ftup {ds : List D} (h : St H0 M pu Fz Ow Tp H) (m : (v, .tuple ds) ∈ Fz) : ∃ t vs, v = .ref t ∧ vs.length = ds.length ∧ St H0 M pu (vs.zip ds ++ Fz) Ow ((t, vs) :: Tp) H := by
  obtain ⟨Z, S, h1, h2, h3, h4, h5, h6, h7, h8⟩ := h
  obtain ⟨T, r, z⟩ := h2 _ m
  cases r with
  | @tup a vs S1 _ e rs =>
    have el := rs.length
    refine ⟨a, vs, rfl, el, Z, S, h1, fun x m => ?_, h3, h4, h5, fun x m => ?_, h7, h8⟩
    · rcases List.mem_append.mp m with m | m
      · have rs' : Reps H T ((vs.zip ds).map (·.1)) ((vs.zip ds).map (·.2)) := by
          rw [List.map_fst_zip (by omega), List.map_snd_zip (by omega)]
          exact rs
        obtain ⟨T', r, z'⟩ := reps_of_mem rs' m
        exact ⟨T', r, fun a q => z a (z' a q)⟩
      · exact h2 x m
    · rcases List.mem_cons.mp m with rfl | m
      · exact e
      · exact h6 x m
theorem St.ftup2 {d1 d2 : D} (h : St H0 M pu Fz Ow Tp H) (m : (v, .tuple [d1, d2]) ∈ Fz) : ∃ t v1 v2, v = .ref t ∧ St H0 M pu ((v1, d1) :: (v2, d2) :: Fz) Ow ((t, [v1, v2]) :: Tp) H := by
  obtain ⟨t, vs, rfl, e, h'⟩ := h.ftup m
  match vs, e, h' with
  | [v1, v2], _, h' => exact ⟨t, v1, v2, rfl, h'⟩
theorem St.fint {i : Int} (h : St H0 M pu Fz Ow Tp H) (m : (v, .int i) ∈ Fz) : v = .int i := by
  obtain ⟨Z, S, h1, h2, h3, h4, h5, h6, h7, h8⟩ := h
  obtain ⟨T, r, z⟩ := h2 _ m
  cases r
  rfl
/-- the heap at a tuple that is known -/
theorem St.tp {t : Addr} {vs : List V} (h : St H0 M pu Fz Ow Tp H) (m : (t, vs) ∈ Tp) : H t = some (.tup vs) := by
  obtain ⟨Z, S, h1, h2, h3, h4, h5, h6, h7, h8⟩ := h
  exact h6 _ m
/-- the heap at a readable list -/
theorem St.rlst {ds : List D} (h : St H0 M pu Fz Ow Tp H) (r : Rdb Fz Ow Tp v (.list ds)) : ∃ a vs T, v = .ref a ∧ H a = some (.lst vs) ∧ Reps H T vs ds := by
  obtain ⟨T, r, _⟩ := h.rd r
  cases r with
  | lst e rs => exact ⟨_, _, _, rfl, e, rs⟩
theorem St.rints {ns : List Int} (h : St H0 M pu Fz Ow Tp H) (r : Rdb Fz Ow Tp v (dI ns)) : ∃ a, v = .ref a ∧ H a = some (.lst (ns.map V.int)) := by
  obtain ⟨a, vs, T, rfl, e, rs⟩ := h.rlst r
  obtain ⟨_, rfl⟩ := Reps.intsInv rs
  exact ⟨a, rfl, e⟩
/-- a value taken out of what is owned, as a whole tree -/
inductive Take (Tp : List (Addr × List V)) : List (V × D) → V → D → List (V × D) → Prop
  | non {Ow : List (V × D)} : Take Tp Ow .non .none Ow
  | bl {Ow : List (V × D)} (b : Bool) : Take Tp Ow (.bl b) (.bool b) Ow
  | int {Ow : List (V × D)} (i : Int) : Take Tp Ow (.int i) (.int i) Ow
  | str {Ow : List (V × D)} (x : Str) : Take Tp Ow (.str x) (.str x) Ow
  | own {Ow Ow' : List (V × D)} {v : V} {d : D} : Pick (v, d) Ow Ow' → Take Tp Ow v d Ow'
  | tp0 {Ow : List (V × D)} {t : Addr} : (t, []) ∈ Tp → Take Tp Ow (.ref t) (.tuple []) Ow
  | tp1 {Ow Ow1 : List (V × D)} {t : Addr} {v1 : V} {d1 : D} : (t, [v1]) ∈ Tp → Take Tp Ow v1 d1 Ow1 → Take Tp Ow (.ref t) (.tuple [d1]) Ow1
  | tp2 {Ow Ow1 Ow2 : List (V × D)} {t : Addr} {v1 v2 : V} {d1 d2 : D} : (t, [v1, v2]) ∈ Tp → Take Tp Ow v1 d1 Ow1 → Take Tp Ow1 v2 d2 Ow2 → Take Tp Ow (.ref t) (.tuple [d1, d2]) Ow2
  | tp3 {Ow Ow1 Ow2 Ow3 : List (V × D)} {t : Addr} {v1 v2 v3 : V} {d1 d2 d3 : D} : (t, [v1, v2, v3]) ∈ Tp → Take Tp Ow v1 d1 Ow1 → Take Tp Ow1 v2 d2 Ow2 → Take Tp Ow2 v3 d3 Ow3 → Take Tp Ow (.ref t) (.tuple [d1, d2, d3]) Ow3
inductive Takes (Tp : List (Addr × List V)) : List (V × D) → List V → List D → List (V × D) → Prop
  | nil {Ow : List (V × D)} : Takes Tp Ow [] [] Ow
  | cons {Ow Ow1 Ow2 : List (V × D)} {v : V} {vs : List V} {d : D} {ds : List D} : Take Tp Ow v d Ow1 → Takes Tp Ow1 vs ds Ow2 → Takes Tp Ow (v :: vs) (d :: ds) Ow2
theorem Take.reps (hT : ∀ x ∈ Tp, H x.1 = some (.tup x.2)) (k : Take Tp Ow v d Ow') : ∀ {S : List Addr}, Reps H S (Ow.map (·.1)) (Ow.map (·.2)) → ∃ S1 S2, Rep H S1 v d ∧ Reps H S2 (Ow'.map (·.1)) (Ow'.map (·.2)) ∧ S.Perm (S1 ++ S2) := by
  induction k with
  | non => exact fun h => ⟨_, _, .non, h, .refl _⟩
  | bl b => exact fun h => ⟨_, _, .bl b, h, .refl _⟩
  | int i => exact fun h => ⟨_, _, .int i, h, .refl _⟩
  | str x => exact fun h => ⟨_, _, .str x, h, .refl _⟩
  | own p => exact fun h => Reps.pick p h
  | tp0 m => exact fun h => ⟨_, _, .tup (hT _ m) .nil, h, .refl _⟩
  | tp1 m _ i1 =>
    intro S h
    obtain ⟨S1, S2, r1, r2, p1⟩ := i1 h
    refine ⟨_, _, .tup (hT _ m) (.cons r1 .nil), r2, ?_⟩
    rw [List.append_nil]
    exact p1
  | tp2 m _ _ i1 i2 =>
    intro S h
    obtain ⟨S1, S2, r1, r2, p1⟩ := i1 h
    obtain ⟨S3, S4, r3, r4, p2⟩ := i2 r2
    refine ⟨_, _, .tup (hT _ m) (.cons r1 (.cons r3 .nil)), r4, ?_⟩
    rw [List.append_nil, List.append_assoc]
    exact p1.trans (List.Perm.append_left _ p2)
  | tp3 m _ _ _ i1 i2 i3 =>
    intro S h
    obtain ⟨S1, S2, r1, r2, p1⟩ := i1 h
    obtain ⟨S3, S4, r3, r4, p2⟩ := i2 r2
    obtain ⟨S5, S6, r5, r6, p3⟩ := i3 r4
    refine ⟨_, _, .tup (hT _ m) (.cons r1 (.cons r3 (.cons r5 .nil))), r6, ?_⟩
    rw [List.append_nil, List.append_assoc, List.append_assoc]
    exact p1.trans (List.Perm.append_left _ (p2.trans (List.Perm.append_left _ p3)))
theorem Takes.reps {vs : List V} {ds : List D} (hT : ∀ x ∈ Tp, H x.1 = some (.tup x.2)) (k : Takes Tp Ow vs ds Ow') : ∀ {S : List Addr}, Reps H S (Ow.map (·.1)) (Ow.map (·.2)) → ∃ S1 S2, Reps H S1 vs ds ∧ Reps H S2 (Ow'.map (·.1)) (Ow'.map (·.2)) ∧ S.Perm (S1 ++ S2) := by
  induction k with
  | nil => exact fun h => ⟨_, _, .nil, h, .refl _⟩
  | cons k1 _ ih =>
    intro S h
    obtain ⟨S1, S2, r1, r2, p1⟩ := k1.reps hT h
    obtain ⟨S3, S4, r3, r4, p2⟩ := ih r2
    refine ⟨_, _, .cons r1 r3, r4, ?_⟩
    rw [List.append_assoc]
    exact p1.trans (List.Perm.append_left _ p2)
theorem St.take (h : St H0 M pu Fz Ow Tp H) (k : Take Tp Ow v d Ow') : St H0 M pu Fz ((v, d) :: Ow') Tp H := by
  obtain ⟨Z, S, h1, h2, h3, h4, h5, h6, h7, h8⟩ := h
  obtain ⟨S1, S2, r1, r2, pm⟩ := k.reps h6 h3
  exact ⟨Z, S1 ++ S2, h1, h2, .cons r1 r2, pm.nodup_iff.mp h4, fun a m => h5 a (pm.mem_iff.mpr m), h6, fun p b e => ⟨(h7 p b e).1, (h7 p b e).2.1, fun m => (h7 p b e).2.2 (pm.mem_iff.mpr m)⟩, h8⟩
/-- a new tuple -/
theorem St.mkTup {p : Addr} {vs : List V} (h : St H0 M pu Fz Ow Tp H) (hp : H p = Option.none) : St H0 M pu Fz Ow ((p, vs) :: Tp) (upd H p (.tup vs)) := by
  have k := same_upd (o := .tup vs) hp
  obtain ⟨Z, S, h1, h2, h3, h4, h5, h6, h7, h8⟩ := h.same k
  refine ⟨Z, S, h1, h2, h3, h4, h5, fun x m => ?_, h7, h8⟩
  rcases List.mem_cons.mp m with rfl | m
  · exact upd_same
  · exact h6 x m
/-- a new list of things that are taken -/
theorem St.mkLst {p : Addr} {vs : List V} {ds : List D} (h : St H0 M pu Fz Ow Tp H) (hp : H p = Option.none) (t : Takes Tp Ow vs ds Ow') : St H0 M pu Fz ((.ref p, .list ds) :: Ow') Tp (upd H p (.lst vs)) := by
  obtain ⟨Z0, S0, g1, g2, g3, g4, g5, g6, g7, g8⟩ := h
  have pS0 : p ∉ S0 := fun m => by
    obtain ⟨xs, q⟩ := Reps.dom _ _ _ g3 p m
    rw [hp] at q
    cases q
  have h : St H0 M pu Fz Ow Tp H := ⟨Z0, S0, g1, g2, g3, g4, g5, g6, g7, g8⟩
  have k := same_upd (o := .lst vs) hp
  have nz : ∀ a, Z0 a ∨ M = some a → a ≠ p := fun a z e => by
    obtain ⟨o, q⟩ := g8 a z
    rw [e, hp] at q
    cases q
  obtain ⟨S1, S2, r1, r2, pm⟩ := t.reps g6 g3
  have k1 : ∀ a ∈ S1, ∀ o, H a = some o → upd H p (.lst vs) a = some o := fun a m o e => k a o e
  refine ⟨Z0, (p :: S1) ++ S2, fun a o e m => ⟨(g1 a o e m).1, k a o (g1 a o e m).2⟩, fun x m => ?_, .cons (.lst upd_same (Reps.mono (fun t xs e => k t _ e) _ _ _ r1 k1)) (Reps.mono (fun t xs e => k t _ e) _ _ _ r2 fun a m o e => k a o e), ?_, fun a m => ?_, fun x m => k _ _ (g6 x m), fun q b e => ⟨(g7 q b e).1.mono (k q), (g7 q b e).2.1, fun m => ?_⟩, fun a z => ?_⟩
  · obtain ⟨T, r, z⟩ := g2 x m
    exact ⟨T, Rep.mono (fun t xs e => k t _ e) _ _ _ r fun a _ o e => k a o e, z⟩
  · rw [List.cons_append]
    exact List.nodup_cons.mpr ⟨fun m => pS0 (pm.mem_iff.mpr m), pm.nodup_iff.mp g4⟩
  · rcases List.mem_cons.mp (List.cons_append ▸ m) with rfl | m
    · exact ⟨fun z => nz a (.inl z) rfl, fun z => nz a (.inr z.symm) rfl⟩
    · exact g5 a (pm.mem_iff.mpr m)
  · rcases List.mem_cons.mp (List.cons_append ▸ m) with rfl | m
    · obtain ⟨x, y, z, e2, _⟩ := (g7 q b e).1
      rw [hp] at e2
      cases e2
    · exact (g7 q b e).2.2 (pm.mem_iff.mpr m)
  · obtain ⟨o, e⟩ := g8 a z
    exact ⟨o, k a o e⟩
/-- a new list of ints -/
theorem St.mkInts {p : Addr} {ns : List Int} (h : St H0 M pu Fz Ow Tp H) (hp : H p = Option.none) : St H0 M pu Fz ((.ref p, dI ns) :: Ow) Tp (upd H p (.lst (ns.map V.int))) :=
  h.new (same_upd hp) ⟨[p], .lst upd_same (Reps.intsR ns), by simp, fun a m => by simp at m; rw [m]; exact hp⟩
/-- the list at the front: its items are exchanged for others that are taken -/
theorem St.put {l : Addr} {ds es : List D} (h : St H0 M pu Fz ((.ref l, .list ds) :: Ow) Tp H)
    : ∃ vs, H l = some (.lst vs) ∧ vs.length = ds.length ∧ ∀ us, Takes Tp (vs.zip ds ++ Ow) us es Ow' → St H0 M pu Fz ((.ref l, .list es) :: Ow') Tp (upd H l (.lst us)) := by
  obtain ⟨Z, S, h1, h2, h3, h4, h5, h6, h7, h8⟩ := h
  cases h3 with
  | @cons Sl S' _ _ _ _ r r' =>
    cases r with
    | @lst _ vs Sd _ e rs =>
      have el := rs.length
      refine ⟨vs, e, el, fun us t => ?_⟩
      have q : Reps H (Sd ++ S') ((vs.zip ds ++ Ow).map (·.1)) ((vs.zip ds ++ Ow).map (·.2)) := by
        rw [List.map_append, List.map_append, List.map_fst_zip (by omega), List.map_snd_zip (by omega)]
        exact rs.append r'
      obtain ⟨S1, S2, r1, r2, pm⟩ := t.reps h6 q
      rw [List.cons_append] at h4
      have nd := List.nodup_cons.mp h4
      have nl1 : ∀ a ∈ S1 ++ S2, a ≠ l := fun a m z => nd.1 (z ▸ pm.mem_iff.mpr m)
      have nlz : ¬ Z l := (h5 l (by simp)).1
      have nlt : ∀ t xs, H t = some (.tup xs) → t ≠ l := fun t xs et z => by
        rw [z, e] at et
        cases et
      have kt : ∀ t xs, H t = some (.tup xs) → upd H l (.lst us) t = some (.tup xs) := fun t xs et => by
        rw [upd_ne (nlt t xs et)]
        exact et
      refine ⟨Z, (l :: S1) ++ S2, fun a o ea m => ⟨(h1 a o ea m).1, ?_⟩, fun x m => ?_, .cons (.lst upd_same (Reps.mono kt _ _ _ r1 fun a m o ea => ?_)) (Reps.mono kt _ _ _ r2 fun a m o ea => ?_), ?_, fun a m => ?_, fun x m => kt _ _ (h6 x m), fun p b ep => ?_, fun a z => ?_⟩
      · rw [upd_ne (show a ≠ l from fun z => nlz (z ▸ (h1 a o ea m).1))]
        exact (h1 a o ea m).2
      · obtain ⟨T, r, z⟩ := h2 x m
        refine ⟨T, Rep.mono kt _ _ _ r fun a q o ea => ?_, z⟩
        rw [upd_ne (show a ≠ l from fun y => nlz (y ▸ z a q))]
        exact ea
      · rw [upd_ne (nl1 a (List.mem_append_left _ m))]
        exact ea
      · rw [upd_ne (nl1 a (List.mem_append_right _ m))]
        exact ea
      · rw [List.cons_append]
        exact List.nodup_cons.mpr ⟨fun m => nd.1 (pm.mem_iff.mpr m), pm.nodup_iff.mp nd.2⟩
      · rcases List.mem_cons.mp (List.cons_append ▸ m) with rfl | m
        · exact h5 a (by simp)
        · exact h5 a (by rw [List.cons_append]; exact List.mem_cons_of_mem _ (pm.mem_iff.mpr m))
      · have npl : p ≠ l := fun z => (h7 p b ep).2.2 (by rw [z]; simp)
        refine ⟨(h7 p b ep).1.mono fun o eo => by rw [upd_ne npl]; exact eo, (h7 p b ep).2.1, fun m => ?_⟩
        rcases List.mem_cons.mp (List.cons_append ▸ m) with z | m
        · exact npl z
        · exact (h7 p b ep).2.2 (by rw [List.cons_append]; exact List.mem_cons_of_mem _ (pm.mem_iff.mpr m))
      · by_cases hl : a = l
        · exact ⟨_, by rw [hl]; exact upd_same⟩
        · obtain ⟨o, ea⟩ := h8 a z
          exact ⟨o, by rw [upd_ne hl]; exact ea⟩
theorem Takes.intsT {Tp : List (Addr × List V)} {Ow : List (V × D)} : ∀ (ns : List Int), Takes Tp Ow (ns.map V.int) (ns.map PyData.int) Ow
  | [] => .nil
  | n :: ns => .cons (.int n) (Takes.intsT ns)
/-- an owned list of ints -/
theorem St.putInts {l : Addr} {ns : List Int} (h : St H0 M pu Fz ((.ref l, dI ns) :: Ow) Tp H) : H l = some (.lst (ns.map V.int)) ∧ ∀ ms : List Int, St H0 M pu Fz ((.ref l, dI ms) :: Ow) Tp (upd H l (.lst (ms.map V.int))) := by
  obtain ⟨a, e0, e⟩ := h.rints (.ow List.mem_cons_self)
  cases e0
  refine ⟨e, fun ms => ?_⟩
  obtain ⟨vs, e1, el, k⟩ := h.put (es := ms.map PyData.int) (Ow' := (ns.map V.int).zip (ns.map PyData.int) ++ Ow)
  rw [e] at e1
  cases e1
  have q := k (ms.map V.int) (Takes.intsT ms)
  -- the old ints are dropped
  have dropN : ∀ (xs : List Int) {Ow : List (V × D)} {x : V × D} {H : Hp}, St H0 M pu Fz (x :: ((xs.map V.int).zip (xs.map PyData.int) ++ Ow)) Tp H → St H0 M pu Fz (x :: Ow) Tp H := by
    intro xs
    induction xs with
    | nil => exact fun h => h
    | cons y ys ih => exact fun h => ih ((h.front (.tl .hd)).drop)
  exact dropN ns q
/-- append -/
theorem St.app {l : Addr} {ds : List D} (h : St H0 M pu Fz ((.ref l, .list ds) :: Ow) Tp H) : ∃ vs, H l = some (.lst vs) ∧ vs.length = ds.length ∧ ∀ v d Ow', Take Tp Ow v d Ow' → St H0 M pu Fz ((.ref l, .list (ds ++ [d])) :: Ow') Tp (upd H l (.lst (vs ++ [v]))) := by
  obtain ⟨Z, S, h1, h2, h3, h4, h5, h6, h7, h8⟩ := id h
  cases h3 with
  | @cons Sl S' _ _ _ _ r r' =>
    cases r with
    | @lst _ vs Sd _ e rs =>
      have el := rs.length
      refine ⟨vs, e, el, fun v d Ow' t => ?_⟩
      obtain ⟨vs', e', el', k⟩ := h.put (es := ds ++ [d]) (Ow' := Ow')
      rw [e] at e'
      cases e'
      refine k _ ?_
      have all : ∀ (vs : List V) (ds : List D), vs.length = ds.length → Takes Tp (vs.zip ds ++ Ow) (vs ++ [v]) (ds ++ [d]) Ow' := by
        intro vs
        induction vs with
        | nil =>
          intro ds e
          match ds, e with
          | [], _ => exact .cons t .nil
        | cons y ys ih =>
          intro ds e
          match ds, e with
          | x :: xs, e => exact .cons (.own .hd) (ih xs (by simpa using e))
      exact all vs ds el
mutual
/-- data without a list -/
def nolist : D → Bool
  | .list _ => false
  | .tuple ds => nolists ds
  | .dict _ => false
  | _ => true
def nolists : List D → Bool
  | [] => true
  | d :: ds => nolist d && nolists ds
end
mutual
theorem Rep.nolist : ∀ (d : D) (S : List Addr) (v : V), Rep H S v d → G.nolist d = true → S = []
  | .none, _, _, h, _ => by cases h; rfl
  | .bool b, _, _, h, _ => by cases h; rfl
  | .int i, _, _, h, _ => by cases h; rfl
  | .str x, _, _, h, _ => by cases h; rfl
  | .list ds, _, _, _, e => by simp [G.nolist] at e
  | .tuple ds, _, _, h, e => by
    cases h with
    | tup _ h2 => exact Reps.nolist ds _ _ h2 (by simpa [G.nolist] using e)
  | .dict _, _, _, _, e => by simp [G.nolist] at e
theorem Reps.nolist : ∀ (ds : List D) (S : List Addr) (vs : List V), Reps H S vs ds → nolists ds = true → S = []
  | [], _, _, h, _ => by cases h; rfl
  | d :: ds, _, _, h, e => by
    cases h with
    | cons h1 h2 =>
      rw [nolists, Bool.and_eq_true] at e
      rw [Rep.nolist d _ _ h1 e.1, Reps.nolist ds _ _ h2 e.2]
      rfl
end
/-- written data: what is made, item by item -/
def Lit (t : TE) (d : D) : Prop := ∀ (σ : L2.St) (H : Hp) (Q : VK) (H0 : Hp) (M : Option Addr) (pu : Option (Addr × Int)) (Fz Ow : List (V × D)) (Tp : List (Addr × List V)), St H0 M pu Fz Ow Tp H → (∀ v H', St H0 M pu Fz ((v, d) :: Ow) Tp H' → Q v H') → t σ H Q
def LitA (t : TA) (ds : List D) : Prop := ∀ (σ : L2.St) (H : Hp) (Q : List V → Hp → Prop) (H0 : Hp) (M : Option Addr) (pu : Option (Addr × Int)) (Fz Ow : List (V × D)) (Tp : List (Addr × List V)), St H0 M pu Fz Ow Tp H → (∀ vs H', vs.length = ds.length → St H0 M pu Fz ((vs.zip ds).reverse ++ Ow) Tp H' → Q vs H') → t σ H Q
theorem lit_int {i : Int} : Lit (tC (.int i)) (.int i) := fun _ H _ _ _ _ _ _ _ h k => k _ _ (h.take (.int i))
theorem lit_str {x : Str} : Lit (tC (.str x)) (.str x) := fun _ H _ _ _ _ _ _ _ h k => k _ _ (h.take (.str x))
theorem lit_bool {b : Bool} : Lit (tC (.bl b)) (.bool b) := fun _ H _ _ _ _ _ _ _ h k => k _ _ (h.take (.bl b))
theorem lit_none : Lit (tC .non) .none := fun _ H _ _ _ _ _ _ _ h k => k _ _ (h.take .non)
theorem litA_nil : LitA tNil [] := fun _ _ _ _ _ _ _ _ _ h k => k [] _ rfl h
theorem litA_cons {t : TE} {ts : TA} {d : D} {ds : List D} (h1 : Lit t d) (h2 : LitA ts ds) : LitA (tCons t ts) (d :: ds) := fun σ H Q H0 M pu Fz Ow Tp h k =>
  h1 σ H _ H0 M pu Fz Ow Tp h fun v H1 k1 => h2 σ H1 _ H0 M pu Fz _ Tp k1 fun vs H2 el k2 => k (v :: vs) H2 (by simp [el]) (by simpa using k2)
theorem takes_rev {Tp : List (Addr × List V)} {Ow : List (V × D)} : ∀ (vs : List V) (ds : List D) (pre : List (V × D)), vs.length = ds.length → Takes Tp (pre.reverse ++ (vs.zip ds) ++ Ow) vs ds (pre.reverse ++ Ow)
  | [], [], pre, _ => by simpa using Takes.nil
  | v :: vs, d :: ds, pre, e => by
    have pk : ∀ (l r : List (V × D)), Pick (v, d) (l ++ (v, d) :: r) (l ++ r) := fun l => by
      induction l with
      | nil => intro r; exact .hd
      | cons x l ih => intro r; exact .tl (ih r)
    have q := takes_rev (Tp := Tp) (Ow := Ow) vs ds pre (by simpa using e)
    refine .cons (Ow1 := pre.reverse ++ vs.zip ds ++ Ow) (.own ?_) q
    have := pk pre.reverse (vs.zip ds ++ Ow)
    simpa using this
theorem St.unrev (vs : List V) (ds : List D) (h : St H0 M pu Fz ((vs.zip ds).reverse ++ Ow) Tp H) : St H0 M pu Fz (vs.zip ds ++ Ow) Tp H := by
  obtain ⟨Z, S, h1, h2, h3, h4, h5, h6, h7, h8⟩ := h
  have perm : ∀ (l l' : List (V × D)), l.Perm l' → ∀ S, Reps H S (l.map (·.1)) (l.map (·.2)) → ∃ S', Reps H S' (l'.map (·.1)) (l'.map (·.2)) ∧ S.Perm S' := by
    intro l l' pm
    induction pm with
    | nil => exact fun S r => ⟨S, r, .refl _⟩
    | cons x _ ih =>
      intro S r
      cases r with
      | cons r1 r2 =>
        obtain ⟨S', r', p'⟩ := ih _ r2
        exact ⟨_, .cons r1 r', List.Perm.append_left _ p'⟩
    | swap x y l =>
      intro S r
      cases r with
      | @cons Sy _ _ _ _ _ r1 r2 =>
        cases r2 with
        | @cons Sx Sl _ _ _ _ r2 r3 =>
          refine ⟨_, .cons r2 (.cons r1 r3), ?_⟩
          rw [← List.append_assoc, ← List.append_assoc]
          exact List.Perm.append_right _ List.perm_append_comm
    | trans _ _ ih1 ih2 =>
      intro S r
      obtain ⟨S1, r1, p1⟩ := ih1 S r
      obtain ⟨S2, r2, p2⟩ := ih2 S1 r1
      exact ⟨S2, r2, p1.trans p2⟩
  obtain ⟨S', r', pm⟩ := perm _ _ (List.Perm.append_right Ow (List.reverse_perm (vs.zip ds))) S h3
  exact ⟨Z, S', h1, h2, r', pm.nodup_iff.mp h4, fun a m => h5 a (pm.mem_iff.mpr m), h6, fun p b e => ⟨(h7 p b e).1, (h7 p b e).2.1, fun m => (h7 p b e).2.2 (pm.mem_iff.mpr m)⟩, h8⟩
theorem lit_lst {t : TA} {ds : List D} (h1 : LitA t ds) (hl : ds.length ≤ 1000000 := by decide) : Lit (tLst t) (.list ds) := fun σ H Q H0 M pu Fz Ow Tp h k =>
  h1 σ H _ H0 M pu Fz Ow Tp h fun vs H1 el k1 => ⟨by rw [el]; exact Nat.le_trans hl (by decide), fun p hp => k _ _ ((k1.unrev vs ds).mkLst hp (takes_rev vs ds [] el))⟩
theorem lit_tup {t : TA} {ds : List D} (h1 : LitA t ds) (hl : ds.length ≤ 1000000 := by decide) : Lit (tTup t) (.tuple ds) := fun σ H Q H0 M pu Fz Ow Tp h k =>
  h1 σ H _ H0 M pu Fz Ow Tp h fun vs H1 el k1 => ⟨by rw [el]; exact Nat.le_trans hl (by decide), fun p hp => by
    have q := (k1.unrev vs ds).mkTup (vs := vs) hp
    obtain ⟨Z, S, h1, h2, h3, h4, h5, h6, h7, h8⟩ := q
    have h6' := h6 _ List.mem_cons_self
    rw [List.map_append, List.map_append, List.map_fst_zip (by omega), List.map_snd_zip (by omega)] at h3
    obtain ⟨S1, S2, u1, u2, eS, eu, r1, r2⟩ := h3.split
    have e1 : u1 = vs ∧ u2 = Ow.map (·.1) := by
      have l1 := r1.length
      have := List.append_inj eu (by omega)
      exact ⟨this.1.symm, this.2.symm⟩
    obtain ⟨rfl, rfl⟩ := e1
    refine k _ _ ⟨Z, S, h1, h2, ?_, h4, h5, fun x m => h6 x (List.mem_cons_of_mem _ m), h7, h8⟩
    rw [eS]
    exact .cons (.tup h6' r1) r2⟩
theorem St.enter {S : List Addr} {vs : List V} {ds : List D} (h : Reps H S vs ds) : St H .none .none (vs.zip ds) [] [] H := by
  have el := h.length
  refine ⟨fun a => ∃ o, H a = some o, [], fun a o e _ => ⟨⟨o, e⟩, e⟩, fun x m => ?_, .nil, List.nodup_nil, fun _ z => (nomatch z), fun _ z => (nomatch z), fun _ _ z => (nomatch z), fun a z => ?_⟩
  · have rs' : Reps H S ((vs.zip ds).map (·.1)) ((vs.zip ds).map (·.2)) := by
      rw [List.map_fst_zip (by omega), List.map_snd_zip (by omega)]
      exact h
    obtain ⟨T, r, z⟩ := reps_of_mem rs' m
    refine ⟨T, r, fun a q => ?_⟩
    obtain ⟨xs, e⟩ := Rep.dom _ _ _ r a q
    exact ⟨_, e⟩
  · rcases z with z | z
    · exact z
    · cases z
theorem St.leave (h : St H0 .none pu Fz ((v, d) :: Ow) Tp H) : Same H0 H ∧ New H0 H v d := by
  obtain ⟨Z, S, h1, h2, h3, h4, h5, h6, h7, h8⟩ := h
  refine ⟨fun a o e => (h1 a o e (by intro z; cases z)).2, ?_⟩
  cases h3 with
  | @cons S1 S2 _ _ _ _ r _ =>
    refine ⟨S1, r, (List.nodup_append.mp h4).1, fun a m => ?_⟩
    cases q : H0 a with
    | none => rfl
    | some o => exact absurd (h1 a o q (by intro z; cases z)).1 (h5 a (List.mem_append_left _ m)).1
end
/-- what a def makes of trees: W says of the arguments what the result may be -/
abbrev Tw := List D → (D → Prop) → Prop
/-- a def that changes nothing, and whose lists are new -/
def spT (W : Tw) : Sp := fun vs H Q _ => ∃ S ds G, Reps H S vs ds ∧ W ds G ∧ ∀ d v H', G d → Same H H' → New H H' v d → Q v H'
/-- a def that draws at most c times from the purse, its first argument -/
def spP (c : Int) (W : Tw) : Sp := fun vs H Q _ => ∃ p b vs' S ds G, vs = .ref p :: vs' ∧ PuAt H p b ∧ b + c ≤ 2 ^ 100 ∧ Reps H S vs' ds ∧ p ∉ S ∧ W ds G ∧ ∀ d v H', G d → (∀ a o, H a = some o → a ≠ p → H' a = some o) → PuAt H' p (b + c) → New H H' v d → Q v H'
section
variable {H0 H H' : Hp} {M : Option Addr} {pu : Option (Addr × Int)} {Fz Ow Ow' : List (V × D)} {Tp : List (Addr × List V)} {v : V} {d : D} {Q : VK} {E : XK} {W : Tw} {vs : List V} {ds : List D}
theorem St.call (h : St H0 M pu Fz Ow Tp H) (r : Rdbs Fz Ow Tp vs ds) (w : W ds fun d => ∀ v H', St H0 M pu Fz ((v, d) :: Ow) Tp H' → Q v H') : spT W (vs ++ []) H Q E0 := by
  obtain ⟨T, r, _⟩ := h.rds r
  rw [List.append_nil]
  exact ⟨T, ds, _, r, w, fun d v H' k s n => k v H' (h.new s n)⟩
end
end G
namespace G
open PySem PySem.Spec PyProof.Rows L2
/-- no repr is under way -/
abbrev Bare (A : Around) : Prop := A.guards = some []
theorem Bare.deeper {A : Around} (h : Bare A) (env : Env) : Bare (A.deeper env) := h
/-- a def's promise, called where no repr is under way -/
structure FnG (P : Program) (w : World) (K : PySem.W.Frag) (mg : Str → Option Value) (base : Heap) (CX : CXT) (k : Nat) (f : Addr) (fd : FuncData) (ps : List Str) (sp : Sp) : Prop where
  len : ∀ vs H Q E, sp vs H Q E → vs.length = ps.length
  run : ∀ (A : Around) (outer : List Env) (s : Shared) (H : Hp) (args : Args) (us : List Value) (vs : List V) (Q : VK) (E : XK), Bare A → Room k A → Env0 P w K mg base A outer s H → BindsTo s fd args (ps.zip us) → Vals vs us → sp vs H Q E →
    codeAny (model P w) A (.call (.ref f) args) (CR CX outer P w H s Q E) s
section
variable {P : Program} {w : World} {K : PySem.W.Frag} {mg : Str → Option Value} {base : Heap} {CX : CXT} {k j : Nat} {f : Addr} {fd : FuncData} {ps : List Str} {sp : Sp}
theorem FnG.mono (F : FnG P w K mg base CX j f fd ps sp) (h : j ≤ k) : FnG P w K mg base CX k f fd ps sp :=
  ⟨F.len, fun A o s H args us vs Q E hg hr => F.run A o s H args us vs Q E hg (hr.mono h)⟩
theorem FnG.of (F : FnOk P w K mg base CX k f fd ps sp) : FnG P w K mg base CX k f fd ps sp := ⟨F.len, fun A o s H args us vs Q E _ hr => F.run A o s H args us vs Q E hr⟩
/-- a def by its body: as the layer's rule, with the guards told to the body -/
theorem fn_ofG {name qual : Str} {params : Arguments} {body : List Stmt} {scope : Scope} {dV kV doc pm cdv ct oc : Value} {an od : Option Addr} {osl : Array (Option Value)} {N : List Str}
    (lk : K.lookup f = some ⟨oc, od, .func (PySem.W.fnOf name qual params body scope dV kV doc pm an cdv ct), osl⟩) (hcd : PySem.W.codeIn K cdv qual = true) (S : FnScope N ps scope) (len : ∀ vs H Q E, sp vs H Q E → vs.length = ps.length)
    (hb : ∀ (A : Around) (outer : List Env) (s : Shared) (H : Hp) (vs : List V) (Q : VK) (E : XK), Bare (A.deeper (envOfC qual scope s.heap.objs.size f cdv)) → Room k (A.deeper (envOfC qual scope s.heap.objs.size f cdv)) → sp vs H Q E →
      ∃ t, PSs (cxOf CX P w K mg base N qual scope f cdv A outer s H E) body t ∧ t ⟨fun _ H' => Q .non H', Q, fun _ _ => False, fun _ _ => False⟩ (start N vs) H) :
    FnG P w K mg base CX (k + 1) f (PySem.W.fnOf name qual params body scope dV kV doc pm an cdv ct) ps sp := by
  refine ⟨len, fun A outer s H args us vs Q E hg hr e0 bt r q => ?_⟩
  have keep : ∀ b o, base.get? b = some o → s.heap.get? b = some o := fun b o e => (e0.bs b o e).1
  have KX : K.In s.heap := e0.mod.kin.keeps keep
  refine codeAny_call_function hr.depth (KX _ _ lk) rfl S.co S.gen rfl (PySem.W.codeRec_of KX hcd) (bt _ _ _ _ (wpAny_newFunctionEnv_cells S.kind (fun y hy => ?_) fun env he s1 x => ?_))
  · rcases S.par y.1 (List.of_mem_zip (a := y.1) (b := y.2) hy).1 with z | z
    · exact Or.inl z
    · exact Or.inr ⟨z, PySem.W.cellsFrom_some _ _ _ (Or.inl z)⟩
  · subst he
    obtain ⟨t, ht, hq⟩ := hb A outer s H vs Q E (hg.deeper _) (hr.deeper _) q
    refine ⟨(e0.mod.nolimit.keeps keep).keeps x.toInCall.keep, codeAny_func (wpAny_mono (ht.run [] s1 (start N vs) H _ (inv_start S hr.hd e0 (len _ _ _ _ q) r x) hq) (fun fl s' hs => ?_) fun e s' z => z)⟩
    cases fl with
    | next =>
      obtain ⟨_, H', J, z⟩ := hs
      exact ⟨V.non, H', J.os, J.bare, J.base, J.hok, rfl, z⟩
    | ret u =>
      obtain ⟨v, _, H', J, rv, z⟩ := hs
      exact ⟨v, H', J.os, J.bare, J.base, J.hok, rv, z⟩
    | brk => exact hs.elim fun _ z => z.elim fun _ z => z.2.elim
    | cont => exact hs.elim fun _ z => z.elim fun _ z => z.2.elim
/-- .. where no exception leaves the def -/
theorem okG {x qual : Str} {st : Stmt} {N : List Str} (F : Fun K x qual st f fd) (S : FnScope N ps (defScope st)) (len : ∀ vs H Q E, sp vs H Q E → vs.length = ps.length)
    (hb : ∀ (cdv : Value) (A : Around) (outer : List Env) (s : Shared) (H : Hp) (vs : List V) (Q : VK) (E : XK), Bare (A.deeper (envOfC qual (defScope st) s.heap.objs.size f cdv)) → Room k (A.deeper (envOfC qual (defScope st) s.heap.objs.size f cdv)) → sp vs H Q E →
      ∃ t, PSs (cxOf CX0 P w K mg base N qual (defScope st) f cdv A outer s H E).nox (defBody st) t ∧ t ⟨fun _ H' => Q .non H', Q, fun _ _ => False, fun _ _ => False⟩ (start N vs) H) : FnG P w K mg base CX0 (k + 1) f fd ps sp := by
  obtain ⟨oc, od, kV, doc, pm, an, cdv, ct, osl, rfl, lk, hcd⟩ := F.ex
  refine fn_ofG lk hcd S len fun A outer s H vs Q E hg hr q => ?_
  obtain ⟨t, h, z⟩ := hb cdv A outer s H vs Q E hg hr q
  exact ⟨t, h.nox, z⟩
end
section
variable {X : Cx} {CX : CXT} {k : Nat} {f : Addr} {fd : FuncData} {ps ks : List Str} {sp : Sp} {E : XK} {x : Str} {p pos kpos : Pos} {e : Expr} {es : List Expr} {kws : List Keyword} {t tk : TA}
theorem end_callG {pins : List (Addr × Obj)} {σ : L2.St} {H : Hp} {s : Shared} {Q : VK} (hx : Passes CX X E) (I : Inv X pins σ H s) {r : Result} {s' : Shared} (hq : CR CX X.stack X.prog X.w H s Q E r s') : callEnd (EP X pins σ Q) X.xe r s' := by
  match r, hq with
  | .error e, hq => exact hx pins σ H s e s' I hq
  | .ok (.ret u), hq => exact I.after hq
/-- f(e, ..) of a def of the module, all parameters given by place -/
theorem pe_callG (F : FnG X.prog X.w X.K X.mg X.base CX k f fd ps sp) (hb : Bare X.A) (hr : Room k X.A) (hg : Gl X x) (hm : X.mg x = some (.ref f)) (hk : PySem.W.keepIn X.K (.ref f) = true) (bd : Binds X.K fd ps []) (hx : Passes CX X E)
    (ha : PA X (e :: es) t) (hdb : (x == ("__debug__" : Str)) = false := by decide) (he : starEach (e :: es) X.env = (false, eval e X.env) :: starEach es X.env := by rfl) (hpl : (backTo pos (starEach es X.env)).any (·.1) = false := by rfl) :
    PE X (.Call (.Name x p) (e :: es) [] pos) (tCall sp [] E t) := by
  refine ⟨fun pins s σ H Q I h => wpAny_Call_Name_kw (ld_glob I hg hm (PySem.W.callWith_K (h₀ := X.base) I.ok.mod.kin hk (thn (ha.run pos pins s σ H _ I h) fun us s1 ⟨vs, H1, I1, r, q⟩ => ⟨I1.kIn, ?_⟩) he hpl) hdb)⟩
  have r2 : Vals (vs ++ []) (us ++ []) := by
    rw [List.append_nil, List.append_nil]
    exact r
  refine wpAny_call (codeAny_mono (F.run X.A X.stack s1 H1 ⟨us, []⟩ (us ++ []) (vs ++ []) Q E hb hr I1.env0 (bd s1 us I1.kIn (r2.length.symm.trans (F.len _ _ _ _ q))) r2 q) fun r s' hq => end_callG hx I1 hq)
variable {g : List Value → List Value → List Value} {gV : List V → List V → List V}
theorem run_fnkG {pins : List (Addr × Obj)} {σ : L2.St} {H : Hp} {s : Shared} {Q : VK} {us ws : List Value} {vs zs : List V} (F : FnG X.prog X.w X.K X.mg X.base CX k f fd ps sp) (hg : Bare X.A) (hr : Room k X.A) (hb : KBinds X.K fd ps ks g gV) (hx : Passes CX X E)
    (I : Inv X pins σ H s) (r : Vals vs us) (rz : Vals zs ws) (h : sp (gV vs zs) H Q E) : wpAny (model X.prog X.w) X.A (call (.ref f) us (ks.zip ws)) (EP X pins σ Q) X.xe s := by
  have r2 := hb.rel r rz
  exact wpAny_call (codeAny_mono (F.run X.A X.stack s H ⟨us, ks.zip ws⟩ (g us ws) (gV vs zs) Q E hg hr I.env0 (hb.to s us ws I.kIn (r2.length.symm.trans (F.len _ _ _ _ h))) r2 h) fun r s' hq => end_callG hx I hq)
/-- f(k = v, ..): all parameters given by name -/
theorem pe_callK0G (F : FnG X.prog X.w X.K X.mg X.base CX k f fd ps sp) (hb : Bare X.A) (hr : Room k X.A) (hg : Gl X x) (hm : X.mg x = some (.ref f)) (hk : PySem.W.keepIn X.K (.ref f) = true) (kb : KBinds X.K fd ps ks g gV) (hx : Passes CX X E)
    (hkw : PK X kws tk) (hall : (backToKw pos (keywordEach kws X.env)).all (·.1.isSome) = true := by rfl) (hks : (backToKw pos (keywordEach kws X.env)).filterMap (·.1) = ks := by rfl) (hdb : (x == ("__debug__" : Str)) = false := by decide)
    (hpl : ((backTo pos (starEach [] X.env)).any (·.1) || (backToKw pos (keywordEach kws X.env)).any (·.1.isNone)) = false := by rfl) : PE X (.Call (.Name x p) [] kws pos) (tCallK sp gV E tNil tk) := by
  refine ⟨fun pins s σ H Q I h => wpAny_Call_Name_kw (ld_glob I hg hm (PySem.W.callWith_KW0 (h₀ := X.base) I.ok.mod.kin hk hall (thn (hkw.run pos pins s σ H _ I h) fun ws s1 ⟨zs, H1, I1, rz, q⟩ => ⟨I1.kIn, ?_⟩) hpl) hdb)⟩
  rw [hks]
  exact run_fnkG F hb hr kb hx I1 .nil rz q
end
/-- all parameters by name: f i tells which of the keywords' values is the i-th parameter's -/
def gKw (ix : List Nat) (us ws : List Value) : List Value := match us with
  | [] => ix.filterMap fun i => ws[i]?
  | _ :: _ => []
def gKwV (ix : List Nat) (vs zs : List V) : List V := match vs with
  | [] => ix.filterMap fun i => zs[i]?
  | _ :: _ => []
theorem vals_pick {zs : List V} {ws : List Value} (r : Vals zs ws) : ∀ ix : List Nat, Vals (ix.filterMap fun i => zs[i]?) (ix.filterMap fun i => ws[i]?)
  | [] => .nil
  | i :: ix => by
    cases e : zs[i]? with
    | none =>
      have e2 := r.none_of e
      rw [List.filterMap_cons_none e, List.filterMap_cons_none e2]
      exact vals_pick r ix
    | some v =>
      obtain ⟨u, e2, ru⟩ := r.get e
      rw [List.filterMap_cons_some e, List.filterMap_cons_some e2]
      exact .cons ru (vals_pick r ix)
theorem kb_of {K : PySem.W.Frag} {fd : FuncData} {ps ks : List Str} {ix : List Nat} (h0 : 0 < ps.length) (h : ∀ ws : List Value, (ix.filterMap fun i => ws[i]?).length = ps.length → bindArgs fd ⟨[], ks.zip ws⟩ = pure (ps.zip (ix.filterMap fun i => ws[i]?))) : KBinds K fd ps ks (gKw ix) (gKwV ix) := by
  refine ⟨fun s us ws _ hl => ?_, fun {vs us zs ws} r rz => ?_⟩
  · cases us with
    | nil => exact .of_eq (h ws hl)
    | cons u us =>
      change ([] : List Value).length = ps.length at hl
      simp at hl
      omega
  · cases r with
    | nil => exact vals_pick rz ix
    | cons _ _ => exact .nil
theorem law_callG {P : Program} {w : World} {K : PySem.W.Frag} {mg mb : Str → Option Value} {CX : CXT} {k : Nat} {fa a : Addr} {fd : FuncData} {x : Str} {sp : Sp} {s : Shared} {vs : List Value} {ns : List Int}
    (KX : K.In s.heap) (hns : s.heap.Ns mainGlobals mg) (hb : s.heap.Ns builtinsNs mb) (hbb : ∀ y : Str, y ≠ "__name__" → mb y = bootBuiltins y) (hlim : s.heap.NoLimit) (hg : s.gens = #[])
    (ha : s.heap.get? a = some { cls := .type "list", data := .seq vs.toArray }) (hi : IntsAre vs ns) (hl : ns.length ≤ sizeLine) (hr : Room k callerA)
    (F : ∀ base : Heap, K.In base → base.Ns mainGlobals mg → FnG P w K mg base CX k fa fd [x] sp) (hbind : ∀ (s : Shared) (u : Value), BindsTo s fd ⟨[u], []⟩ [(x, u)])
    (hsp : ∀ H : Hp, Only H → SqL K H a (ns.map V.int) → sp [.ref a] H (fun v _ => v = .bl true) fun _ _ _ => False) (hCX : ∀ H e s', CX [] H s (fun _ _ _ => False) e s' → False) :
    codeAny (model P w) callerA (.call (.ref fa) ⟨[.ref a], []⟩) (fun r s' => r = .ok (.ret (.bool true)) ∧ OldK s.heap s'.heap ∧ s'.os = s.os ∧ AllBare s'.gens) s := by
  have rv : Vals (ns.map V.int) vs := vals_ints hi
  have lenV : vs.length = ns.length := by rw [← rv.length, List.length_map]
  -- for a heap H that tracks the script alone, or nothing
  have main : ∀ H : Hp, Only H → SqL K H a (ns.map V.int) → HOk P w H s.heap → (∀ b, H b ≠ none → b = a) → (H a ≠ none → K.lookup a = none) →
      codeAny (model P w) callerA (.call (.ref fa) ⟨[.ref a], []⟩) (fun r s' => r = .ok (.ret (.bool true)) ∧ OldK s.heap s'.heap ∧ s'.os = s.os ∧ AllBare s'.gens) s := fun H hO hS hok hA hK => by
    have dictless : ∀ {b : Addr} {o : Obj} {es : Array DictEntry} {ep : Nat}, s.heap.get? b = some o → o.data = .dict es ep → H b = none := fun {b o es ep} e d => by
      cases z : H b with
      | none => rfl
      | some u =>
        rw [hA b (by rw [z]; intro q; cases q), ha] at e
        cases e
        cases (show Data.seq vs.toArray _ = Data.dict es ep from d)
    have nsB : ∀ {b : Addr} {m : Str → Option Value}, s.heap.Ns b m → (hidT s.heap H).Ns b m := fun {b m} ⟨o, es, ep, e, d, r⟩ => ⟨o, es, ep, hidT_get e (dictless e d), d, r⟩
    have kinB : K.In (hidT s.heap H) := fun b o e => hidT_get (KX b o e) (by
      cases z : H b with
      | none => rfl
      | some u =>
        have eb := hA b (by rw [z]; intro q; cases q)
        subst eb
        rw [hK (by rw [z]; intro q; cases q)] at e
        cases e)
    obtain ⟨mc, l1, l2⟩ := hlim
    have e0 : Env0 P w K mg (hidT s.heap H) callerA [] s H := ⟨rfl, ⟨kinB, nsB hns, ⟨mb, nsB hb, hbb⟩, ⟨mc, nsB l1, l2⟩⟩, fun b o e => of_hidT e, Nat.le_of_eq (hidT_size _ _), trivial, fun b z => (nomatch (show b ∈ ([] : List Addr) from z)), hok, .of_eq hg⟩
    refine codeAny_mono ((F _ kinB (nsB hns)).run callerA [] s H ⟨[.ref a], []⟩ [.ref a] [.ref a] _ _ rfl hr e0 (hbind s (.ref a)) (.cons rfl .nil) (hsp H hO hS)) fun r s' h => ?_
    match r, h with
    | .error e, h => exact (hCX H e s' h).elim
    | .ok (.ret u), ⟨v, H', os, bare, un, hok', r', q⟩ =>
      have q' : v = .bl true := q
      subst q'
      obtain rfl : u = Value.bool true := r'
      refine ⟨rfl, OldK.of_keep fun b o e => ?_, os, bare⟩
      cases z : H b with
      | none => exact un.keep b o e z (fun m => nomatch (show b ∈ ([] : List Addr) from m)) (fun m => nomatch m)
      | some u =>
        rcases hO b with y | ⟨ob, xs, y⟩
        · rw [z] at y
          cases y
        · have e1 := (hok b _ y).1
          rw [e] at e1
          cases e1
          exact (hok' b _ (un.frzs b _ _ y)).1
  cases hk : K.lookup a with
  | some o =>
    have e := KX a o hk
    rw [ha] at e
    cases e
    exact main (fun _ => none) (fun _ => .inl rfl) (.inr ⟨_, vs.toArray, _, hk, rfl, rfl, rfl, by rw [List.size_toArray, lenV]; exact hl, by simpa using rv⟩) (fun b u z => nomatch z) (fun b z => absurd rfl z) fun z => absurd rfl z
  | none =>
    have at_a : (fun b : Addr => if b = a then some (HO.frz { cls := .type "list", data := .seq vs.toArray } (.lst (ns.map V.int))) else none) a = some (HO.frz { cls := .type "list", data := .seq vs.toArray } (.lst (ns.map V.int))) := if_pos rfl
    have off : ∀ b, b ≠ a → (fun b : Addr => if b = a then some (HO.frz { cls := .type "list", data := .seq vs.toArray } (.lst (ns.map V.int))) else none) b = none := fun b h => if_neg h
    refine main (fun b => if b = a then some (.frz { cls := .type "list", data := .seq vs.toArray } (.lst (ns.map V.int))) else none) (fun b => ?_) (.inl (.inr ⟨_, at_a⟩)) (fun b u z => ?_) (fun b z => ?_) fun _ => hk
    · by_cases h : b = a
      · exact .inr ⟨_, _, by subst h; exact at_a⟩
      · exact .inl (off b h)
    · by_cases h : b = a
      · subst h
        rw [at_a] at z
        cases z
        exact ⟨ha, by rw [List.length_map]; exact hl, vs, _, rv, ha⟩
      · rw [off b h] at z
        cases z
    · exact Classical.byContradiction fun h => z (off b h)
theorem walk_ofG {l : PySem.W.OpenLaw} {n k : Nat} {q : Program} {loose : List Str} {XP : (Str → Option Value) → Heap → Prop} {YP : World → Heap → Prop} {d : DefRec} {K : Params → PySem.W.Frag} {CX : World → CXT} {sp : World → Sp} {x : Str}
    (hn : l.most = some n) (hn2 : n ≤ sizeLine) (hdf : d.params.defaults = []) (hr : Room k callerA) (hY : ∀ (w : World) (h : Heap), YP w h → (K w.params).In h)
    (F : ∀ (w : World) (mg : Str → Option Value) (fa : Addr) (h : Heap), (K w.params).In h → h.Ns mainGlobals mg → mg d.name = some (.ref fa) →
      ∃ fd : FuncData, (∀ (s : Shared) (u : Value), BindsTo s fd ⟨[u], []⟩ [(x, u)]) ∧ ∀ base : Heap, (K w.params).In base → base.Ns mainGlobals mg → FnG l.prog w (K w.params) mg base (CX w) k fa fd [x] (sp w))
    (hsp : ∀ (w : World) (H : Hp) (a : Addr) (ns : List Int), ns.length ≤ n → (∀ z ∈ ns, Builtin.Int.intBits z ≤ 1048576) → Only H → SqL (K w.params) H a (ns.map V.int) → sp w [.ref a] H (fun v _ => v = .bl true) fun _ _ _ => False)
    (hCX : ∀ (w : World) (H : Hp) (s : Shared) (e : Value) (s' : Shared), CX w [] H s (fun _ _ _ => False) e s' → False) : PySem.W.WalkO q loose XP YP l.row.toRowW d [] (fun f vs => PySem.call f vs) :=
  Att.attach_callB hn hdf fun w _ s1 mg mb fa _ _ _ _ a vs ns G Y _ _ _ hmg hobj hints hlen hbits hg => by
    have KX := hY w _ Y
    obtain ⟨fd, hb, hF⟩ := F w mg fa _ KX G.T.g hmg
    exact law_callG KX G.T.g G.T.b G.T.builtins G.T.nolimit hg hobj hints (Nat.le_trans hlen hn2) hr hF hb (fun H hO hS => hsp w H a ns hlen hbits hO hS) fun H e s' => hCX w H s1 e s'
section
variable {X : Cx}
/-- repr of plain data -/
def rRepr (K : PySem.W.Frag) : List V → Hp → VK → Prop := fun vs H Q => ∃ x d, vs = [x] ∧ Dp K H x d ∧ d.showable = true ∧ d.depth ≤ 60 ∧ d.shown.length ≤ sizeLine ∧ Q (.str d.shown) H
theorem Dp.nodict {K : PySem.W.Frag} {H : Hp} : ∀ (d : D) (x : V), Dp K H x d → d.hasDict = false
  | .none, _, _ => by simp [PyData.hasDict]
  | .bool _, _, _ => by simp [PyData.hasDict]
  | .int _, _, _ => by simp [PyData.hasDict]
  | .str _, _, _ => by simp [PyData.hasDict]
  | .list ds, _, h => by
    cases h with
    | lst _ hs =>
      rw [PyData.hasDict]
      exact all ds _ hs
  | .tuple ds, _, h => by
    cases h with
    | tup _ hs =>
      rw [PyData.hasDict]
      exact all ds _ hs
  | .dict _, _, h => by cases h
where all : ∀ (ds : List D) (vs : List V), DpAll K H vs ds → PyData.hasDictAll ds = false
  | [], _, _ => by simp [PyData.hasDictAll]
  | d :: ds, _, h => by
    cases h with
    | cons h1 h2 =>
      rw [PyData.hasDictAll, Dp.nodict d _ h1, all ds _ h2]
      rfl
theorem cr_repr (hg : Bare X.A) (hu : X.A.units + 64 < cLine) : CallR X (.builtin "repr") (rRepr X.K) := by
  intro pins s σ H xs us Q I r h
  obtain ⟨x, d, rfl, hd, sh, dp, sz, q⟩ := h
  obtain ⟨u, rfl, rx⟩ := vals1 r
  obtain ⟨as, hr⟩ := Dp.reads I d x u hd rx
  have nd := Dp.nodict d x hd
  cases d with
  | none =>
    cases hd
    cases rx
    exact PySem.P.repr_of_none ⟨.str _, H, I.tok _, ⟨_, rfl⟩, q⟩
  | bool b =>
    cases hd
    cases rx
    refine PySem.P.repr_of_bool ⟨.str _, H, I.tok _, ⟨_, rfl⟩, ?_⟩
    cases b <;> exact q
  | int i =>
    cases hd
    obtain ⟨t, rfl⟩ := rx
    refine PySem.P.repr_of_int (by simpa [PyData.showable] using sh) ⟨.str _, H, I.tok _, ⟨_, rfl⟩, q⟩
  | str z =>
    cases hd
    obtain ⟨t, rfl⟩ := rx
    exact PySem.P.repr_of_str ⟨.str _, H, I.tok _, ⟨_, rfl⟩, q⟩ (by simpa [PyData.shown] using sz)
  | list ds =>
    cases hd
    cases rx
    exact repr_of_reads' hr sh (fun z => by rw [nd] at z; cases z) hg (by omega) (fun _ _ e => e) (fun h' u tk k => ⟨.str _, H, I.kept k, ⟨_, rfl⟩, q⟩) sz
  | tuple ds =>
    cases hd
    cases rx
    exact repr_of_reads' hr sh (fun z => by rw [nd] at z; cases z) hg (by omega) (fun _ _ e => e) (fun h' u tk k => ⟨.str _, H, I.kept k, ⟨_, rfl⟩, q⟩) sz
  | dict _ => cases hd
/-- a ** b of great numbers -/
def CPowW (i j : Int) : Prop := 0 ≤ j ∧ (Builtin.Int.intBits i : Int) * j ≤ 2 ^ 27
theorem op_powW : OpR X (binaryOp .Pow) (rI CPowW fun i j => .int (i ^ j.toNat)) := opI fun _ _ _ _ _ _ _ hc q => pow_int hc.1 hc.2 q
/-- a * b: together below a hundred million bits -/
def CMulB (i j : Int) : Prop := Builtin.Int.intBits i + Builtin.Int.intBits j < 100000000
theorem CMulB.ok {i j : Int} (h : CMulB i j) : IntMulOk i j := by
  have e : bitsLine = 134217728 := by decide
  unfold IntMulOk
  intro z
  rw [Bool.and_eq_true] at z
  have z2 := z.2
  unfold Builtin.Int.intTooBig at z2
  have z3 := of_decide_eq_true z2
  rw [e] at z3
  unfold CMulB at h
  omega
theorem op_mulB : OpR X (binaryOp .Mult) (rI CMulB fun i j => .int (i * j)) := opI fun _ _ _ _ _ _ _ hc q => mul_int q hc.ok
end
end G
namespace G
open PySem PySem.Spec PyProof.Rows L2
/-- the built-in names that no def hides -/
structure Blt (mg : Str → Option Value) : Prop where
  len : mg "len" = none
  range : mg "range" = none
  max : mg "max" = none
  min : mg "min" = none
  abs : mg "abs" = none
  int : mg "int" = none
  list : mg "list" = none
  tuple : mg "tuple" = none
  repr : mg "repr" = none
  all : mg "all" = none
  any : mg "any" = none
  sum : mg "sum" = none
  sorted : mg "sorted" = none
  isinstance : mg "isinstance" = none
  set : mg "set" = none
  enumerate : mg "enumerate" = none
  zip : mg "zip" = none
  str : mg "str" = none
  divmod : mg "divmod" = none
  dict : mg "dict" = none
  bool : mg "bool" = none
  reversed : mg "reversed" = none
/-- a def of the top as it stands -/
structure DefAt (K : PySem.W.Frag) (mg : Str → Option Value) (x : Str) (st : Stmt) (f : Addr) (fd : FuncData) (ps : List Str) : Prop where
  F : Fun K x x st f fd
  gl : mg x = some (.ref f)
  bd : Binds K fd ps []
theorem DefAt.kp {K : PySem.W.Frag} {mg : Str → Option Value} {x : Str} {st : Stmt} {f : Addr} {fd : FuncData} {ps : List Str} (d : DefAt K mg x st f fd ps) : PySem.W.keepIn K (.ref f) = true := d.F.kp
theorem szle {n : Nat} (h : n ≤ 10000000) : n ≤ sizeLine := Nat.le_trans h (by decide)
theorem szlt {n : Nat} (h : n ≤ 10000000) : n < sizeLine := Nat.lt_of_le_of_lt h (by decide)
section
variable {H : Hp} {S : List Addr} {vs : List V}
theorem Reps.one {d1 : D} (r : Reps H S vs [d1]) : ∃ v1, vs = [v1] := by
  cases r with
  | cons _ r => cases r; exact ⟨_, rfl⟩
theorem Reps.two {d1 d2 : D} (r : Reps H S vs [d1, d2]) : ∃ v1 v2, vs = [v1, v2] := by
  cases r with
  | cons _ r => obtain ⟨_, rfl⟩ := Reps.one r; exact ⟨_, _, rfl⟩
/-- the entry of a def that only reads -/
theorem enter1 {d1 : D} (r : Reps H S vs [d1]) : ∃ v1, vs = [v1] ∧ St H .none .none [(v1, d1)] [] [] H := by
  obtain ⟨v1, rfl⟩ := r.one
  exact ⟨v1, rfl, St.enter r⟩
theorem enter2 {d1 d2 : D} (r : Reps H S vs [d1, d2]) : ∃ v1 v2, vs = [v1, v2] ∧ St H .none .none [(v1, d1), (v2, d2)] [] [] H := by
  obtain ⟨v1, v2, rfl⟩ := r.two
  exact ⟨v1, v2, rfl, St.enter r⟩
end
section
variable {K : PySem.W.Frag} {g : TG} {tb : TS} {De : Ends} {σ : L2.St} {H : Hp}
/-- for over a list of ints: the word speaks of the part that is done -/
theorem for_ints {a : Addr} {ns : List Int} (Pv : List Int → L2.St → Hp → Prop) (h0 : Pv [] σ H) (hl : ∀ pre σ H, Pv pre σ H → H a = some (.lst (ns.map V.int)))
    (hs : ∀ pre n post σ H, ns = pre ++ n :: post → Pv pre σ H → g (.int n) σ H fun σ2 H2 => tb ⟨Pv (pre ++ [n]), De.rt, De.nx, Pv (pre ++ [n])⟩ σ2 H2) (hd : ∀ σ H, Pv ns σ H → De.nx σ H) :
    ∃ W : Nat → Nat → L2.St → Hp → Prop, (∃ m, W 0 m σ H) ∧ ∀ i m σ H, W i m σ H →
      ((Itl K a).stop i H ∧ De.nx σ H) ∨ ((Itl K a).go i H ∧ ∃ N : L2.St → Hp → Prop, (∀ σ' H', N σ' H' → ∃ m', m' < m ∧ W (i + 1) m' σ' H') ∧ ∀ x H', (Itl K a).yld i H x H' → g x σ H' fun σ2 H2 => tb { De with nx := N, ct := N, bk := De.nx } σ2 H2) := by
  refine for_list (K := K) (a := a) (xs := ns.map V.int) (fun i σ H => i ≤ ns.length ∧ Pv (ns.take i) σ H) ⟨Nat.zero_le _, h0⟩ (fun i σ H _ h => SqL.of (hl _ _ _ h.2)) (fun i x σ H e h => ?_) (fun σ H h => ?_)
  · rw [List.getElem?_map] at e
    cases q : ns[i]? with
    | none => rw [q] at e; cases e
    | some n =>
      rw [q] at e
      cases e
      have hi : i < ns.length := (List.getElem?_eq_some_iff.mp q).1
      have en : ns[i] = n := (List.getElem?_eq_some_iff.mp q).2
      have e2 : ns = ns.take i ++ n :: ns.drop (i + 1) := by
        rw [← en, List.getElem_cons_drop, List.take_append_drop]
      have e3 : ns.take (i + 1) = ns.take i ++ [n] := by rw [List.take_add_one, q]; rfl
      have e4 : (fun (σ : L2.St) (H : Hp) => i + 1 ≤ ns.length ∧ Pv (ns.take (i + 1)) σ H) = Pv (ns.take i ++ [n]) := by
        funext σ H
        rw [e3]
        exact propext ⟨fun z => z.2, fun z => ⟨hi, z⟩⟩
      show g (.int n) σ H fun σ2 H2 => tb ⟨fun σ H => i + 1 ≤ ns.length ∧ Pv (ns.take (i + 1)) σ H, De.rt, De.nx, fun σ H => i + 1 ≤ ns.length ∧ Pv (ns.take (i + 1)) σ H⟩ σ2 H2
      rw [e4]
      exact hs _ _ _ _ _ e2 h.2
  · have e : ns.take (ns.map V.int).length = ns := by rw [List.length_map, List.take_length]
    rw [e] at h
    exact hd _ _ h.2
end
section
variable {g : TG} {tt : TT} {te : TE} {ws : List Nat} {σ : L2.St} {H1 : Hp} {Dl : Addr} {Qd : Hp → Prop} {K : PySem.W.Frag}
/-- a comprehension over a list of ints -/
theorem lc_ints {a : Addr} {ns : List Int} (Pv : List Int → Hp → Prop) (h0 : Pv [] (upd H1 Dl (.lst []))) (hl : ∀ pre H, Pv pre H → H a = some (.lst (ns.map V.int)))
    (hs : ∀ pre n post H, ns = pre ++ n :: post → Pv pre H → g (.int n) (wipe σ ws) H fun σ2 H2 => wipe σ2 ws = wipe σ ws ∧ tt σ2 H2 fun b H3 =>
      if b = true then te σ2 H3 fun y H4 => ∃ acc, H4 Dl = some (.lst acc) ∧ acc.length < sizeLine ∧ Pv (pre ++ [n]) (upd H4 Dl (.lst (acc ++ [y]))) else Pv (pre ++ [n]) H3) (hd : ∀ H, Pv ns H → Qd H) :
    ∃ W : Nat → Nat → Hp → Prop, (∃ m, W 0 m (upd H1 Dl (.lst []))) ∧ ∀ i m H, W i m H →
      ((Itl K a).stop i H ∧ Qd H) ∨ ((Itl K a).go i H ∧ ∃ Nx : Hp → Prop, (∀ H', Nx H' → ∃ m', m' < m ∧ W (i + 1) m' H') ∧ ∀ x H', (Itl K a).yld i H x H' → g x (wipe σ ws) H' fun σ2 H2 => wipe σ2 ws = wipe σ ws ∧ tt σ2 H2 fun b H3 =>
        if b = true then te σ2 H3 fun y H4 => ∃ acc, H4 Dl = some (.lst acc) ∧ acc.length < sizeLine ∧ Nx (upd H4 Dl (.lst (acc ++ [y]))) else Nx H3) := by
  refine lc_list (K := K) (a := a) (xs := ns.map V.int) (fun i H => i ≤ ns.length ∧ Pv (ns.take i) H) ⟨Nat.zero_le _, h0⟩ (fun i H _ h => SqL.of (hl _ _ h.2)) (fun i x H e h => ?_) (fun H h => ?_)
  · rw [List.getElem?_map] at e
    cases q : ns[i]? with
    | none => rw [q] at e; cases e
    | some n =>
      rw [q] at e
      cases e
      have hi : i < ns.length := (List.getElem?_eq_some_iff.mp q).1
      have en : ns[i] = n := (List.getElem?_eq_some_iff.mp q).2
      have e2 : ns = ns.take i ++ n :: ns.drop (i + 1) := by
        rw [← en, List.getElem_cons_drop, List.take_append_drop]
      have e3 : ns.take (i + 1) = ns.take i ++ [n] := by rw [List.take_add_one, q]; rfl
      have e4 : (fun (H : Hp) => i + 1 ≤ ns.length ∧ Pv (ns.take (i + 1)) H) = Pv (ns.take i ++ [n]) := by
        funext H
        rw [e3]
        exact propext ⟨fun z => z.2, fun z => ⟨hi, z⟩⟩
      show g (.int n) (wipe σ ws) H fun σ2 H2 => wipe σ2 ws = wipe σ ws ∧ tt σ2 H2 fun b H3 =>
        if b = true then te σ2 H3 fun y H4 => ∃ acc, H4 Dl = some (.lst acc) ∧ acc.length < sizeLine ∧ (fun (H : Hp) => i + 1 ≤ ns.length ∧ Pv (ns.take (i + 1)) H) (upd H4 Dl (.lst (acc ++ [y]))) else (fun (H : Hp) => i + 1 ≤ ns.length ∧ Pv (ns.take (i + 1)) H) H3
      rw [e4]
      exact hs _ _ _ _ e2 h.2
  · have e : ns.take (ns.map V.int).length = ns := by rw [List.length_map, List.take_length]
    rw [e] at h
    exact hd _ h.2
end
theorem cutV_to (xs : List V) (n : Nat) : cutV xs none (some (n : Int)) = xs.take n := by
  unfold cutV
  rw [HT.sIx_none, HT.sIx_nat]
  simp
theorem cutV_from (xs : List V) (n : Nat) : cutV xs (some (n : Int)) none = xs.drop n := by
  unfold cutV
  rw [HT.sIx_none, HT.sIx_nat]
  by_cases h : n ≤ xs.length
  · rw [Nat.min_eq_left h]
    exact List.take_of_length_le (by rw [List.length_drop]; omega)
  · rw [Nat.min_eq_right (by omega), List.drop_of_length_le (Nat.le_refl _), List.drop_of_length_le (by omega)]
    simp
theorem at_nat {xs : List V} {i : Int} {k : Nat} {v : V} (hi : i = (k : Int)) (h : xs[k]? = some v) : atI xs i = some v := by
  subst hi
  exact atI_nat h
theorem ints_at {ns : List Int} {k : Nat} {n : Int} (h : ns[k]? = some n) : (ns.map V.int)[k]? = some (.int n) := by
  rw [List.getElem?_map, h]
  rfl
theorem ints_len {ns : List Int} : (ns.map V.int).length = ns.length := List.length_map ..
/-- the ints a, a + 1, .. below b -/
def rg (a b : Int) : List Int := (List.range (b - a).toNat).map fun i => a + (i : Nat)
theorem rgV_map (a b : Int) : rgV a b = (rg a b).map V.int := by
  unfold rgV rg
  rw [List.map_map]
  rfl
theorem map_erase {α β : Type} (f : α → β) : ∀ (l : List α) (k : Nat), (l.map f).eraseIdx k = (l.eraseIdx k).map f
  | [], _ => rfl
  | _ :: _, 0 => rfl
  | x :: l, k + 1 => by simp [map_erase f l k]
theorem rg_length (a b : Int) : (rg a b).length = (b - a).toNat := by unfold rg; rw [List.length_map, List.length_range]
theorem mem_rg {a b x : Int} : x ∈ rg a b ↔ a ≤ x ∧ x < b := by
  unfold rg
  rw [List.mem_map]
  constructor
  · rintro ⟨i, hi, rfl⟩
    rw [List.mem_range] at hi
    omega
  · rintro ⟨h1, h2⟩
    exact ⟨(x - a).toNat, by rw [List.mem_range]; omega, by omega⟩
theorem dec_eq_int {i j : Int} : decide (V.int i = V.int j) = decide (i = j) := by
  by_cases h : i = j
  · subst h; simp
  · rw [decide_eq_false h, decide_eq_false fun e => h (V.int.inj e)]
theorem iteB {b : Bool} {A B : Prop} (h1 : b = true → A) (h2 : b = false → B) : if b = true then A else B := by
  cases b with
  | true => exact iteT (h1 rfl)
  | false => exact iteF (h2 rfl)
/-- an effect as data -/
abbrev dE (e : Int × List Int) : D := .tuple [.int e.1, dI e.2]
end G
namespace G
open PySem PySem.Spec PyProof.Rows L2
mutual
/-- no less than the signs of the text -/
def wd : D → Nat
  | .none => 4
  | .bool _ => 5
  | .int i => i.natAbs.log2 + 3
  | .str x => (reprText x).length
  | .list ds => wds ds + 3
  | .tuple ds => wds ds + 3
  | .dict _ => 100000000
def wds : List D → Nat
  | [] => 0
  | d :: ds => wd d + 2 + wds ds
end
theorem shownAll_len : ∀ ds : List D, (PyData.shownAll ds).length = ds.length
  | [] => by simp [PyData.shownAll]
  | d :: ds => by simp [PyData.shownAll, shownAll_len ds]
mutual
theorem shown_wd : ∀ d : D, d.hasDict = false → d.shown.length ≤ wd d
  | .none, _ => by
    have e : (PyData.shown .none).length = 4 := rfl
    simp only [wd]
    omega
  | .bool b, _ => by
    have e : (PyData.shown (.bool b)).length ≤ 5 := by cases b <;> decide
    simpa only [wd] using e
  | .int i, _ => by
    have h := int_text_length_le (a := i) (k := i.natAbs.log2 + 1) (by omega) (by omega)
    have e : (PyData.shown (.int i)).length = (toString i).length := by
      show (Str.ofString (toString i)).length = _
      rw [PySem.ofString_length]
    rw [e]
    simp only [wd]
    omega
  | .str x, _ => by simp only [PyData.shown, wd]; exact Nat.le_refl _
  | .list ds, h => by
    have h1 := shownAll_wds ds (by simpa [PyData.hasDict] using h)
    have h2 := listText_len_le (PyData.shownAll ds)
    rw [shownAll_len] at h2
    simp only [PyData.shown, wd]
    omega
  | .tuple ds, h => by
    have h1 := shownAll_wds ds (by simpa [PyData.hasDict] using h)
    have h2 := tupleText_len_le (PyData.shownAll ds)
    rw [shownAll_len] at h2
    simp only [PyData.shown, wd]
    omega
  | .dict _, h => by simp [PyData.hasDict] at h
theorem shownAll_wds : ∀ ds : List D, PyData.hasDictAll ds = false → ((PyData.shownAll ds).map (·.length)).sum + 2 * ds.length ≤ wds ds
  | [], _ => by simp [PyData.shownAll, wds]
  | d :: ds, h => by
    have h' : d.hasDict = false ∧ PyData.hasDictAll ds = false := by simpa [PyData.hasDictAll] using h
    have h1 := shown_wd d h'.1
    have h2 := shownAll_wds ds h'.2
    simp only [PyData.shownAll, wds, List.map_cons, List.sum_cons, List.length_cons]
    omega
end
/-- it may be shown: at most k deep, at most B signs -/
structure Sh (k B : Nat) (d : D) : Prop where
  sh : d.showable = true
  dp : d.depth ≤ k
  wd : wd d ≤ B
theorem Sh.mono {k k' B B' : Nat} {d : D} (h : Sh k B d) (h1 : k ≤ k') (h2 : B ≤ B') : Sh k' B' d := ⟨h.sh, Nat.le_trans h.dp h1, Nat.le_trans h.wd h2⟩
theorem log2_of {n : Nat} (h : n < 2 ^ 200) : n.log2 < 200 := PySem.Flt.log2_lt_of (by decide) h
theorem sh_int {i : Int} (h : i.natAbs < 2 ^ 200) : Sh 1 205 (.int i) := by
  have := log2_of h
  exact ⟨by simp [PyData.showable]; omega, by simp [PyData.depth], by simp [G.wd]; omega⟩
theorem sh_all {k B : Nat} : ∀ {ds : List D}, (∀ d ∈ ds, Sh k B d) → PyData.showableAll ds = true ∧ PyData.depthAll ds ≤ k ∧ wds ds ≤ (B + 2) * ds.length
  | [], _ => ⟨by simp [PyData.showableAll], by simp [PyData.depthAll], by simp [wds]⟩
  | d :: ds, h => by
    have h1 := h d List.mem_cons_self
    obtain ⟨a, b, c⟩ := sh_all fun x m => h x (List.mem_cons_of_mem _ m)
    refine ⟨by simp [PyData.showableAll, h1.sh, a], ?_, ?_⟩
    · have := h1.dp
      simp only [PyData.depthAll]
      omega
    · have := h1.wd
      simp only [wds, List.length_cons]
      rw [Nat.mul_add]
      omega
theorem sh_list {k B n : Nat} {ds : List D} (h : ∀ d ∈ ds, Sh k B d) (hn : ds.length ≤ n) : Sh (k + 1) ((B + 2) * n + 3) (.list ds) := by
  obtain ⟨a, b, c⟩ := sh_all h
  have := Nat.mul_le_mul_left (B + 2) hn
  exact ⟨by simpa [PyData.showable] using a, by simp only [PyData.depth]; omega, by simp only [G.wd]; omega⟩
theorem sh_tuple {k B n : Nat} {ds : List D} (h : ∀ d ∈ ds, Sh k B d) (hn : ds.length ≤ n) : Sh (k + 1) ((B + 2) * n + 3) (.tuple ds) := by
  obtain ⟨a, b, c⟩ := sh_all h
  have := Nat.mul_le_mul_left (B + 2) hn
  exact ⟨by simpa [PyData.showable] using a, by simp only [PyData.depth]; omega, by simp only [G.wd]; omega⟩
theorem sh_ints {n : Nat} {gs : List Int} (h : ∀ x ∈ gs, x.natAbs < 2 ^ 200) (hn : gs.length ≤ n) : Sh 2 (207 * n + 3) (dI gs) := by
  refine sh_list (k := 1) (B := 205) (fun d m => ?_) (by rw [List.length_map]; exact hn)
  obtain ⟨x, hx, rfl⟩ := List.mem_map.mp m
  exact sh_int (h x hx)
/-- an effect of moderate size -/
theorem sh_eff {e : Int × List Int} (h1 : e.1.natAbs < 2 ^ 200) (h : ∀ x ∈ e.2, x.natAbs < 2 ^ 200) (hn : e.2.length ≤ 4000) : Sh 3 1700000 (dE e) := by
  refine (sh_tuple (k := 2) (B := 828003) (n := 2) (fun d m => ?_) (by simp)).mono (by omega) (by omega)
  rcases List.mem_cons.mp m with rfl | m
  · exact (sh_int h1).mono (by omega) (by omega)
  · rcases List.mem_cons.mp m with rfl | m
    · exact (sh_ints h hn).mono (by omega) (by omega)
    · cases m
theorem tyL {K : PySem.W.Frag} {H : Hp} {p : Addr} {xs : List V} (h : H p = some (.lst xs)) : tyV K "list" (.ref p) H := Or.inl ⟨rfl, _, SqL.of h⟩
theorem eqvAll_ints : ∀ xs ys : List Int, PyData.eqvAll (xs.map PyData.int) (ys.map PyData.int) = decide (xs = ys)
  | [], [] => by simp [PyData.eqvAll]
  | [], _ :: _ => by simp [PyData.eqvAll]
  | _ :: _, [] => by simp [PyData.eqvAll]
  | x :: xs, y :: ys => by
    rw [List.map_cons, List.map_cons, PyData.eqvAll, eqvAll_ints xs ys, PyData.eqv]
    by_cases h : x = y
    · subst h
      simp
    · rw [beq_eq_false_iff_ne.mpr h, decide_eq_false (fun e => h (List.cons.inj e).1)]
      rfl
theorem eqv_ints (xs ys : List Int) : PyData.eqv (dI xs) (dI ys) = decide (xs = ys) := by rw [PyData.eqv, eqvAll_ints]
theorem canLay_ints : ∀ xs : List Int, PyData.canLayAll0 (xs.map PyData.int) = true
  | [] => by simp [PyData.canLayAll0]
  | x :: xs => by simp [PyData.canLayAll0, PyData.canLay0, canLay_ints xs]
theorem depth_ints : ∀ xs : List Int, PyData.depthAll (xs.map PyData.int) = 0
  | [] => by simp [PyData.depthAll]
  | x :: xs => by simp [PyData.depthAll, PyData.depth, depth_ints xs]
theorem shaped_ints (xs : List Int) : SeqAt.shaped (dI xs) = true := by
  unfold SeqAt.shaped
  simp [PyData.canLay0, PyData.depth, canLay_ints, depth_ints]
theorem inV_ints (t : Int) (ns : List Int) : inV (.int t) (ns.map V.int) = decide (t ∈ ns) := by
  unfold inV
  rw [List.any_map]
  induction ns with
  | nil => rfl
  | cons n ns ih =>
    rw [List.any_cons, ih]
    by_cases h : t = n
    · subst h
      simp [eqV]
    · have h2 : ¬ n = t := fun e => h e.symm
      simp [eqV, h, h2]
mutual
theorem nd_lay : ∀ d : D, d.canLay0 = true → d.hasDict = false
  | .none, _ => by simp [PyData.hasDict]
  | .bool _, _ => by simp [PyData.hasDict]
  | .int _, _ => by simp [PyData.hasDict]
  | .str _, _ => by simp [PyData.hasDict]
  | .list ds, h => by
    rw [PyData.hasDict]
    exact nd_lays ds (by simpa [PyData.canLay0] using h)
  | .tuple ds, h => by
    rw [PyData.hasDict]
    exact nd_lays ds (by simpa [PyData.canLay0] using h)
  | .dict _, h => by simp [PyData.canLay0] at h
theorem nd_lays : ∀ ds : List D, PyData.canLayAll0 ds = true → PyData.hasDictAll ds = false
  | [], _ => by simp [PyData.hasDictAll]
  | d :: ds, h => by
    have h' : d.canLay0 = true ∧ PyData.canLayAll0 ds = true := by simpa [PyData.canLayAll0] using h
    rw [PyData.hasDictAll, nd_lay d h'.1, nd_lays ds h'.2]
    rfl
end
mutual
theorem nd_wd : ∀ d : D, wd d < 100000000 → d.hasDict = false
  | .none, _ => by simp [PyData.hasDict]
  | .bool _, _ => by simp [PyData.hasDict]
  | .int _, _ => by simp [PyData.hasDict]
  | .str _, _ => by simp [PyData.hasDict]
  | .list ds, h => by
    rw [PyData.hasDict]
    rw [wd] at h
    exact nd_wds ds (by omega)
  | .tuple ds, h => by
    rw [PyData.hasDict]
    rw [wd] at h
    exact nd_wds ds (by omega)
  | .dict _, h => by rw [wd] at h; omega
theorem nd_wds : ∀ ds : List D, wds ds < 100000000 → PyData.hasDictAll ds = false
  | [], _ => by simp [PyData.hasDictAll]
  | d :: ds, h => by
    rw [wds] at h
    rw [PyData.hasDictAll, nd_wd d (by omega), nd_wds ds (by omega)]
    rfl
end
theorem nd_shaped {d : D} (h : SeqAt.shaped d = true) : d.hasDict = false := nd_lay d (SeqAt.canLay_of_shaped h)
end G
namespace G
open PySem PySem.Spec PyProof.Rows L2
def tyN : D → String
  | .none => "NoneType"
  | .bool _ => "bool"
  | .int _ => "int"
  | .str _ => "str"
  | .list _ => "list"
  | .tuple _ => "tuple"
  | .dict _ => "dict"
/-- an instance of a class -/
def isObj : D → Bool
  | .dict [(.tuple _, _)] => true
  | _ => false
theorem tyx {K : PySem.W.Frag} {H : Hp} {S : List Addr} {v : V} {d : D} (r : Rep H S v d) (ho : isObj d = false) : TyX K H v (.type (tyN d)) := by
  cases r with
  | non => exact .base .non
  | bl b => exact .base (.bl b)
  | int i => exact .base (.int i)
  | str x => exact .base (.str x)
  | lst e _ => exact .base (.lst e)
  | tup e _ => exact .base (.tup e)
  | box e _ => cases e with
    | ins _ _ => cases ho
    | dK e _ => exact .base (.dK e)
def isList : D → Bool
  | .list _ => true
  | _ => false
def isTuple : D → Bool
  | .tuple _ => true
  | _ => false
theorem kit_list {K : PySem.W.Frag} : ∀ {H : Hp} {S : List Addr} {v : V} {d : D}, Rep H S v d → PySem.W.kitOne K (.type (tyN d)) (.type "list") = some (isList d) := fun r => by
  cases r with
  | non => exact kit_ty (by decide +kernel)
  | bl b => exact kit_ty (show kitB "bool" "list" = some false by decide +kernel)
  | int i => exact kit_ty (show kitB "int" "list" = some false by decide +kernel)
  | str x => exact kit_ty (show kitB "str" "list" = some false by decide +kernel)
  | lst e _ => exact kit_ty (show kitB "list" "list" = some true by decide +kernel)
  | tup e _ => exact kit_ty (show kitB "tuple" "list" = some false by decide +kernel)
  | box e _ => exact kit_ty (show kitB "dict" "list" = some false by decide +kernel)
theorem kit_tuple {K : PySem.W.Frag} : ∀ {H : Hp} {S : List Addr} {v : V} {d : D}, Rep H S v d → PySem.W.kitOne K (.type (tyN d)) (.type "tuple") = some (isTuple d) := fun r => by
  cases r with
  | non => exact kit_ty (by decide +kernel)
  | bl b => exact kit_ty (show kitB "bool" "tuple" = some false by decide +kernel)
  | int i => exact kit_ty (show kitB "int" "tuple" = some false by decide +kernel)
  | str x => exact kit_ty (show kitB "str" "tuple" = some false by decide +kernel)
  | lst e _ => exact kit_ty (show kitB "list" "tuple" = some false by decide +kernel)
  | tup e _ => exact kit_ty (show kitB "tuple" "tuple" = some true by decide +kernel)
  | box e _ => exact kit_ty (show kitB "dict" "tuple" = some false by decide +kernel)
theorem depth_mem : ∀ {ds : List D} {d : D}, d ∈ ds → d.depth ≤ PyData.depthAll ds
  | x :: ds, d, h => by
    simp only [PyData.depthAll]
    rcases List.mem_cons.mp h with rfl | h
    · omega
    · have := depth_mem h
      omega
theorem wd_mem : ∀ {ds : List D} {d : D}, d ∈ ds → wd d + 2 ≤ wds ds
  | x :: ds, d, h => by
    simp only [wds]
    rcases List.mem_cons.mp h with rfl | h
    · omega
    · have := wd_mem h
      omega
theorem wds_len : ∀ ds : List D, 2 * ds.length ≤ wds ds
  | [] => Nat.zero_le _
  | d :: ds => by
    have := wds_len ds
    simp only [wds, List.length_cons]
    omega
/-- a comprehension over a list of ints whose items are ints: the list of what they become -/
theorem lc_map {K : PySem.W.Frag} {te : TE} {σ : L2.St} {H H0 : Hp} {M : Option Addr} {pu : Option (Addr × Int)} {Fz Ow : List (V × D)} {Tp : List (Addr × List V)} {Dl a : Addr} {ns : List Int} {j : Nat} {Qd : Hp → Prop} (f : Int → Int)
    (hS : St H0 M pu Fz Ow Tp H) (hD : H Dl = none) (hr : ∀ gs : List Int, Rdb Fz ((.ref Dl, dI gs) :: Ow) Tp (.ref a) (dI ns)) (len : ns.length ≤ 1000000)
    (step : ∀ x ∈ ns, ∀ gs H1, St H0 M pu Fz ((.ref Dl, dI gs) :: Ow) Tp H1 → ∀ R : VK, R (.int (f x)) H1 → te ((wipe σ [j]).set j (some (.int x))) H1 R)
    (k : ∀ H', St H0 M pu Fz ((.ref Dl, dI (ns.map f)) :: Ow) Tp H' → Qd H') :
    ∃ W : Nat → Nat → Hp → Prop, (∃ m, W 0 m (upd H Dl (.lst []))) ∧ ∀ i m H, W i m H →
      ((Itl K a).stop i H ∧ Qd H) ∨ ((Itl K a).go i H ∧ ∃ Nx : Hp → Prop, (∀ H', Nx H' → ∃ m', m' < m ∧ W (i + 1) m' H') ∧ ∀ x H', (Itl K a).yld i H x H' → gName j x (wipe σ [j]) H' fun σ2 H2 => wipe σ2 [j] = wipe σ [j] ∧ tYes σ2 H2 fun b H3 =>
        if b = true then te σ2 H3 fun y H4 => ∃ acc, H4 Dl = some (.lst acc) ∧ acc.length < sizeLine ∧ Nx (upd H4 Dl (.lst (acc ++ [y]))) else Nx H3) := by
  refine lc_ints (fun pre H1 => St H0 M pu Fz ((.ref Dl, dI (pre.map f)) :: Ow) Tp H1) (by simpa using hS.mkInts (ns := []) hD) (fun pre H1 h => ?_) (fun pre x post H1 e h => ?_) (fun H1 h => k _ h)
  · obtain ⟨a', e, ha⟩ := h.rints (v := .ref a) (ns := ns) (hr _)
    cases e
    exact ha
  · refine ⟨?_, ?_⟩
    · show ((σ.set j none).set j _).set j none = σ.set j none
      rw [List.set_set, List.set_set]
    · unfold tYes; dsimp only
      rw [if_pos rfl]
      refine step x (by rw [e]; simp) _ _ h _ ?_
      obtain ⟨hD2, kp⟩ := h.putInts
      refine ⟨_, hD2, szlt (by rw [ints_len, List.length_map]; rw [e] at len; simp at len; omega), ?_⟩
      have h4 := kp (pre.map f ++ [f x])
      simpa using h4
/-- all that is owned is frozen -/
theorem St.frz {H0 H : Hp} {M : Option Addr} {pu : Option (Addr × Int)} {Tp : List (Addr × List V)} : ∀ {Ow Fz : List (V × D)}, St H0 M pu Fz Ow Tp H → St H0 M pu (Ow ++ Fz) [] Tp H
  | [], _, h => h
  | (_, _) :: _, _, h => (St.frz h.freeze).fzs fun x hx => by
    rcases List.mem_append.mp hx with hx | hx
    · rcases List.mem_cons.mp hx with rfl | hx
      · exact List.mem_append_right _ List.mem_cons_self
      · exact List.mem_append_left _ hx
    · exact List.mem_append_right _ (List.mem_cons_of_mem _ hx)
end G
namespace G
open PySem PySem.Spec PyProof.Rows L2
theorem Rep.same {H H1 : Hp} {S : List Addr} {v : V} {d : D} (r : Rep H S v d) (sm : Same H H1) : Rep H1 S v d := Rep.mono (fun t vs e => sm _ _ e) _ _ _ r fun a m o e => sm a o e
mutual
def spD : D → Int → D × Int
  | .list ds, k => (.list ((spDs ds k).1 ++ [.int (-((spDs ds k).2 + 1))]), (spDs ds k).2 + 1)
  | .tuple ds, k => (.tuple (spDs ds k).1, (spDs ds k).2)
  | .none, k => (.none, k)
  | .bool b, k => (.bool b, k)
  | .int i, k => (.int i, k)
  | .str x, k => (.str x, k)
  | .dict x, k => (.dict x, k)
def spDs : List D → Int → List D × Int
  | [], k => ([], k)
  | d :: ds, k => ((spD d k).1 :: (spDs ds (spD d k).2).1, (spDs ds (spD d k).2).2)
end
theorem spDs_snoc : ∀ (ds : List D) (d : D) (k : Int), spDs (ds ++ [d]) k = ((spDs ds k).1 ++ [(spD d (spDs ds k).2).1], (spD d (spDs ds k).2).2)
  | [], d, k => by simp [spDs]
  | x :: ds, d, k => by
    rw [List.cons_append, spDs, spDs_snoc ds d]
    simp [spDs]
mutual
/-- how many lists -/
def nl : D → Nat
  | .list ds => nls ds + 1
  | .tuple ds => nls ds
  | _ => 0
def nls : List D → Nat
  | [] => 0
  | d :: ds => nl d + nls ds
end
theorem depthAll_app : ∀ (ds es : List D), PyData.depthAll (ds ++ es) = max (PyData.depthAll ds) (PyData.depthAll es)
  | [], es => by simp [PyData.depthAll]
  | d :: ds, es => by simp only [List.cons_append, PyData.depthAll, depthAll_app ds es]; omega
theorem wds_app : ∀ (ds es : List D), wds (ds ++ es) = wds ds + wds es
  | [], es => by simp [wds]
  | d :: ds, es => by simp only [List.cons_append, wds, wds_app ds es]; omega
theorem showableAll_app : ∀ (ds es : List D), PyData.showableAll (ds ++ es) = (PyData.showableAll ds && PyData.showableAll es)
  | [], es => by simp [PyData.showableAll]
  | d :: ds, es => by simp [PyData.showableAll, showableAll_app ds es, Bool.and_assoc]
theorem int_wd {i : Int} (h : i.natAbs < 2 ^ 20) : wd (.int i) ≤ 22 := by
  have : i.natAbs.log2 < 20 := PySem.Flt.log2_lt_of (by decide) h
  simp only [G.wd]
  omega
theorem nls_ints : ∀ ns : List Int, nls (ns.map PyData.int) = 0
  | [] => rfl
  | n :: ns => by simp only [List.map_cons, nls, nl, nls_ints ns]
/-- the items up to i are spoiled -/
def SpI (H : Hp) (l : Addr) (k : Int) (S : List Addr) (vs : List V) (ds : List D) (i : Nat) (H1 : Hp) : Prop :=
  ∃ S1 S2, S = S1 ++ S2 ∧ Reps H1 S1 (vs.take i) (spDs (ds.take i) k).1 ∧ Reps H1 S2 (vs.drop i) (ds.drop i) ∧ H1 l = some (.lst [.int (spDs (ds.take i) k).2]) ∧ ∀ b o, H b = some o → b ∉ S → b ≠ l → H1 b = some o
theorem SpI.step {H H1 : Hp} {l : Addr} {k : Int} {S : List Addr} {vs : List V} {ds : List D} {i : Nat} {x : V} {di : D} (nd : S.Nodup) (nl : l ∉ S) (h : SpI H l k S vs ds i H1) (hx : vs[i]? = some x) (hd : ds[i]? = some di) :
    ∃ Sx, Rep H1 Sx x di ∧ Sx.Nodup ∧ l ∉ Sx ∧ H1 l = some (.lst [.int (spDs (ds.take i) k).2]) ∧ ∀ H2, (∀ b o, H1 b = some o → b ∉ Sx → b ≠ l → H2 b = some o) → Rep H2 Sx x (spD di (spDs (ds.take i) k).2).1 → H2 l = some (.lst [.int (spD di (spDs (ds.take i) k).2).2]) → SpI H l k S vs ds (i + 1) H2 := by
  obtain ⟨S1, S2, rfl, h1, h2, h3, h4⟩ := h
  have hi := (List.getElem?_eq_some_iff.mp hx).1
  have ex := (List.getElem?_eq_some_iff.mp hx).2
  have hj := (List.getElem?_eq_some_iff.mp hd).1
  have ed := (List.getElem?_eq_some_iff.mp hd).2
  rw [List.drop_eq_getElem_cons hi, List.drop_eq_getElem_cons hj, ex, ed] at h2
  cases h2 with
  | @cons Sx S3 _ _ _ _ r1 r2 =>
    have n1 := List.nodup_append.mp nd
    have n2 := List.nodup_append.mp n1.2.1
    refine ⟨Sx, r1, n2.1, fun m => nl (List.mem_append_right _ (List.mem_append_left _ m)), h3, fun H2 fr rx hl2 => ?_⟩
    have nt : ∀ t xs, H1 t = some (.tup xs) → H2 t = some (.tup xs) := fun t xs e => fr t _ e (fun m => by
      obtain ⟨ys, e2, e3⟩ := Rep.domN _ _ _ r1 t m
      rw [e] at e2
      cases e2
      exact e3) (fun z => by
      rw [z, h3] at e
      cases e)
    refine ⟨S1 ++ Sx, S3, by rw [List.append_assoc], ?_, ?_, ?_, fun b o e m1 m2 => fr b o (h4 b o e m1 m2) (fun m => m1 (List.mem_append_right _ (List.mem_append_left _ m))) m2⟩
    · have q := Reps.append (Reps.mono nt _ _ _ h1 fun a m o e => fr a o e (fun m2 => n1.2.2 a m a (List.mem_append_left _ m2) rfl) (fun z => nl (z ▸ List.mem_append_left _ m))) (Reps.cons rx .nil)
      rw [List.append_nil] at q
      have e1 : vs.take (i + 1) = vs.take i ++ [x] := by rw [List.take_add_one, hx]; rfl
      have e2 : ds.take (i + 1) = ds.take i ++ [di] := by rw [List.take_add_one, hd]; rfl
      rw [e1, e2, spDs_snoc]
      exact q
    · exact Reps.mono nt _ _ _ r2 fun a m o e => fr a o e (fun m2 => n2.2.2 a m2 a m rfl) (fun z => nl (z ▸ List.mem_append_right _ (List.mem_append_right _ m)))
    · have e2 : ds.take (i + 1) = ds.take i ++ [di] := by rw [List.take_add_one, hd]; rfl
      rw [e2, spDs_snoc]
      exact hl2
theorem Rdb.up {Fz Ow : List (V × D)} {Tp : List (Addr × List V)} {v : V} {d : D} (x : V × D) (r : Rdb Fz Ow Tp v d) : Rdb Fz (x :: Ow) Tp v d := by
  induction r with
  | non => exact .non
  | bl b => exact .bl b
  | int i => exact .int i
  | str x => exact .str x
  | fz m => exact .fz m
  | ow m => exact .ow (List.mem_cons_of_mem _ m)
  | tp0 m => exact .tp0 m
  | tp1 m _ h1 => exact .tp1 m h1
  | tp2 m _ _ h1 h2 => exact .tp2 m h1 h2
  | tp3 m _ _ _ h1 h2 h3 => exact .tp3 m h1 h2 h3
theorem Rdb.mono {Fz Fz' Ow Ow' : List (V × D)} {Tp Tp' : List (Addr × List V)} {v : V} {d : D} (hF : ∀ x ∈ Fz, x ∈ Fz') (hO : ∀ x ∈ Ow, x ∈ Ow') (hT : ∀ x ∈ Tp, x ∈ Tp') (r : Rdb Fz Ow Tp v d) : Rdb Fz' Ow' Tp' v d := by
  induction r with
  | non => exact .non
  | bl b => exact .bl b
  | int i => exact .int i
  | str x => exact .str x
  | fz m => exact .fz (hF _ m)
  | ow m => exact .ow (hO _ m)
  | tp0 m => exact .tp0 (hT _ m)
  | tp1 m _ h1 => exact .tp1 (hT _ m) h1
  | tp2 m _ _ h1 h2 => exact .tp2 (hT _ m) h1 h2
  | tp3 m _ _ _ h1 h2 h3 => exact .tp3 (hT _ m) h1 h2 h3
theorem Rdb.upT {Fz Ow : List (V × D)} {Tp : List (Addr × List V)} {v : V} {d : D} {x : Addr × List V} (r : Rdb Fz Ow Tp v d) : Rdb Fz Ow (x :: Tp) v d := r.mono (fun _ h => h) (fun _ h => h) fun _ h => List.mem_cons_of_mem _ h
theorem Rdb.upF {Fz Ow : List (V × D)} {Tp : List (Addr × List V)} {v : V} {d : D} {x : V × D} (r : Rdb Fz Ow Tp v d) : Rdb (x :: Fz) Ow Tp v d := r.mono (fun _ h => List.mem_cons_of_mem _ h) (fun _ h => h) fun _ h => h
theorem Rdb.upO {Fz Ow : List (V × D)} {Tp : List (Addr × List V)} {v : V} {d : D} {x : V × D} (r : Rdb Fz Ow Tp v d) : Rdb Fz (x :: Ow) Tp v d := r.up x
/-- a fresh list of two things that are readable -/
theorem St.two {H0 H : Hp} {M : Option Addr} {pu : Option (Addr × Int)} {Fz Ow : List (V × D)} {Tp : List (Addr × List V)} {v1 v2 : V} {d1 d2 : D} {L : Addr} (h : St H0 M pu Fz Ow Tp H) (hL : H L = Option.none) (r1 : Rdb Fz Ow Tp v1 d1) (r2 : Rdb Fz Ow Tp v2 d2) :
    St H0 M pu Fz Ow Tp (upd H L (.lst [v1, v2])) ∧ ∃ T, Rep (upd H L (.lst [v1, v2])) T (.ref L) (.list [d1, d2]) := by
  have h1 := h.same (same_upd (o := .lst [v1, v2]) hL)
  obtain ⟨T1, p1, _⟩ := h1.rd r1
  obtain ⟨T2, p2, _⟩ := h1.rd r2
  exact ⟨h1, _, .lst upd_same (.cons p1 (.cons p2 .nil))⟩
end G
namespace G
open PySem PySem.Spec PyProof.Rows L2
abbrev Reg := Addr → Prop
abbrev noReg : Reg := fun _ => False
mutual
inductive Tr (H : Hp) (Z : Reg) : List Addr → V → D → Prop
  | non : Tr H Z [] .non .none
  | bl (b : Bool) : Tr H Z [] (.bl b) (.bool b)
  | int (i : Int) : Tr H Z [] (.int i) (.int i)
  | str (x : Str) : Tr H Z [] (.str x) (.str x)
  | lst {a : Addr} {vs : List V} {S : List Addr} {ds : List D} : H a = some (.lst vs) → Trs H Z S vs ds → Tr H Z (a :: S) (.ref a) (.list ds)
  | lstZ {a : Addr} {vs : List V} {ds : List D} : Z a → H a = some (.lst vs) → Trs H Z [] vs ds → Tr H Z [] (.ref a) (.list ds)
  | tup {a : Addr} {vs : List V} {S : List Addr} {ds : List D} : H a = some (.tup vs) → Trs H Z S vs ds → Tr H Z S (.ref a) (.tuple ds)
  | box {a : Addr} {t : D} {vs : List V} {S : List Addr} {ds : List D} : Bx H a t vs → Trs H Z S vs ds → Tr H Z (a :: S) (.ref a) (.dict [(t, .list ds)])
  | boxZ {a : Addr} {t : D} {vs : List V} {ds : List D} : Z a → Bx H a t vs → Trs H Z [] vs ds → Tr H Z [] (.ref a) (.dict [(t, .list ds)])
inductive Trs (H : Hp) (Z : Reg) : List Addr → List V → List D → Prop
  | nil : Trs H Z [] [] []
  | cons {S T : List Addr} {v : V} {vs : List V} {d : D} {ds : List D} : Tr H Z S v d → Trs H Z T vs ds → Trs H Z (S ++ T) (v :: vs) (d :: ds)
end
section
variable {H H' : Hp} {Z Z' : Reg}
mutual
theorem Tr.mono (ht : ∀ t vs, H t = some (.tup vs) → H' t = some (.tup vs)) (hz : ∀ a, Z a → Z' a) (kz : ∀ a, Z a → ∀ o, H a = some o → H' a = some o) : ∀ (d : D) (S : List Addr) (v : V), Tr H Z S v d → (∀ a ∈ S, ∀ o, H a = some o → H' a = some o) → Tr H' Z' S v d
  | .none, _, _, h, _ => by cases h; exact .non
  | .bool b, _, _, h, _ => by cases h; exact .bl b
  | .int i, _, _, h, _ => by cases h; exact .int i
  | .str x, _, _, h, _ => by cases h; exact .str x
  | .list ds, _, _, h, k => by
    cases h with
    | lst h1 h2 => exact .lst (k _ List.mem_cons_self _ h1) (Trs.mono ht hz kz ds _ _ h2 fun a ha => k a (List.mem_cons_of_mem _ ha))
    | lstZ h0 h1 h2 => exact .lstZ (hz _ h0) (kz _ h0 _ h1) (Trs.mono ht hz kz ds _ _ h2 fun a ha => nomatch ha)
  | .tuple ds, _, _, h, k => by
    cases h with
    | tup h1 h2 => exact .tup (ht _ _ h1) (Trs.mono ht hz kz ds _ _ h2 k)
  | .dict _, _, _, h, k => by
    cases h with
    | box h1 h2 => exact .box (h1.mono (k _ List.mem_cons_self)) (Trs.mono ht hz kz _ _ _ h2 fun a ha => k a (List.mem_cons_of_mem _ ha))
    | boxZ h0 h1 h2 => exact .boxZ (hz _ h0) (h1.mono (kz _ h0)) (Trs.mono ht hz kz _ _ _ h2 fun a ha => nomatch ha)
theorem Trs.mono (ht : ∀ t vs, H t = some (.tup vs) → H' t = some (.tup vs)) (hz : ∀ a, Z a → Z' a) (kz : ∀ a, Z a → ∀ o, H a = some o → H' a = some o) : ∀ (ds : List D) (S : List Addr) (vs : List V), Trs H Z S vs ds → (∀ a ∈ S, ∀ o, H a = some o → H' a = some o) → Trs H' Z' S vs ds
  | [], _, _, h, _ => by cases h; exact .nil
  | d :: ds, _, _, h, k => by
    cases h with
    | cons h1 h2 => exact .cons (Tr.mono ht hz kz d _ _ h1 fun a ha => k a (List.mem_append_left _ ha)) (Trs.mono ht hz kz ds _ _ h2 fun a ha => k a (List.mem_append_right _ ha))
end
mutual
/-- all is in a greater region -/
theorem Tr.freeze (hz : ∀ a, Z a → Z' a) : ∀ (d : D) (S : List Addr) (v : V), Tr H Z S v d → (∀ a ∈ S, Z' a) → Tr H Z' [] v d
  | .none, _, _, h, _ => by cases h; exact .non
  | .bool b, _, _, h, _ => by cases h; exact .bl b
  | .int i, _, _, h, _ => by cases h; exact .int i
  | .str x, _, _, h, _ => by cases h; exact .str x
  | .list ds, _, _, h, k => by
    cases h with
    | lst h1 h2 => exact .lstZ (k _ List.mem_cons_self) h1 (Trs.freeze hz ds _ _ h2 fun a ha => k a (List.mem_cons_of_mem _ ha))
    | lstZ h0 h1 h2 => exact .lstZ (hz _ h0) h1 (Trs.freeze hz ds _ _ h2 fun a ha => nomatch ha)
  | .tuple ds, _, _, h, k => by
    cases h with
    | tup h1 h2 => exact .tup h1 (Trs.freeze hz ds _ _ h2 k)
  | .dict _, _, _, h, k => by
    cases h with
    | box h1 h2 => exact .boxZ (k _ List.mem_cons_self) h1 (Trs.freeze hz _ _ _ h2 fun a ha => k a (List.mem_cons_of_mem _ ha))
    | boxZ h0 h1 h2 => exact .boxZ (hz _ h0) h1 (Trs.freeze hz _ _ _ h2 fun a ha => nomatch ha)
theorem Trs.freeze (hz : ∀ a, Z a → Z' a) : ∀ (ds : List D) (S : List Addr) (vs : List V), Trs H Z S vs ds → (∀ a ∈ S, Z' a) → Trs H Z' [] vs ds
  | [], _, _, h, _ => by cases h; exact .nil
  | d :: ds, _, _, h, k => by
    cases h with
    | cons h1 h2 => exact .cons (S := []) (Tr.freeze hz d _ _ h1 fun a ha => k a (List.mem_append_left _ ha)) (Trs.freeze hz ds _ _ h2 fun a ha => k a (List.mem_append_right _ ha))
end
mutual
/-- read as a tree -/
theorem Tr.rep : ∀ (d : D) (S : List Addr) (v : V), Tr H Z S v d → ∃ T, Rep H T v d ∧ ∀ a ∈ T, a ∈ S ∨ Z a
  | .none, _, _, h => by cases h; exact ⟨_, .non, fun _ z => nomatch z⟩
  | .bool b, _, _, h => by cases h; exact ⟨_, .bl b, fun _ z => nomatch z⟩
  | .int i, _, _, h => by cases h; exact ⟨_, .int i, fun _ z => nomatch z⟩
  | .str x, _, _, h => by cases h; exact ⟨_, .str x, fun _ z => nomatch z⟩
  | .list ds, _, _, h => by
    cases h with
    | lst h1 h2 =>
      obtain ⟨T, r, k⟩ := Trs.rep ds _ _ h2
      refine ⟨_, .lst h1 r, fun a m => ?_⟩
      rcases List.mem_cons.mp m with rfl | m
      · exact .inl List.mem_cons_self
      · exact (k a m).imp (List.mem_cons_of_mem _) id
    | lstZ h0 h1 h2 =>
      obtain ⟨T, r, k⟩ := Trs.rep ds _ _ h2
      refine ⟨_, .lst h1 r, fun a m => ?_⟩
      rcases List.mem_cons.mp m with rfl | m
      · exact .inr h0
      · exact k a m
  | .tuple ds, _, _, h => by
    cases h with
    | tup h1 h2 =>
      obtain ⟨T, r, k⟩ := Trs.rep ds _ _ h2
      exact ⟨_, .tup h1 r, k⟩
  | .dict _, _, _, h => by
    cases h with
    | box h1 h2 =>
      obtain ⟨T, r, k⟩ := Trs.rep _ _ _ h2
      refine ⟨_, .box h1 r, fun a m => ?_⟩
      rcases List.mem_cons.mp m with rfl | m
      · exact .inl List.mem_cons_self
      · exact (k a m).imp (List.mem_cons_of_mem _) id
    | boxZ h0 h1 h2 =>
      obtain ⟨T, r, k⟩ := Trs.rep _ _ _ h2
      refine ⟨_, .box h1 r, fun a m => ?_⟩
      rcases List.mem_cons.mp m with rfl | m
      · exact .inr h0
      · exact k a m
theorem Trs.rep : ∀ (ds : List D) (S : List Addr) (vs : List V), Trs H Z S vs ds → ∃ T, Reps H T vs ds ∧ ∀ a ∈ T, a ∈ S ∨ Z a
  | [], _, _, h => by cases h; exact ⟨_, .nil, fun _ z => nomatch z⟩
  | d :: ds, _, _, h => by
    cases h with
    | cons h1 h2 =>
      obtain ⟨T1, r1, k1⟩ := Tr.rep d _ _ h1
      obtain ⟨T2, r2, k2⟩ := Trs.rep ds _ _ h2
      refine ⟨_, .cons r1 r2, fun a m => ?_⟩
      rcases List.mem_append.mp m with m | m
      · exact (k1 a m).imp (List.mem_append_left _) id
      · exact (k2 a m).imp (List.mem_append_right _) id
end
mutual
/-- a tree that is owned as a whole -/
theorem Tr.repO : ∀ (d : D) (S : List Addr) (v : V), Tr H noReg S v d → Rep H S v d
  | .none, _, _, h => by cases h; exact .non
  | .bool b, _, _, h => by cases h; exact .bl b
  | .int i, _, _, h => by cases h; exact .int i
  | .str x, _, _, h => by cases h; exact .str x
  | .list ds, _, _, h => by
    cases h with
    | lst h1 h2 => exact .lst h1 (Trs.repO ds _ _ h2)
    | lstZ h0 h1 h2 => exact h0.elim
  | .tuple ds, _, _, h => by
    cases h with
    | tup h1 h2 => exact .tup h1 (Trs.repO ds _ _ h2)
  | .dict _, _, _, h => by
    cases h with
    | box h1 h2 => exact .box h1 (Trs.repO _ _ _ h2)
    | boxZ h0 h1 h2 => exact h0.elim
theorem Trs.repO : ∀ (ds : List D) (S : List Addr) (vs : List V), Trs H noReg S vs ds → Reps H S vs ds
  | [], _, _, h => by cases h; exact .nil
  | d :: ds, _, _, h => by
    cases h with
    | cons h1 h2 => exact .cons (Tr.repO d _ _ h1) (Trs.repO ds _ _ h2)
end
mutual
theorem Rep.tr : ∀ (d : D) (S : List Addr) (v : V), Rep H S v d → Tr H Z S v d
  | .none, _, _, h => by cases h; exact .non
  | .bool b, _, _, h => by cases h; exact .bl b
  | .int i, _, _, h => by cases h; exact .int i
  | .str x, _, _, h => by cases h; exact .str x
  | .list ds, _, _, h => by
    cases h with
    | lst h1 h2 => exact .lst h1 (Reps.tr ds _ _ h2)
  | .tuple ds, _, _, h => by
    cases h with
    | tup h1 h2 => exact .tup h1 (Reps.tr ds _ _ h2)
  | .dict _, _, _, h => by
    cases h with
    | box h1 h2 => exact .box h1 (Reps.tr _ _ _ h2)
theorem Reps.tr : ∀ (ds : List D) (S : List Addr) (vs : List V), Reps H S vs ds → Trs H Z S vs ds
  | [], _, _, h => by cases h; exact .nil
  | d :: ds, _, _, h => by
    cases h with
    | cons h1 h2 => exact .cons (Rep.tr d _ _ h1) (Reps.tr ds _ _ h2)
end
mutual
theorem Tr.domN : ∀ (d : D) (S : List Addr) (v : V), Tr H Z S v d → ∀ a ∈ S, ∃ o, H a = some o ∧ NT o
  | .none, _, _, h => by cases h; intro a z; cases z
  | .bool b, _, _, h => by cases h; intro a z; cases z
  | .int i, _, _, h => by cases h; intro a z; cases z
  | .str x, _, _, h => by cases h; intro a z; cases z
  | .list ds, _, _, h => by
    cases h with
    | lst h1 h2 =>
      intro a z
      rcases List.mem_cons.mp z with rfl | z
      · exact ⟨_, h1, True.intro⟩
      · exact Trs.domN ds _ _ h2 a z
    | lstZ _ _ _ => intro a z; cases z
  | .tuple ds, _, _, h => by
    cases h with
    | tup h1 h2 => exact Trs.domN ds _ _ h2
  | .dict _, _, _, h => by
    cases h with
    | box h1 h2 =>
      intro a z
      rcases List.mem_cons.mp z with rfl | z
      · exact h1.dom
      · exact Trs.domN _ _ _ h2 a z
    | boxZ _ _ _ => intro a z; cases z
theorem Trs.domN : ∀ (ds : List D) (S : List Addr) (vs : List V), Trs H Z S vs ds → ∀ a ∈ S, ∃ o, H a = some o ∧ NT o
  | [], _, _, h => by cases h; intro a z; cases z
  | d :: ds, _, _, h => by
    cases h with
    | cons h1 h2 =>
      intro a z
      rcases List.mem_append.mp z with z | z
      · exact Tr.domN d _ _ h1 a z
      · exact Trs.domN ds _ _ h2 a z
end
theorem Tr.dom (d : D) (S : List Addr) (v : V) (h : Tr H Z S v d) : ∀ a ∈ S, ∃ o, H a = some o := fun a m => let ⟨o, e, _⟩ := Tr.domN d S v h a m; ⟨o, e⟩
theorem Trs.dom (ds : List D) (S : List Addr) (vs : List V) (h : Trs H Z S vs ds) : ∀ a ∈ S, ∃ o, H a = some o := fun a m => let ⟨o, e, _⟩ := Trs.domN ds S vs h a m; ⟨o, e⟩
mutual
theorem Tr.nolist : ∀ (d : D) (S : List Addr) (v : V), Tr H Z S v d → G.nolist d = true → S = [] ∧ Tr H Z' [] v d
  | .none, _, _, h, _ => by cases h; exact ⟨rfl, .non⟩
  | .bool b, _, _, h, _ => by cases h; exact ⟨rfl, .bl b⟩
  | .int i, _, _, h, _ => by cases h; exact ⟨rfl, .int i⟩
  | .str x, _, _, h, _ => by cases h; exact ⟨rfl, .str x⟩
  | .list ds, _, _, _, e => by simp [G.nolist] at e
  | .tuple ds, _, _, h, e => by
    cases h with
    | tup h1 h2 =>
      have := Trs.nolist ds _ _ h2 (by simpa [G.nolist] using e)
      exact ⟨this.1, .tup h1 this.2⟩
  | .dict _, _, _, _, e => by simp [G.nolist] at e
theorem Trs.nolist : ∀ (ds : List D) (S : List Addr) (vs : List V), Trs H Z S vs ds → nolists ds = true → S = [] ∧ Trs H Z' [] vs ds
  | [], _, _, h, _ => by cases h; exact ⟨rfl, .nil⟩
  | d :: ds, _, _, h, e => by
    cases h with
    | cons h1 h2 =>
      rw [nolists, Bool.and_eq_true] at e
      have a := Tr.nolist d _ _ h1 e.1
      have b := Trs.nolist ds _ _ h2 e.2
      obtain ⟨rfl, a⟩ := a
      obtain ⟨rfl, b⟩ := b
      exact ⟨rfl, .cons (S := []) a b⟩
end
theorem Trs.length : ∀ {ds : List D} {S : List Addr} {vs : List V}, Trs H Z S vs ds → vs.length = ds.length
  | [], _, _, h => by cases h; rfl
  | d :: ds, _, _, h => by
    cases h with
    | cons h1 h2 => simp [Trs.length h2]
theorem Trs.append : ∀ {ds es : List D} {S T : List Addr} {vs us : List V}, Trs H Z S vs ds → Trs H Z T us es → Trs H Z (S ++ T) (vs ++ us) (ds ++ es)
  | [], _, _, _, _, _, h, k => by cases h; exact k
  | d :: ds, _, _, _, _, _, h, k => by
    cases h with
    | cons h1 h2 =>
      have q := Trs.cons h1 (Trs.append h2 k)
      rw [← List.append_assoc] at q
      exact q
/-- one item, and the others -/
theorem Trs.at : ∀ {ds : List D} {S : List Addr} {vs : List V} {i : Nat} {d : D}, Trs H Z S vs ds → ds[i]? = some d → ∃ v T R, vs[i]? = some v ∧ Tr H Z T v d ∧ S.Perm (T ++ R) ∧ (∃ R', Trs H Z R' (vs.eraseIdx i) (ds.eraseIdx i) ∧ R'.Perm R) ∧
    ∀ (H' : Hp) T' v' d', (∀ t vs, H t = some (.tup vs) → H' t = some (.tup vs)) → (∀ a, Z a → ∀ o, H a = some o → H' a = some o) → (∀ a ∈ R, ∀ o, H a = some o → H' a = some o) → Tr H' Z T' v' d' → ∃ S', Trs H' Z S' (vs.set i v') (ds.set i d') ∧ S'.Perm (T' ++ R)
  | [], _, _, _, _, _, e => by simp at e
  | d :: ds, _, _, 0, _, h, e => by
    cases h with
    | @cons S T _ _ _ _ h1 h2 =>
      simp at e
      subst e
      refine ⟨_, _, _, rfl, h1, .refl _, ⟨_, h2, .refl _⟩, fun H' T' v' d' ht kz kr t => ⟨_, .cons t (Trs.mono ht (fun _ z => z) kz _ _ _ h2 kr), .refl _⟩⟩
  | d :: ds, _, _, i + 1, _, h, e => by
    cases h with
    | @cons S T _ _ _ _ h1 h2 =>
      obtain ⟨v, T1, R, e1, t, pm, ⟨R', q1, q2⟩, k⟩ := Trs.at (i := i) h2 (by simpa using e)
      have pm2 : (S ++ T).Perm (T1 ++ (S ++ R)) := by
        refine (List.Perm.append_left S pm).trans ?_
        rw [← List.append_assoc, ← List.append_assoc]
        exact List.Perm.append_right R List.perm_append_comm
      refine ⟨v, T1, S ++ R, by simpa using e1, t, pm2, ⟨_, .cons h1 q1, List.Perm.append_left _ q2⟩, fun H' T' v' d' ht kz kr t' => ?_⟩
      obtain ⟨S', q, p'⟩ := k H' T' v' d' ht kz (fun a m => kr a (List.mem_append_right _ m)) t'
      refine ⟨_, .cons (Tr.mono ht (fun _ z => z) kz _ _ _ h1 fun a m => kr a (List.mem_append_left _ m)) q, ?_⟩
      refine (List.Perm.append_left S p').trans ?_
      rw [← List.append_assoc, ← List.append_assoc]
      exact List.Perm.append_right R List.perm_append_comm
theorem Trs.get {ds : List D} {S : List Addr} {vs : List V} {i : Nat} {d : D} {v : V} (h : Trs H Z S vs ds) (e : ds[i]? = some d) (ev : vs[i]? = some v) : ∃ T R, Tr H Z T v d ∧ S.Perm (T ++ R) := by
  obtain ⟨v', T, R, e1, t, pm, _⟩ := h.at e
  rw [ev] at e1
  cases e1
  exact ⟨T, R, t, pm⟩
theorem Trs.intsR : ∀ (ns : List Int), Trs H Z [] (ns.map V.int) (ns.map PyData.int)
  | [] => .nil
  | n :: ns => .cons (S := []) (.int n) (Trs.intsR ns)
end
inductive Sl where
  | jk
  | fz (d : D)
  | ow (b : Bool) (d : D)
  | al (i : Nat) (π : List Nat)
  | pu
  | io (d : D)
  | dc (m : List (Key × D))
  | dt (m : List (List Key × D))
  | sh (d : D)
  | xv (a dd : Addr) (d : D)
  | ho (ds : List D) (i : Nat)
  | xw (a dd : Addr)
  | ob (q : Bool) (C0 : Addr) (fs : List (Str × Bool × D))
structure VSt where
  sl : List Sl
  tm : List Sl
  n : Int
structure Cn where
  H0 : Hp
  M : Reg
  pu : Option (Addr × Int)
  ok : ∀ p b, pu = some (p, b) → b ≤ 2 ^ 100
  iov : Option V := none
  Fr : Reg := noReg
abbrev Cn.tz (C : Cn) (Z : Reg) : Reg := fun a => Z a ∨ C.Fr a
/-- what stands in a dict: frozen trees -/
inductive DVs {κ : Type} (H : Hp) (Z : Reg) : List (κ × V) → List (κ × D) → Prop
  | nil : DVs H Z [] []
  | cons {k : κ} {v : V} {d : D} {kvs : List (κ × V)} {m : List (κ × D)} : Tr H Z [] v d → DVs H Z kvs m → DVs H Z ((k, v) :: kvs) ((k, d) :: m)
theorem DVs.mono {κ : Type} {H H' : Hp} {Z Z' : Reg} (ht : ∀ t vs, H t = some (.tup vs) → H' t = some (.tup vs)) (hz : ∀ a, Z a → Z' a) (kz : ∀ a, Z a → ∀ o, H a = some o → H' a = some o) {kvs : List (κ × V)} {m : List (κ × D)} (h : DVs H Z kvs m) : DVs H' Z' kvs m := by
  induction h with
  | nil => exact .nil
  | cons t _ ih => exact .cons (Tr.mono ht hz kz _ _ _ t fun a m => nomatch m) ih
/-- the fields of an instance: frozen trees, and owned lists of frozen things -/
inductive Fs (H : Hp) (Z : Reg) : List Addr → List V → List (Str × Bool × D) → Prop
  | nil : Fs H Z [] [] []
  | fz {v : V} {d : D} {f : Str} {S : List Addr} {vs : List V} {fs : List (Str × Bool × D)} : Tr H Z [] v d → Fs H Z S vs fs → Fs H Z S (v :: vs) ((f, false, d) :: fs)
  | ol {l : Addr} {ls : List V} {ds : List D} {f : Str} {S : List Addr} {vs : List V} {fs : List (Str × Bool × D)} : H l = some (.lst ls) → Trs H Z [] ls ds → Fs H Z S vs fs → Fs H Z (l :: S) (.ref l :: vs) ((f, true, .list ds) :: fs)
def obT (C0 : Addr) (fs : List (Str × Bool × D)) : D := .tuple (.int C0 :: (fs.map (·.1)).map PyData.str)
def obD (C0 : Addr) (fs : List (Str × Bool × D)) : D := .dict [(obT C0 fs, .list (fs.map fun x => x.2.2))]
theorem Fs.mono {H H' : Hp} {Z Z' : Reg} (ht : ∀ t vs, H t = some (.tup vs) → H' t = some (.tup vs)) (hz : ∀ a, Z a → Z' a) (kz : ∀ a, Z a → ∀ o, H a = some o → H' a = some o) : ∀ {fs : List (Str × Bool × D)} {S : List Addr} {vs : List V}, Fs H Z S vs fs → (∀ a ∈ S, ∀ o, H a = some o → H' a = some o) → Fs H' Z' S vs fs
  | _, _, _, .nil, _ => .nil
  | _, _, _, .fz t h, k => .fz (Tr.mono ht hz kz _ _ _ t fun _ m => nomatch m) (Fs.mono ht hz kz h k)
  | _, _, _, .ol e t h, k => .ol (k _ List.mem_cons_self _ e) (Trs.mono ht hz kz _ _ _ t fun _ m => nomatch m) (Fs.mono ht hz kz h fun a m => k a (List.mem_cons_of_mem _ m))
theorem Fs.dom {H : Hp} {Z : Reg} : ∀ {fs : List (Str × Bool × D)} {S : List Addr} {vs : List V}, Fs H Z S vs fs → ∀ a ∈ S, ∃ o, H a = some o ∧ NT o
  | _, _, _, .nil, _, m => nomatch m
  | _, _, _, .fz _ h, a, m => Fs.dom h a m
  | _, _, _, .ol e _ h, a, m => by
    rcases List.mem_cons.mp m with rfl | m
    · exact ⟨_, e, True.intro⟩
    · exact Fs.dom h a m
theorem Fs.trs {H : Hp} {Z : Reg} : ∀ {fs : List (Str × Bool × D)} {S : List Addr} {vs : List V}, Fs H Z S vs fs → Trs H Z S vs (fs.map fun x => x.2.2)
  | _, _, _, .nil => .nil
  | _, _, _, .fz t h => .cons (S := []) t (Fs.trs h)
  | _, _, _, .ol (l := l) e t h => .cons (S := [l]) (.lst e t) (Fs.trs h)
theorem Fs.length {H : Hp} {Z : Reg} : ∀ {fs : List (Str × Bool × D)} {S : List Addr} {vs : List V}, Fs H Z S vs fs → vs.length = fs.length
  | _, _, _, .nil => rfl
  | _, _, _, .fz _ h => by rw [List.length_cons, List.length_cons, Fs.length h]
  | _, _, _, .ol _ _ h => by rw [List.length_cons, List.length_cons, Fs.length h]
inductive Ent (C : Cn) (Z : Reg) (H : Hp) : List Addr → Option V → Sl → Prop
  | jk (v : Option V) : Ent C Z H [] v .jk
  | fz {v : V} {d : D} : Tr H Z [] v d → Ent C Z H [] (some v) (.fz d)
  | ow {v : V} {d : D} {S : List Addr} : Tr H noReg S v d → Ent C Z H S (some v) (.ow true d)
  | sp {a : Addr} {vs : List V} {ds : List D} {S : List Addr} : H a = some (.lst vs) → Trs H Z S vs ds → Ent C Z H (a :: S) (some (.ref a)) (.ow false (.list ds))
  | al (v : V) (i : Nat) (π : List Nat) : Ent C Z H [] (some v) (.al i π)
  | pu {p : Addr} {b : Int} : C.pu = some (p, b) → Ent C Z H [] (some (.ref p)) .pu
  | io {v : V} {d : D} {S : List Addr} : Tr H noReg S v d → C.iov = some v → Ent C Z H S (some v) (.io d)
  | dc {a : Addr} {kvs : List (Key × V)} {m : List (Key × D)} : H a = some (.dK kvs) → DVs H Z kvs m → Ent C Z H [a] (some (.ref a)) (.dc m)
  | dt {a : Addr} {kvs : List (List Key × V)} {m : List (List Key × D)} : H a = some (.dT kvs) → DVs H Z kvs m → Ent C Z H [a] (some (.ref a)) (.dt m)
  | sh {a : Addr} {v : V} {S : List Addr} {d : D} : H a = some (.tup [v, v, v]) → Tr H noReg S v d → Ent C Z H S (some (.ref a)) (.sh d)
  | xv {a dd : Addr} {w : V} {S : List Addr} {d : D} : H dd = some (.xd [("value", w)]) → Tr H noReg S w d → Ent C Z H (dd :: S) (some (.ref a)) (.xv a dd d)
  | ho {a : Addr} {vs : List V} {S : List Addr} {ds : List D} {i : Nat} : H a = some (.lst vs) → vs.length = ds.length → Trs H noReg S (vs.eraseIdx i) (ds.eraseIdx i) → Ent C Z H (a :: S) (some (.ref a)) (.ho ds i)
  | xw {a dd : Addr} {fs : List (Str × V)} : H dd = some (.xd fs) → Ent C Z H [dd] (some (.ref a)) (.xw a dd)
  | ob {q : Bool} {a C0 : Addr} {S : List Addr} {vs : List V} {fs : List (Str × Bool × D)} : Bx H a (obT C0 fs) vs → Fs H Z S vs fs → (q = true → C.iov = some (.ref a)) → Ent C Z H (a :: S) (some (.ref a)) (.ob q C0 fs)
inductive Ents (C : Cn) (Z : Reg) (H : Hp) : List Addr → List (Option V) → List Sl → Prop
  | nil : Ents C Z H [] [] []
  | cons {S T : List Addr} {v : Option V} {vs : List (Option V)} {s : Sl} {ss : List Sl} : Ent C Z H S v s → Ents C Z H T vs ss → Ents C Z H (S ++ T) (v :: vs) (s :: ss)
section
variable {C : Cn} {Z Z' : Reg} {H H' : Hp}
theorem Ent.mono {S : List Addr} {v : Option V} {s : Sl} (h : Ent C Z H S v s) (ht : ∀ t vs, H t = some (.tup vs) → H' t = some (.tup vs)) (hz : ∀ a, Z a → Z' a) (kz : ∀ a, Z a → ∀ o, H a = some o → H' a = some o) (ks : ∀ a ∈ S, ∀ o, H a = some o → H' a = some o) : Ent C Z' H' S v s := by
  cases h with
  | jk v => exact .jk v
  | fz t => exact .fz (Tr.mono ht hz kz _ _ _ t ks)
  | ow t => exact .ow (Tr.mono ht (fun _ z => z) (fun _ z => z.elim) _ _ _ t ks)
  | sp e t => exact .sp (ks _ List.mem_cons_self _ e) (Trs.mono ht hz kz _ _ _ t fun a m => ks a (List.mem_cons_of_mem _ m))
  | al v i π => exact .al v i π
  | pu e => exact .pu e
  | io t e => exact .io (Tr.mono ht (fun _ z => z) (fun _ z => z.elim) _ _ _ t ks) e
  | dc e t => exact .dc (ks _ List.mem_cons_self _ e) (t.mono ht hz kz)
  | dt e t => exact .dt (ks _ List.mem_cons_self _ e) (t.mono ht hz kz)
  | sh e t => exact .sh (ht _ _ e) (Tr.mono ht (fun _ z => z) (fun _ z => z.elim) _ _ _ t ks)
  | xv e t => exact .xv (ks _ List.mem_cons_self _ e) (Tr.mono ht (fun _ z => z) (fun _ z => z.elim) _ _ _ t fun a m => ks a (List.mem_cons_of_mem _ m))
  | xw e => exact .xw (ks _ List.mem_cons_self _ e)
  | ob b f q => exact .ob (b.mono (ks _ List.mem_cons_self)) (f.mono ht hz kz fun a m => ks a (List.mem_cons_of_mem _ m)) q
  | ho e l t => exact .ho (ks _ List.mem_cons_self _ e) l (Trs.mono ht (fun _ z => z) (fun _ z => z.elim) _ _ _ t fun a m => ks a (List.mem_cons_of_mem _ m))
theorem Ent.dom {S : List Addr} {v : Option V} {s : Sl} (h : Ent C Z H S v s) : ∀ a ∈ S, ∃ o, H a = some o := by
  have go : ∀ {T : List Addr}, (∀ a ∈ T, ∃ o, H a = some o) → ∀ a ∈ T, ∃ o, H a = some o := fun k => k
  cases h with
  | jk v => intro a m; cases m
  | fz t => exact go (Tr.dom _ _ _ t)
  | ow t => exact go (Tr.dom _ _ _ t)
  | sp e t =>
    intro a m
    rcases List.mem_cons.mp m with rfl | m
    · exact ⟨_, e⟩
    · exact go (Trs.dom _ _ _ t) a m
  | al v i π => intro a m; cases m
  | pu e => intro a m; cases m
  | io t _ => exact go (Tr.dom _ _ _ t)
  | dc e _ => intro a m; cases List.mem_singleton.mp m; exact ⟨_, e⟩
  | dt e _ => intro a m; cases List.mem_singleton.mp m; exact ⟨_, e⟩
  | sh e t => exact go (Tr.dom _ _ _ t)
  | xv e t =>
    intro a m
    rcases List.mem_cons.mp m with rfl | m
    · exact ⟨_, e⟩
    · exact go (Tr.dom _ _ _ t) a m
  | xw e => intro a m; cases List.mem_singleton.mp m; exact ⟨_, e⟩
  | ob b f q =>
    intro a m
    rcases List.mem_cons.mp m with rfl | m
    · obtain ⟨o, e, _⟩ := b.dom
      exact ⟨o, e⟩
    · obtain ⟨o, e, _⟩ := f.dom a m
      exact ⟨o, e⟩
  | ho e _ t =>
    intro a m
    rcases List.mem_cons.mp m with rfl | m
    · exact ⟨_, e⟩
    · exact go (Trs.dom _ _ _ t) a m
/-- a dict with keys that are numbers or texts, as a tree -/
abbrev dictD (m : List (Key × D)) : D := .dict [(.list (m.map fun kv => dOf kv.1), .list (m.map fun kv => kv.2))]
theorem DVs.box {a : Addr} {kvs : List (Key × V)} {m : List (Key × D)} (e : H a = some (.dK kvs)) (h : DVs H Z kvs m) : Tr H Z [a] (.ref a) (dictD m) := by
  have hk : kvs.map (·.1) = m.map (·.1) := by
    clear e
    induction h with
    | nil => rfl
    | cons _ _ ih => simp [ih]
  have ht : Trs H Z [] (kvs.map (·.2)) (m.map (·.2)) := by
    clear e hk
    induction h with
    | nil => exact .nil
    | cons t _ ih => exact .cons (S := []) t ih
  have ez : (m.map (·.1)).zip (kvs.map (·.2)) = kvs := by
    rw [← hk]
    clear e h hk ht
    induction kvs with
    | nil => rfl
    | cons x xs ih => simp [ih]
  have b : Bx H a (.list ((m.map (·.1)).map dOf)) (kvs.map (·.2)) := .dK (by rw [ez]; exact e) (by rw [← hk]; simp)
  have := Tr.box (Z := Z) b ht
  rw [List.map_map] at this
  exact this
/-- its data -/
def datS : Sl → Option D
  | .dc m => some (dictD m)
  | .fz d => some d
  | .ow _ d => some d
  | .io d => some d
  | .sh d => some (.tuple [d, d, d])
  | .ob _ C0 fs => some (obD C0 fs)
  | _ => none
theorem Ent.tr {S : List Addr} {v : Option V} {s : Sl} {d : D} (h : Ent C Z H S v s) (e : datS s = some d) : ∃ w T, v = some w ∧ Tr H Z T w d ∧ ∀ a ∈ T, a ∈ S := by
  cases h with
  | jk v => cases e
  | fz t => cases e; exact ⟨_, _, rfl, t, fun _ m => m⟩
  | ow t => cases e; exact ⟨_, _, rfl, Tr.mono (fun _ _ h => h) (fun _ z => z.elim) (fun _ z => z.elim) _ _ _ t fun _ _ _ h => h, fun _ m => m⟩
  | sp h1 t => cases e; exact ⟨_, _, rfl, .lst h1 t, fun _ m => m⟩
  | al v i π => cases e
  | pu e' => cases e
  | io t _ => cases e; exact ⟨_, _, rfl, Tr.mono (fun _ _ h => h) (fun _ z => z.elim) (fun _ z => z.elim) _ _ _ t fun _ _ _ h => h, fun _ m => m⟩
  | dc h1 t => cases e; exact ⟨_, _, rfl, t.box h1, fun _ m => m⟩
  | dt _ _ => cases e
  | xv _ _ => cases e
  | ho _ _ _ => cases e
  | xw _ => cases e
  | ob b f q => cases e; exact ⟨_, _, rfl, .box b f.trs, fun _ m => m⟩
  | @sh a v S d h1 t =>
    cases e
    have t' : Tr H Z S v d := Tr.mono (fun _ _ h => h) (fun _ z => z.elim) (fun _ z => z.elim) _ _ _ t fun _ _ _ h => h
    refine ⟨_, _, rfl, .tup h1 (.cons t' (.cons t' (.cons t' .nil))), fun x m => ?_⟩
    simpa using m
theorem Ent.trO {S : List Addr} {v : Option V} {b : Bool} {d : D} (h : Ent C Z H S v (.ow b d)) : ∃ w, v = some w ∧ Tr H Z S w d := by
  cases h with
  | ow t => exact ⟨_, rfl, Tr.mono (fun _ _ h => h) (fun _ z => z.elim) (fun _ z => z.elim) _ _ _ t fun _ _ _ h => h⟩
  | sp h1 t => exact ⟨_, rfl, .lst h1 t⟩
theorem Ents.mono : ∀ {S : List Addr} {vs : List (Option V)} {ss : List Sl}, Ents C Z H S vs ss → (∀ t vs, H t = some (.tup vs) → H' t = some (.tup vs)) → (∀ a, Z a → Z' a) → (∀ a, Z a → ∀ o, H a = some o → H' a = some o) → (∀ a ∈ S, ∀ o, H a = some o → H' a = some o) → Ents C Z' H' S vs ss
  | _, _, _, .nil, _, _, _, _ => .nil
  | _, _, _, .cons h1 h2, ht, hz, kz, ks => .cons (h1.mono ht hz kz fun a m => ks a (List.mem_append_left _ m)) (h2.mono ht hz kz fun a m => ks a (List.mem_append_right _ m))
theorem Ents.dom : ∀ {S : List Addr} {vs : List (Option V)} {ss : List Sl}, Ents C Z H S vs ss → ∀ a ∈ S, ∃ o, H a = some o
  | _, _, _, .nil => fun a m => nomatch m
  | _, _, _, .cons h1 h2 => fun a m => (List.mem_append.mp m).elim (h1.dom a) (h2.dom a)
theorem Ents.length : ∀ {S : List Addr} {vs : List (Option V)} {ss : List Sl}, Ents C Z H S vs ss → vs.length = ss.length
  | _, _, _, .nil => rfl
  | _, _, _, .cons h1 h2 => by simp [h2.length]
/-- one of them, and the others -/
theorem Ents.at : ∀ {ss : List Sl} {S : List Addr} {vs : List (Option V)} {i : Nat} {s : Sl}, Ents C Z H S vs ss → ss[i]? = some s → ∃ v T R, vs[i]? = some v ∧ Ent C Z H T v s ∧ S.Perm (T ++ R) ∧
    ∀ (H' : Hp) (Z' : Reg) T' v' s', (∀ t vs, H t = some (.tup vs) → H' t = some (.tup vs)) → (∀ a, Z a → Z' a) → (∀ a, Z a → ∀ o, H a = some o → H' a = some o) → (∀ a ∈ R, ∀ o, H a = some o → H' a = some o) → Ent C Z' H' T' v' s' → ∃ S', Ents C Z' H' S' (vs.set i v') (ss.set i s') ∧ S'.Perm (T' ++ R)
  | [], _, _, _, _, _, e => by simp at e
  | s :: ss, _, _, 0, _, h, e => by
    cases h with
    | @cons S T _ _ _ _ h1 h2 =>
      simp at e
      subst e
      exact ⟨_, _, _, rfl, h1, .refl _, fun H' Z' T' v' s' ht hz kz kr t => ⟨_, .cons t (h2.mono ht hz kz kr), .refl _⟩⟩
  | s :: ss, _, _, i + 1, _, h, e => by
    cases h with
    | @cons S T _ _ _ _ h1 h2 =>
      obtain ⟨v, T1, R, e1, t, pm, k⟩ := Ents.at (i := i) h2 (by simpa using e)
      have pm2 : (S ++ T).Perm (T1 ++ (S ++ R)) := by
        refine (List.Perm.append_left S pm).trans ?_
        rw [← List.append_assoc, ← List.append_assoc]
        exact List.Perm.append_right R List.perm_append_comm
      refine ⟨v, T1, S ++ R, by simpa using e1, t, pm2, fun H' Z' T' v' s' ht hz kz kr t' => ?_⟩
      obtain ⟨S', q, p'⟩ := k H' Z' T' v' s' ht hz kz (fun a m => kr a (List.mem_append_right _ m)) t'
      refine ⟨_, .cons (h1.mono ht hz kz fun a m => kr a (List.mem_append_left _ m)) q, ?_⟩
      refine (List.Perm.append_left S p').trans ?_
      rw [← List.append_assoc, ← List.append_assoc]
      exact List.Perm.append_right R List.perm_append_comm
end
def atP : D → List Nat → Option D
  | d, [] => some d
  | .list ds, k :: π => (ds[k]?).bind fun d => atP d π
  | .tuple ds, k :: π => (ds[k]?).bind fun d => atP d π
  | .dict [(_, .list ds)], k :: π => (ds[k]?).bind fun d => atP d π
  | _, _ :: _ => none
inductive Wk (H : Hp) : V → List Nat → V → Prop
  | nil (v : V) : Wk H v [] v
  | lst {a : Addr} {vs : List V} {k : Nat} {π : List Nat} {u w : V} : H a = some (.lst vs) → vs[k]? = some u → Wk H u π w → Wk H (.ref a) (k :: π) w
  | tup {a : Addr} {vs : List V} {k : Nat} {π : List Nat} {u w : V} : H a = some (.tup vs) → vs[k]? = some u → Wk H u π w → Wk H (.ref a) (k :: π) w
  | box {a : Addr} {t : D} {vs : List V} {k : Nat} {π : List Nat} {u w : V} : Bx H a t vs → vs[k]? = some u → Wk H u π w → Wk H (.ref a) (k :: π) w
section
variable {H H' : Hp} {Z : Reg}
theorem Bx.nl {a : Addr} {t : D} {vs us : List V} (h : Bx H a t vs) (e : H a = some (.lst us)) : False := by
  cases h with
  | ins q _ => rw [e] at q; cases q
  | dK q _ => rw [e] at q; cases q
theorem Bx.nt {a : Addr} {t : D} {vs us : List V} (h : Bx H a t vs) (e : H a = some (.tup us)) : False := by
  cases h with
  | ins q _ => rw [e] at q; cases q
  | dK q _ => rw [e] at q; cases q
theorem atP_dict {kvs : List (D × D)} {j : Nat} {π : List Nat} {x : D} (h : atP (.dict kvs) (j :: π) = some x) : ∃ t es, kvs = [(t, .list es)] ∧ ((es[j]?).bind fun d => atP d π) = some x := by
  cases kvs with
  | nil => simp [atP] at h
  | cons p r =>
    obtain ⟨t, d⟩ := p
    cases r with
    | nil =>
      cases d with
      | list es => exact ⟨t, es, rfl, by simpa only [atP] using h⟩
      | none => simp [atP] at h
      | bool _ => simp [atP] at h
      | int _ => simp [atP] at h
      | str _ => simp [atP] at h
      | tuple _ => simp [atP] at h
      | dict _ => simp [atP] at h
    | cons q r => cases d <;> simp [atP] at h
theorem Wk.snoc {v w : V} {π : List Nat} (h : Wk H v π w) {a : Addr} {vs : List V} {k : Nat} {u : V} (e : w = .ref a) (ha : H a = some (.lst vs) ∨ H a = some (.tup vs)) (hk : vs[k]? = some u) : Wk H v (π ++ [k]) u := by
  induction h with
  | nil v =>
    subst e
    rcases ha with ha | ha
    · exact .lst ha hk (.nil _)
    · exact .tup ha hk (.nil _)
  | lst h1 h2 _ ih => exact .lst h1 h2 (ih e)
  | tup h1 h2 _ ih => exact .tup h1 h2 (ih e)
  | box h1 h2 _ ih => exact .box h1 h2 (ih e)
theorem atP_snoc : ∀ (π : List Nat) (d e : D) (ds : List D) (k : Nat) (x : D), atP d π = some e → (e = .list ds ∨ e = .tuple ds ∨ ∃ t, e = .dict [(t, .list ds)]) → ds[k]? = some x → atP d (π ++ [k]) = some x
  | [], d, e, ds, k, x, h, he, hk => by
    simp only [atP, Option.some.injEq] at h
    subst h
    rcases he with rfl | rfl | ⟨t, rfl⟩ <;> simp [atP, hk]
  | j :: π, .list es, e, ds, k, x, h, he, hk => by
    simp only [atP, List.cons_append] at h ⊢
    cases q : es[j]? with
    | none => rw [q] at h; cases h
    | some y =>
      rw [q] at h
      exact atP_snoc π y e ds k x h he hk
  | j :: π, .tuple es, e, ds, k, x, h, he, hk => by
    simp only [atP, List.cons_append] at h ⊢
    cases q : es[j]? with
    | none => rw [q] at h; cases h
    | some y =>
      rw [q] at h
      exact atP_snoc π y e ds k x h he hk
  | j :: π, .none, e, ds, k, x, h, he, hk => by simp [atP] at h
  | j :: π, .bool _, e, ds, k, x, h, he, hk => by simp [atP] at h
  | j :: π, .int _, e, ds, k, x, h, he, hk => by simp [atP] at h
  | j :: π, .str _, e, ds, k, x, h, he, hk => by simp [atP] at h
  | j :: π, .dict _, e, ds, k, x, h, he, hk => by
    obtain ⟨t, es, rfl, h'⟩ := atP_dict h
    simp only [atP, List.cons_append]
    cases q : es[j]? with
    | none => rw [q] at h'; cases h'
    | some y =>
      rw [q] at h'
      exact atP_snoc π y e ds k x h' he hk
/-- a part of a tree: it is walked to, and stays where the tree stays -/
theorem Tr.part : ∀ {π : List Nat} {d e : D} {S : List Addr} {v w : V}, Tr H Z S v d → atP d π = some e → Wk H v π w → (∃ T, Tr H Z T w e ∧ ∀ a ∈ T, a ∈ S) ∧
    ∀ H' : Hp, (∀ t vs, H t = some (.tup vs) → H' t = some (.tup vs)) → (∀ a, Z a ∨ a ∈ S → ∀ o, H a = some o → H' a = some o) → Wk H' v π w
  | [], d, e, S, v, w, h, he, hw => by
    simp only [atP, Option.some.injEq] at he
    subst he
    cases hw
    exact ⟨⟨S, h, fun _ m => m⟩, fun _ _ _ => .nil _⟩
  | k :: π, d, e, S, v, w, h, he, hw => by
    cases hw with
    | @lst a vs _ _ u _ h1 h2 h3 =>
      cases h with
      | @lst _ vs' S' ds g1 g2 =>
        rw [h1] at g1
        cases g1
        simp only [atP] at he
        cases q : ds[k]? with
        | none => rw [q] at he; cases he
        | some y =>
          rw [q] at he
          obtain ⟨T, R, t, pm⟩ := g2.get q h2
          obtain ⟨⟨T', t', s'⟩, kp⟩ := Tr.part (π := π) t he h3
          have sub : ∀ a ∈ T, a ∈ a :: S' → True := fun _ _ _ => trivial
          refine ⟨⟨T', t', fun b m => List.mem_cons_of_mem _ (pm.mem_iff.mpr (List.mem_append_left _ (s' b m)))⟩, fun H' ht kk => .lst (kk _ (.inr List.mem_cons_self) _ h1) h2 (kp H' ht fun b hb => kk b ?_)⟩
          rcases hb with hb | hb
          · exact .inl hb
          · exact .inr (List.mem_cons_of_mem _ (pm.mem_iff.mpr (List.mem_append_left _ hb)))
      | @lstZ _ vs' ds g0 g1 g2 =>
        rw [h1] at g1
        cases g1
        simp only [atP] at he
        cases q : ds[k]? with
        | none => rw [q] at he; cases he
        | some y =>
          rw [q] at he
          obtain ⟨T, R, t, pm⟩ := g2.get q h2
          obtain ⟨⟨T', t', s'⟩, kp⟩ := Tr.part (π := π) t he h3
          refine ⟨⟨T', t', fun b m => pm.mem_iff.mpr (List.mem_append_left _ (s' b m))⟩, fun H' ht kk => .lst (kk _ (.inl g0) _ h1) h2 (kp H' ht fun b hb => kk b ?_)⟩
          rcases hb with hb | hb
          · exact .inl hb
          · exact .inr (pm.mem_iff.mpr (List.mem_append_left _ hb))
      | tup g1 g2 => rw [h1] at g1; cases g1
      | box g1 g2 => exact (g1.nl h1).elim
      | boxZ g0 g1 g2 => exact (g1.nl h1).elim
    | @tup a vs _ _ u _ h1 h2 h3 =>
      cases h with
      | lst g1 g2 => rw [h1] at g1; cases g1
      | lstZ g0 g1 g2 => rw [h1] at g1; cases g1
      | box g1 g2 => exact (g1.nt h1).elim
      | boxZ g0 g1 g2 => exact (g1.nt h1).elim
      | @tup _ vs' S' ds g1 g2 =>
        rw [h1] at g1
        cases g1
        simp only [atP] at he
        cases q : ds[k]? with
        | none => rw [q] at he; cases he
        | some y =>
          rw [q] at he
          obtain ⟨T, R, t, pm⟩ := g2.get q h2
          obtain ⟨⟨T', t', s'⟩, kp⟩ := Tr.part (π := π) t he h3
          refine ⟨⟨T', t', fun b m => pm.mem_iff.mpr (List.mem_append_left _ (s' b m))⟩, fun H' ht kk => .tup (ht _ _ h1) h2 (kp H' ht fun b hb => kk b ?_)⟩
          rcases hb with hb | hb
          · exact .inl hb
          · exact .inr (pm.mem_iff.mpr (List.mem_append_left _ hb))
    | @box a t1 vs _ _ u _ h1 h2 h3 =>
      cases h with
      | lst g1 g2 => exact (h1.nl g1).elim
      | lstZ g0 g1 g2 => exact (h1.nl g1).elim
      | tup g1 g2 => exact (h1.nt g1).elim
      | @box _ t0 vs' S' ds g1 g2 =>
        obtain ⟨rfl, rfl⟩ := h1.uniq g1
        simp only [atP] at he
        cases q : ds[k]? with
        | none => rw [q] at he; cases he
        | some y =>
          rw [q] at he
          obtain ⟨T, R, t, pm⟩ := g2.get q h2
          obtain ⟨⟨T', t', s'⟩, kp⟩ := Tr.part (π := π) t he h3
          refine ⟨⟨T', t', fun b m => List.mem_cons_of_mem _ (pm.mem_iff.mpr (List.mem_append_left _ (s' b m)))⟩, fun H' ht kk => .box (h1.mono (kk _ (.inr List.mem_cons_self))) h2 (kp H' ht fun b hb => kk b ?_)⟩
          rcases hb with hb | hb
          · exact .inl hb
          · exact .inr (List.mem_cons_of_mem _ (pm.mem_iff.mpr (List.mem_append_left _ hb)))
      | @boxZ _ t0 vs' ds g0 g1 g2 =>
        obtain ⟨rfl, rfl⟩ := h1.uniq g1
        simp only [atP] at he
        cases q : ds[k]? with
        | none => rw [q] at he; cases he
        | some y =>
          rw [q] at he
          obtain ⟨T, R, t, pm⟩ := g2.get q h2
          obtain ⟨⟨T', t', s'⟩, kp⟩ := Tr.part (π := π) t he h3
          refine ⟨⟨T', t', fun b m => pm.mem_iff.mpr (List.mem_append_left _ (s' b m))⟩, fun H' ht kk => .box (h1.mono (kk _ (.inl g0))) h2 (kp H' ht fun b hb => kk b ?_)⟩
          rcases hb with hb | hb
          · exact .inl hb
          · exact .inr (pm.mem_iff.mpr (List.mem_append_left _ hb))
/-- a part exchanged -/
def setP : D → List Nat → D → D
  | _, [], x => x
  | .list ds, k :: π, x => .list (ds.set k ((ds[k]?).elim .none fun d => setP d π x))
  | .tuple ds, k :: π, x => .tuple (ds.set k ((ds[k]?).elim .none fun d => setP d π x))
  | .dict [(t, .list ds)], k :: π, x => .dict [(t, .list (ds.set k ((ds[k]?).elim .none fun d => setP d π x)))]
  | d, _ :: _, _ => d
/-- an owned tree: the list at a part is written -/
theorem Tr.put : ∀ {π : List Nat} {d : D} {es : List D} {S : List Addr} {v w : V}, Tr H noReg S v d → atP d π = some (.list es) → Wk H v π w → ∃ a vs T R, w = .ref a ∧ H a = some (.lst vs) ∧ Trs H noReg T vs es ∧ S.Perm (a :: T ++ R) ∧
    ∀ us ds' T', (S.Nodup) → Trs (upd H a (.lst us)) noReg T' us ds' → ∃ S', Tr (upd H a (.lst us)) noReg S' v (setP d π (.list ds')) ∧ S'.Perm (a :: T' ++ R)
  | [], d, es, S, v, w, h, he, hw => by
    simp only [atP, Option.some.injEq] at he
    subst he
    cases hw
    cases h with
    | @lst a vs S' _ g1 g2 => exact ⟨a, vs, S', [], rfl, g1, g2, by simp, fun us ds' T' _ t => ⟨a :: T', .lst upd_same t, by simp⟩⟩
    | lstZ g0 _ _ => exact g0.elim
  | k :: π, d, es, S, v, w, h, he, hw => by
    cases hw with
    | @lst a vs _ _ u _ h1 h2 h3 =>
      cases h with
      | @lst _ vs' S' ds g1 g2 =>
        rw [h1] at g1
        cases g1
        simp only [atP] at he
        cases q : ds[k]? with
        | none => rw [q] at he; cases he
        | some y =>
          rw [q] at he
          obtain ⟨u', T, R, eu, t, pm, _, kk⟩ := g2.at q
          rw [h2] at eu
          cases eu
          obtain ⟨b, ws, T1, R1, ew, hb, tb, pm1, kp⟩ := Tr.put (π := π) t he h3
          have bS : b ∈ S' := pm.mem_iff.mpr (List.mem_append_left _ (pm1.mem_iff.mpr (by simp)))
          refine ⟨b, ws, T1, a :: (R1 ++ R), ew, hb, tb, ?_, fun us ds' T' nd t' => ?_⟩
          · refine (List.Perm.cons a (pm.trans (List.Perm.append_right R pm1))).trans ?_
            have : (b :: T1 ++ R1 ++ R) = (b :: T1) ++ (R1 ++ R) := by simp
            rw [this]
            exact List.perm_middle.symm
          · have nd' := List.nodup_cons.mp nd
            have ndS := pm.nodup_iff.mp nd'.2
            have ndA := List.nodup_append.mp ndS
            obtain ⟨S2, t2, p2⟩ := kp us ds' T' ndA.1 t'
            have nba : a ≠ b := fun z => nd'.1 (z ▸ bS)
            have bT : b ∈ T := pm1.mem_iff.mpr (by simp)
            have kt : ∀ t xs, H t = some (.tup xs) → upd H b (.lst us) t = some (.tup xs) := fun t xs et => by
              rw [upd_ne (show t ≠ b from fun z => by rw [z, hb] at et; cases et)]
              exact et
            obtain ⟨S3, t3, p3⟩ := kk (upd H b (.lst us)) S2 u (setP y π (.list ds')) kt (fun _ z => z.elim) (fun c m o eo => by
              rw [upd_ne (show c ≠ b from fun z => ndA.2.2 b bT c m z.symm)]
              exact eo) t2
            have eset : vs.set k u = vs := by
              refine List.ext_getElem? fun j => ?_
              by_cases hj : k = j
              · subst hj
                rw [List.getElem?_set_self (List.getElem?_eq_some_iff.mp h2).1, h2]
              · rw [List.getElem?_set_ne hj]
            rw [eset] at t3
            refine ⟨a :: S3, ?_, ?_⟩
            · rw [setP, q]
              exact .lst (by rw [upd_ne nba]; exact h1) t3
            · refine (List.Perm.cons a (p3.trans (List.Perm.append_right R p2))).trans ?_
              have : (b :: T' ++ R1 ++ R) = (b :: T') ++ (R1 ++ R) := by simp
              rw [this]
              exact List.perm_middle.symm
      | lstZ g0 _ _ => exact g0.elim
      | tup g1 g2 => rw [h1] at g1; cases g1
      | box g1 g2 => exact (g1.nl h1).elim
      | boxZ g0 _ _ => exact g0.elim
    | @tup a vs _ _ u _ h1 h2 h3 =>
      cases h with
      | lst g1 g2 => rw [h1] at g1; cases g1
      | lstZ g0 g1 g2 => rw [h1] at g1; cases g1
      | box g1 g2 => exact (g1.nt h1).elim
      | boxZ g0 _ _ => exact g0.elim
      | @tup _ vs' S' ds g1 g2 =>
        rw [h1] at g1
        cases g1
        simp only [atP] at he
        cases q : ds[k]? with
        | none => rw [q] at he; cases he
        | some y =>
          rw [q] at he
          obtain ⟨u', T, R, eu, t, pm, _, kk⟩ := g2.at q
          rw [h2] at eu
          cases eu
          obtain ⟨b, ws, T1, R1, ew, hb, tb, pm1, kp⟩ := Tr.put (π := π) t he h3
          refine ⟨b, ws, T1, R1 ++ R, ew, hb, tb, ?_, fun us ds' T' nd t' => ?_⟩
          · refine (pm.trans (List.Perm.append_right R pm1)).trans ?_
            simp
          · have ndS := pm.nodup_iff.mp nd
            have ndA := List.nodup_append.mp ndS
            obtain ⟨S2, t2, p2⟩ := kp us ds' T' ndA.1 t'
            have bT : b ∈ T := pm1.mem_iff.mpr (by simp)
            have kt : ∀ t xs, H t = some (.tup xs) → upd H b (.lst us) t = some (.tup xs) := fun t xs et => by
              rw [upd_ne (show t ≠ b from fun z => by rw [z, hb] at et; cases et)]
              exact et
            obtain ⟨S3, t3, p3⟩ := kk (upd H b (.lst us)) S2 u (setP y π (.list ds')) kt (fun _ z => z.elim) (fun c m o eo => by
              rw [upd_ne (show c ≠ b from fun z => ndA.2.2 b bT c m z.symm)]
              exact eo) t2
            have eset : vs.set k u = vs := by
              refine List.ext_getElem? fun j => ?_
              by_cases hj : k = j
              · subst hj
                rw [List.getElem?_set_self (List.getElem?_eq_some_iff.mp h2).1, h2]
              · rw [List.getElem?_set_ne hj]
            rw [eset] at t3
            refine ⟨S3, ?_, ?_⟩
            · rw [setP, q]
              exact .tup (kt _ _ h1) t3
            · refine (p3.trans (List.Perm.append_right R p2)).trans ?_
              simp
    | @box a t1 vs _ _ u _ h1 h2 h3 =>
      cases h with
      | lst g1 g2 => exact (h1.nl g1).elim
      | lstZ g0 g1 g2 => exact g0.elim
      | tup g1 g2 => exact (h1.nt g1).elim
      | boxZ g0 _ _ => exact g0.elim
      | @box _ t0 vs' S' ds g1 g2 =>
        obtain ⟨rfl, rfl⟩ := h1.uniq g1
        simp only [atP] at he
        cases q : ds[k]? with
        | none => rw [q] at he; cases he
        | some y =>
          rw [q] at he
          obtain ⟨u', T, R, eu, t, pm, _, kk⟩ := g2.at q
          rw [h2] at eu
          cases eu
          obtain ⟨b, ws, T1, R1, ew, hb, tb, pm1, kp⟩ := Tr.put (π := π) t he h3
          have bS : b ∈ S' := pm.mem_iff.mpr (List.mem_append_left _ (pm1.mem_iff.mpr (by simp)))
          refine ⟨b, ws, T1, a :: (R1 ++ R), ew, hb, tb, ?_, fun us ds' T' nd t' => ?_⟩
          · refine (List.Perm.cons a (pm.trans (List.Perm.append_right R pm1))).trans ?_
            have : (b :: T1 ++ R1 ++ R) = (b :: T1) ++ (R1 ++ R) := by simp
            rw [this]
            exact List.perm_middle.symm
          · have nd' := List.nodup_cons.mp nd
            have ndS := pm.nodup_iff.mp nd'.2
            have ndA := List.nodup_append.mp ndS
            obtain ⟨S2, t2, p2⟩ := kp us ds' T' ndA.1 t'
            have nba : a ≠ b := fun z => nd'.1 (z ▸ bS)
            have bT : b ∈ T := pm1.mem_iff.mpr (by simp)
            have kt : ∀ t xs, H t = some (.tup xs) → upd H b (.lst us) t = some (.tup xs) := fun t xs et => by
              rw [upd_ne (show t ≠ b from fun z => by rw [z, hb] at et; cases et)]
              exact et
            obtain ⟨S3, t3, p3⟩ := kk (upd H b (.lst us)) S2 u (setP y π (.list ds')) kt (fun _ z => z.elim) (fun c m o eo => by
              rw [upd_ne (show c ≠ b from fun z => ndA.2.2 b bT c m z.symm)]
              exact eo) t2
            have eset : vs.set k u = vs := by
              refine List.ext_getElem? fun j => ?_
              by_cases hj : k = j
              · subst hj
                rw [List.getElem?_set_self (List.getElem?_eq_some_iff.mp h2).1, h2]
              · rw [List.getElem?_set_ne hj]
            rw [eset] at t3
            refine ⟨a :: S3, ?_, ?_⟩
            · rw [setP, q]
              exact .box (h1.mono fun o eo => by rw [upd_ne nba]; exact eo) t3
            · refine (List.Perm.cons a (p3.trans (List.Perm.append_right R p2))).trans ?_
              have : (b :: T' ++ R1 ++ R) = (b :: T') ++ (R1 ++ R) := by simp
              rw [this]
              exact List.perm_middle.symm
end
def look (sl : List Sl) : Sl → Option D
  | .fz d => some d
  | .ow _ d => some d
  | .al i π => (sl[i]?).bind fun s => (datS s).bind fun d => atP d π
  | _ => none
structure RelX (C : Cn) (Z : Reg) (S1 S2 : List Addr) (γ : VSt) (Θ : List V) (σ : L2.St) (H : Hp) : Prop where
  fr : ∀ a o, C.H0 a = some o → ¬ C.M a → C.tz Z a ∧ H a = some o
  es : Ents C Z H S1 σ γ.sl
  et : Ents C Z H S2 (Θ.map some) γ.tm
  nd : (S1 ++ S2).Nodup
  nz : ∀ a ∈ S1 ++ S2, ¬ C.tz Z a
  pu : ∀ p b, C.pu = some (p, b) → PuAt H p (b - γ.n) ∧ ¬ C.tz Z p ∧ p ∉ S1 ++ S2
  ex : ∀ a, C.tz Z a → ∃ o, H a = some o
  dj : ∀ a, Z a → ¬ C.Fr a
  al : ∀ (k i : Nat) (π : List Nat) (v : V), γ.tm[k]? = some (.al i π) → Θ[k]? = some v → ∃ s d e w, γ.sl[i]? = some s ∧ datS s = some d ∧ atP d π = some e ∧ σ[i]? = some (some w) ∧ Wk H w π v
def Rel (C : Cn) (γ : VSt) (Θ : List V) (σ : L2.St) (H : Hp) : Prop := ∃ Z S1 S2, RelX C Z S1 S2 γ Θ σ H
def noAl (i : Nat) (tm : List Sl) : Bool := tm.all fun s => match s with | .al j _ => j != i | _ => true
def own (d : D) : Sl := if nolist d then .fz d else .ow true d
section
variable {C : Cn} {Z : Reg} {S1 S2 : List Addr} {γ : VSt} {Θ : List V} {σ : L2.St} {H H' : Hp} {sl tm : List Sl} {n n' : Int} {v : V} {s : Sl} {d : D} {i : Nat}
theorem RelX.slot (h : RelX C Z S1 S2 γ Θ σ H) (e : γ.sl[i]? = some s) (ed : datS s = some d) : ∃ w T, σ[i]? = some (some w) ∧ Tr H Z T w d ∧ ∀ a ∈ T, a ∈ S1 := by
  obtain ⟨v, T, R, ev, en, pm, _⟩ := h.es.at e
  obtain ⟨w, T', rfl, t, sb⟩ := en.tr ed
  exact ⟨w, T', ev, t, fun a m => pm.mem_iff.mpr (List.mem_append_left _ (sb a m))⟩
theorem RelX.trAt {k : Nat} (h : RelX C Z S1 S2 γ Θ σ H) (e : γ.tm[k]? = some s) (ev : Θ[k]? = some v) (l : look γ.sl s = some d) : ∃ T, Tr H Z T v d ∧ ∀ a ∈ T, a ∈ S1 ++ S2 := by
  obtain ⟨v', T, R, ev', en, pm, _⟩ := h.et.at e
  rw [List.getElem?_map, ev] at ev'
  cases ev'
  have go : datS s = some d → ∃ T, Tr H Z T v d ∧ ∀ a ∈ T, a ∈ S1 ++ S2 := fun q => by
    obtain ⟨w, T', ew, t, sb⟩ := en.tr q
    cases ew
    exact ⟨T', t, fun a m => List.mem_append_right _ (pm.mem_iff.mpr (List.mem_append_left _ (sb a m)))⟩
  cases s with
  | jk => cases l
  | io d' => cases l
  | fz d' => exact go l
  | ow b d' => exact go l
  | pu => cases l
  | dc m => cases l
  | dt m => cases l
  | sh m => cases l
  | xv _ _ m => cases l
  | ho _ _ => cases l
  | xw _ _ => cases l
  | ob _ _ _ => cases l
  | al i π =>
    obtain ⟨s, d', e', w, e1, e2, e3, e4, wk⟩ := h.al k i π v e ev
    simp only [look, e1, e2, e3, Option.bind_some, Option.some.injEq] at l
    subst l
    obtain ⟨w', T', ew, t, sub⟩ := h.slot e1 e2
    rw [e4] at ew
    cases ew
    obtain ⟨⟨T2, t2, s2⟩, _⟩ := Tr.part t e3 wk
    exact ⟨T2, t2, fun a m => List.mem_append_left _ (sub a (s2 a m))⟩
/-- what stands on the stack is read -/
theorem Rel.readAt {k : Nat} (h : Rel C γ Θ σ H) (e : γ.tm[k]? = some s) (ev : Θ[k]? = some v) (l : look γ.sl s = some d) : ∃ T, Rep H T v d ∧ ∀ p b, C.pu = some (p, b) → p ∉ T := by
  obtain ⟨Z, S1, S2, h⟩ := h
  obtain ⟨T, t, sub⟩ := h.trAt e ev l
  obtain ⟨T', r, k⟩ := Tr.rep _ _ _ t
  refine ⟨T', r, fun p b q m => ?_⟩
  obtain ⟨_, n1, n2⟩ := h.pu p b q
  rcases k p m with m | m
  · exact n2 (sub p m)
  · exact n1 (.inl m)
theorem Rel.read (h : Rel C ⟨sl, s :: tm, n⟩ (v :: Θ) σ H) (l : look sl s = some d) : ∃ T, Rep H T v d ∧ ∀ p b, C.pu = some (p, b) → p ∉ T := h.readAt (k := 0) rfl rfl l
/-- the heap grows, the purse is drawn from -/
theorem Rel.heap (h : Rel C ⟨sl, tm, n⟩ Θ σ H) (k : ∀ a o, H a = some o → (∀ p b, C.pu = some (p, b) → a ≠ p) → H' a = some o) (kp : ∀ p b, C.pu = some (p, b) → PuAt H' p (b - n')) : Rel C ⟨sl, tm, n'⟩ Θ σ H' := by
  obtain ⟨Z, S1, S2, h⟩ := h
  have kt : ∀ t vs, H t = some (.tup vs) → H' t = some (.tup vs) := fun t vs e => k t _ e fun p b q z => by
    subst z
    obtain ⟨x, y, z, e2, _⟩ := (h.pu t b q).1
    rw [e] at e2
    cases e2
  have kz0 : ∀ a, C.tz Z a → ∀ o, H a = some o → H' a = some o := fun a z o e => k a o e fun p b q y => (h.pu p b q).2.1 (y ▸ z)
  have kz : ∀ a, Z a → ∀ o, H a = some o → H' a = some o := fun a z => kz0 a (.inl z)
  have ks : ∀ a ∈ S1 ++ S2, ∀ o, H a = some o → H' a = some o := fun a m o e => k a o e fun p b q y => (h.pu p b q).2.2 (y ▸ m)
  refine ⟨Z, S1, S2, fun a o e m => ⟨(h.fr a o e m).1, kz0 a (h.fr a o e m).1 o (h.fr a o e m).2⟩, h.es.mono kt (fun _ z => z) kz fun a m => ks a (List.mem_append_left _ m), h.et.mono kt (fun _ z => z) kz fun a m => ks a (List.mem_append_right _ m), h.nd, h.nz, fun p b q => ⟨kp p b q, (h.pu p b q).2⟩, fun a z => ?_, h.dj, fun j i π v e ev => ?_⟩
  · obtain ⟨o, e⟩ := h.ex a z
    exact ⟨o, kz0 a z o e⟩
  · obtain ⟨s, d', e', w, e1, e2, e3, e4, wk⟩ := h.al j i π v e ev
    obtain ⟨w', T', ew, t, sub⟩ := h.slot e1 e2
    rw [e4] at ew
    cases ew
    exact ⟨s, d', e', w, e1, e2, e3, e4, (Tr.part t e3 wk).2 H' kt fun a z => z.elim (kz a) fun m => ks a (List.mem_append_left _ (sub a m))⟩
theorem Rel.same (h : Rel C γ Θ σ H) (k : Same H H') : Rel C γ Θ σ H' := by
  obtain ⟨sl, tm, n⟩ := γ
  refine h.heap (fun a o e _ => k a o e) fun p b q => ?_
  obtain ⟨Z, S1, S2, h⟩ := h
  exact (h.pu p b q).1.mono (k p)
/-- something on the stack -/
theorem RelX.pushE {Z' : Reg} {T : List Addr} (h : RelX C Z S1 S2 ⟨sl, tm, n⟩ Θ σ H) (en : Ent C Z H T (some v) s) (nd : T.Nodup) (nT : ∀ a ∈ T, a ∉ S1 ++ S2 ∧ ¬ C.tz Z a ∧ ∀ p b, C.pu = some (p, b) → a ≠ p) (na : ∀ i π, s ≠ .al i π) : RelX C Z S1 (T ++ S2) ⟨sl, s :: tm, n⟩ (v :: Θ) σ H := by
  have pm : (S1 ++ (T ++ S2)).Perm (T ++ (S1 ++ S2)) := by
    rw [← List.append_assoc, ← List.append_assoc]
    exact List.Perm.append_right S2 List.perm_append_comm
  refine ⟨h.fr, h.es, .cons en h.et, pm.nodup_iff.mpr (List.nodup_append.mpr ⟨nd, h.nd, fun a m b m' e => (nT a m).1 (e ▸ m')⟩), fun a m => ?_, fun p b q => ⟨(h.pu p b q).1, (h.pu p b q).2.1, fun m => ?_⟩, h.ex, h.dj, fun k j π u e ev => ?_⟩
  · rcases List.mem_append.mp (pm.mem_iff.mp m) with m | m
    · exact (nT a m).2.1
    · exact h.nz a m
  · rcases List.mem_append.mp (pm.mem_iff.mp m) with m | m
    · exact (nT p m).2.2 p b q rfl
    · exact (h.pu p b q).2.2 m
  · cases k with
    | zero =>
      simp at e
      exact absurd e (na _ _)
    | succ k => exact h.al k j π u (by simpa using e) (by simpa using ev)
theorem Rel.push (h : Rel C ⟨sl, tm, n⟩ Θ σ H) (t : ∀ Z, Tr H Z [] v d) : Rel C ⟨sl, .fz d :: tm, n⟩ (v :: Θ) σ H := by
  obtain ⟨Z, S1, S2, h⟩ := h
  exact ⟨Z, S1, _, h.pushE (Z' := Z) (.fz (t Z)) List.nodup_nil (fun a m => nomatch m) (fun i π z => nomatch z)⟩
/-- a new tree on the stack -/
theorem Rel.new (h : Rel C ⟨sl, tm, n⟩ Θ σ H) (k : ∀ a o, H a = some o → (∀ p b, C.pu = some (p, b) → a ≠ p) → H' a = some o) (kp : ∀ p b, C.pu = some (p, b) → PuAt H' p (b - n'))
    (nw : ∃ S, Tr H' noReg S v d ∧ S.Nodup ∧ ∀ a ∈ S, H a = none) : Rel C ⟨sl, own d :: tm, n'⟩ (v :: Θ) σ H' := by
  have h' := h.heap k kp
  obtain ⟨S, t, nd, nw⟩ := nw
  unfold own
  by_cases hn : nolist d = true
  · rw [if_pos hn]
    exact h'.push fun Z => (Tr.nolist d S v t hn).2
  · rw [if_neg hn]
    obtain ⟨Z0, A1, A2, h0⟩ := h
    have old : ∀ a ∈ S, a ∉ A1 ++ A2 ∧ ¬ C.tz Z0 a ∧ ∀ p b, C.pu = some (p, b) → a ≠ p := fun a m => by
      refine ⟨fun z => ?_, fun z => ?_, fun p b q z => ?_⟩
      · rcases List.mem_append.mp z with z | z
        · obtain ⟨xs, e⟩ := h0.es.dom a z
          rw [nw a m] at e
          cases e
        · obtain ⟨xs, e⟩ := h0.et.dom a z
          rw [nw a m] at e
          cases e
      · obtain ⟨o, e⟩ := h0.ex a z
        rw [nw a m] at e
        cases e
      · obtain ⟨x, y, w, e, _⟩ := (h0.pu p b q).1
        rw [← z, nw a m] at e
        cases e
    -- the same regions
    have kt : ∀ t vs, H t = some (.tup vs) → H' t = some (.tup vs) := fun t vs e => k t _ e fun p b q z => by
      subst z
      obtain ⟨x, y, z, e2, _⟩ := (h0.pu t b q).1
      rw [e] at e2
      cases e2
    have kz0 : ∀ a, C.tz Z0 a → ∀ o, H a = some o → H' a = some o := fun a z o e => k a o e fun p b q y => (h0.pu p b q).2.1 (y ▸ z)
    have kz : ∀ a, Z0 a → ∀ o, H a = some o → H' a = some o := fun a z => kz0 a (.inl z)
    have ks : ∀ a ∈ A1 ++ A2, ∀ o, H a = some o → H' a = some o := fun a m o e => k a o e fun p b q y => (h0.pu p b q).2.2 (y ▸ m)
    have h1 : RelX C Z0 A1 A2 ⟨sl, tm, n'⟩ Θ σ H' := ⟨fun a o e m => ⟨(h0.fr a o e m).1, kz0 a (h0.fr a o e m).1 o (h0.fr a o e m).2⟩, h0.es.mono kt (fun _ z => z) kz fun a m => ks a (List.mem_append_left _ m), h0.et.mono kt (fun _ z => z) kz fun a m => ks a (List.mem_append_right _ m), h0.nd, h0.nz, fun p b q => ⟨kp p b q, (h0.pu p b q).2⟩, fun a z => by
      obtain ⟨o, e⟩ := h0.ex a z
      exact ⟨o, kz0 a z o e⟩, h0.dj, fun j i π v e ev => by
      obtain ⟨s, d', e', w, e1, e2, e3, e4, wk⟩ := h0.al j i π v e ev
      obtain ⟨w', T', ew, t, sub⟩ := h0.slot e1 e2
      rw [e4] at ew
      cases ew
      exact ⟨s, d', e', w, e1, e2, e3, e4, (Tr.part t e3 wk).2 H' kt fun a z => z.elim (kz a) fun m => ks a (List.mem_append_left _ (sub a m))⟩⟩
    exact ⟨Z0, A1, _, h1.pushE (Z' := Z0) (.ow t) nd old (fun i π z => nomatch z)⟩
theorem Rel.pop (h : Rel C ⟨sl, s :: tm, n⟩ (v :: Θ) σ H) : Rel C ⟨sl, tm, n⟩ Θ σ H := by
  obtain ⟨Z, S1, S2, h⟩ := h
  obtain ⟨fr, es, et, nd, nz, pu, ex, dj, al⟩ := h
  dsimp only at es et al pu
  cases et with
  | @cons S T _ _ _ _ e1 e2 =>
    have pm : (S1 ++ (S ++ T)).Perm (S ++ (S1 ++ T)) := by
      rw [← List.append_assoc, ← List.append_assoc]
      exact List.Perm.append_right T List.perm_append_comm
    exact ⟨Z, S1, T, fr, es, e2, (List.nodup_append.mp (pm.nodup_iff.mp nd)).2.1, fun a m => nz a (pm.mem_iff.mpr (List.mem_append_right _ m)), fun p b q => ⟨(pu p b q).1, (pu p b q).2.1, fun m => (pu p b q).2.2 (pm.mem_iff.mpr (List.mem_append_right _ m))⟩, ex, dj, fun k j π u e ev => al (k + 1) j π u (by simpa using e) (by simpa using ev)⟩
/-- a name is read -/
theorem Rel.varF (h : Rel C ⟨sl, tm, n⟩ Θ σ H) (e : sl[i]? = some (.fz d)) : ∃ v, σ[i]? = some (some v) ∧ Rel C ⟨sl, .fz d :: tm, n⟩ (v :: Θ) σ H := by
  obtain ⟨Z, S1, S2, h⟩ := h
  obtain ⟨v, T, R, ev, en, pm, _⟩ := h.es.at e
  cases en with
  | fz t => exact ⟨_, ev, Z, S1, _, h.pushE (Z' := Z) (.fz t) List.nodup_nil (fun a m => nomatch m) (fun i π z => nomatch z)⟩
theorem Rel.varP (h : Rel C ⟨sl, tm, n⟩ Θ σ H) (e : sl[i]? = some .pu) : ∃ p b, C.pu = some (p, b) ∧ σ[i]? = some (some (.ref p)) ∧ Rel C ⟨sl, .pu :: tm, n⟩ (.ref p :: Θ) σ H := by
  obtain ⟨Z, S1, S2, h⟩ := h
  obtain ⟨v, T, R, ev, en, pm, _⟩ := h.es.at e
  cases en with
  | pu q => exact ⟨_, _, q, ev, Z, S1, _, h.pushE (Z' := Z) (.pu q) List.nodup_nil (fun a m => nomatch m) (fun i π z => nomatch z)⟩
theorem Rel.varA (h : Rel C ⟨sl, tm, n⟩ Θ σ H) (e : sl[i]? = some s) (ed : datS s = some d) : ∃ v, σ[i]? = some (some v) ∧ Rel C ⟨sl, .al i [] :: tm, n⟩ (v :: Θ) σ H := by
  obtain ⟨Z, S1, S2, h⟩ := h
  obtain ⟨w, T, ew, t, sub⟩ := h.slot (γ := ⟨sl, tm, n⟩) e ed
  refine ⟨w, ew, Z, S1, S2, h.fr, h.es, .cons (S := []) (.al w i []) h.et, h.nd, h.nz, h.pu, h.ex, h.dj, fun k j π u e' ev => ?_⟩
  cases k with
  | zero =>
    simp at e' ev
    obtain ⟨rfl, rfl⟩ := e'
    subst ev
    exact ⟨_, d, d, w, e, ed, rfl, ew, .nil _⟩
  | succ k => exact h.al k j π u (by simpa using e') (by simpa using ev)
/-- an owned tree in a name is frozen -/
theorem Rel.frzS0 (h : Rel C ⟨sl, tm, n⟩ Θ σ H) (e : sl[i]? = some s) (ed : datS s = some d) (htr : ∀ {Z : Reg} T v, Ent C Z H T v s → ∃ w, v = some w ∧ Tr H Z T w d) : Rel C ⟨sl.set i (.fz d), tm, n⟩ Θ σ H := by
  obtain ⟨Z, S1, S2, h⟩ := h
  obtain ⟨v, T, R, ev, en, pm, k⟩ := h.es.at e
  have ndS := pm.nodup_iff.mp (List.nodup_append.mp h.nd).1
  obtain ⟨w, rfl, t⟩ := htr _ _ en
  let Z' : Reg := fun a => Z a ∨ a ∈ T
  obtain ⟨S', es', pm'⟩ := k H Z' [] (some w) (.fz d) (fun _ _ h => h) (fun _ z => .inl z) (fun _ _ _ h => h) (fun _ _ _ h => h) (.fz (Tr.freeze (fun _ z => .inl z) _ _ _ t fun _ m => .inr m))
  have eσ : σ.set i (some w) = σ := by
    refine List.ext_getElem? fun j => ?_
    by_cases hj : i = j
    · subst hj
      rw [List.getElem?_set_self (List.getElem?_eq_some_iff.mp ev).1, ev]
    · rw [List.getElem?_set_ne hj]
  rw [eσ] at es'
  have sub : ∀ a ∈ S' ++ S2, a ∈ S1 ++ S2 ∧ a ∉ T := fun a m => by
    rcases List.mem_append.mp m with m | m
    · have mR : a ∈ R := by simpa using pm'.mem_iff.mp m
      exact ⟨List.mem_append_left _ (pm.mem_iff.mpr (List.mem_append_right _ mR)), fun mT => (List.nodup_append.mp ndS).2.2 a mT a mR rfl⟩
    · exact ⟨List.mem_append_right _ m, fun mT => (List.nodup_append.mp h.nd).2.2 a (pm.mem_iff.mpr (List.mem_append_left _ mT)) a m rfl⟩
  refine ⟨Z', S', S2, fun a o e m => ⟨(h.fr a o e m).1.imp .inl id, (h.fr a o e m).2⟩, es', h.et.mono (fun _ _ h => h) (fun _ z => .inl z) (fun _ _ _ h => h) (fun _ _ _ h => h), ?_, fun a m => ?_, fun p b q => ⟨(h.pu p b q).1, ?_, fun m => (h.pu p b q).2.2 (sub p m).1⟩, fun a z => ?_, fun a z => z.elim (h.dj a) fun m q => h.nz a (List.mem_append_left _ (pm.mem_iff.mpr (List.mem_append_left _ m))) (.inr q), fun j i' π v e' ev' => ?_⟩
  · refine List.nodup_append.mpr ⟨pm'.nodup_iff.mpr (by simpa using (List.nodup_append.mp ndS).2.1), (List.nodup_append.mp h.nd).2.1, fun a m b m' eab => ?_⟩
    have mR : a ∈ R := by simpa using pm'.mem_iff.mp m
    exact (List.nodup_append.mp h.nd).2.2 a (pm.mem_iff.mpr (List.mem_append_right _ mR)) b m' eab
  · rintro ((z | z) | z)
    · exact h.nz a (sub a m).1 (.inl z)
    · exact (sub a m).2 z
    · exact h.nz a (sub a m).1 (.inr z)
  · rintro ((z | z) | z)
    · exact (h.pu p b q).2.1 (.inl z)
    · exact (h.pu p b q).2.2 (List.mem_append_left _ (pm.mem_iff.mpr (List.mem_append_left _ z)))
    · exact (h.pu p b q).2.1 (.inr z)
  · rcases z with (z | z) | z
    · exact h.ex a (.inl z)
    rotate_left
    · exact h.ex a (.inr z)
    · obtain ⟨xs, q⟩ := Tr.dom _ _ _ t a z
      exact ⟨_, q⟩
  · obtain ⟨s, d', e1, w', g1, g2, g3, g4, wk⟩ := h.al j i' π v e' ev'
    by_cases hj : i = i'
    · subst hj
      change sl[i]? = some s at g1
      rw [e] at g1
      cases g1
      rw [ed] at g2
      cases g2
      exact ⟨.fz d, d, e1, w', List.getElem?_set_self (List.getElem?_eq_some_iff.mp e).1, rfl, g3, g4, wk⟩
    · exact ⟨s, d', e1, w', (List.getElem?_set_ne hj).trans g1, g2, g3, g4, wk⟩
theorem Rel.frzS {b : Bool} (h : Rel C ⟨sl, tm, n⟩ Θ σ H) (e : sl[i]? = some (.ow b d)) : Rel C ⟨sl.set i (.fz d), tm, n⟩ Θ σ H := h.frzS0 e rfl fun _ _ en => en.trO
/-- an alias stays while its name does -/
theorem al_set {k j : Nat} {π : List Nat} (na : noAl i tm = true) (e : tm[k]? = some (.al j π)) : i ≠ j := fun z => by
  subst z
  have := List.all_eq_true.mp na _ (List.mem_of_getElem? e)
  simp at this
/-- an owned tree is taken out of a name -/
theorem Rel.mov {b : Bool} (h : Rel C ⟨sl, tm, n⟩ Θ σ H) (e : sl[i]? = some (.ow b d)) (na : noAl i tm = true) : ∃ v, σ[i]? = some (some v) ∧ Rel C ⟨sl.set i .jk, .ow b d :: tm, n⟩ (v :: Θ) σ H := by
  obtain ⟨Z, S1, S2, h⟩ := h
  obtain ⟨v, T, R, ev, en, pm, k⟩ := h.es.at e
  obtain ⟨w, rfl, t⟩ := en.trO
  obtain ⟨S', es', pm'⟩ := k H Z [] (some w) .jk (fun _ _ h => h) (fun _ z => z) (fun _ _ _ h => h) (fun _ _ _ h => h) (.jk _)
  have eσ : σ.set i (some w) = σ := by
    refine List.ext_getElem? fun j => ?_
    by_cases hj : i = j
    · subst hj
      rw [List.getElem?_set_self (List.getElem?_eq_some_iff.mp ev).1, ev]
    · rw [List.getElem?_set_ne hj]
  rw [eσ] at es'
  have pm2 : (S' ++ (T ++ S2)).Perm (S1 ++ S2) := by
    have : (S' ++ T).Perm S1 := (List.Perm.append_right T (by simpa using pm')).trans (List.perm_append_comm.trans pm.symm)
    rw [← List.append_assoc]
    exact List.Perm.append_right S2 this
  refine ⟨w, ev, Z, S', T ++ S2, h.fr, es', .cons en h.et, pm2.nodup_iff.mpr h.nd, fun a m => h.nz a (pm2.mem_iff.mp m), fun p b q => ⟨(h.pu p b q).1, (h.pu p b q).2.1, fun m => (h.pu p b q).2.2 (pm2.mem_iff.mp m)⟩, h.ex, h.dj, fun j i' π v e' ev' => ?_⟩
  cases j with
  | zero => simp at e'
  | succ j =>
    simp at e' ev'
    obtain ⟨s, d', e1, w', g1, g2, g3, g4, wk⟩ := h.al j i' π v e' ev'
    exact ⟨s, d', e1, w', (List.getElem?_set_ne (al_set na e')).trans g1, g2, g3, g4, wk⟩
/-- the top is stored in a name -/
theorem Rel.set (h : Rel C ⟨sl, s :: tm, n⟩ (v :: Θ) σ H) (hs : ∀ i π, s ≠ .al i π) (na : noAl i tm = true) : Rel C ⟨sl.set i s, tm, n⟩ Θ (σ.set i (some v)) H := by
  obtain ⟨Z, S1, S2, h⟩ := h
  obtain ⟨fr, es, et, nd, nz, pu, ex, dj, al⟩ := h
  dsimp only at es et al pu
  cases et with
  | @cons T S2 _ _ _ _ e1 e2 =>
    have len := es.length
    by_cases hi : i < sl.length
    · obtain ⟨s0, e0⟩ : ∃ s0, sl[i]? = some s0 := ⟨_, List.getElem?_eq_getElem hi⟩
      obtain ⟨v0, T0, R, ev, en, pm, k⟩ := es.at e0
      obtain ⟨S', es', pm'⟩ := k H Z T (some v) s (fun _ _ h => h) (fun _ z => z) (fun _ _ _ h => h) (fun _ _ _ h => h) e1
      have pm2 : (S1 ++ (T ++ S2)).Perm (T0 ++ (S' ++ S2)) := by
        have q : (S1 ++ (T ++ S2)).Perm ((T0 ++ R) ++ (T ++ S2)) := List.Perm.append_right _ pm
        refine q.trans ?_
        have q2 : (R ++ (T ++ S2)).Perm (S' ++ S2) := by
          rw [← List.append_assoc]
          exact List.Perm.append_right S2 (List.perm_append_comm.trans pm'.symm)
        rw [List.append_assoc]
        exact List.Perm.append_left T0 q2
      refine ⟨Z, S', S2, fr, es', e2, (List.nodup_append.mp (pm2.nodup_iff.mp nd)).2.1, fun a m => nz a (pm2.mem_iff.mpr (List.mem_append_right _ m)), fun p b q => ⟨(pu p b q).1, (pu p b q).2.1, fun m => (pu p b q).2.2 (pm2.mem_iff.mpr (List.mem_append_right _ m))⟩, ex, dj, fun j i' π u e' ev' => ?_⟩
      obtain ⟨s1, d', e3, w', g1, g2, g3, g4, wk⟩ := al (j + 1) i' π u (by simpa using e') (by simpa using ev')
      have hj := al_set na e'
      exact ⟨s1, d', e3, w', (List.getElem?_set_ne hj).trans g1, g2, g3, (List.getElem?_set_ne hj).trans g4, wk⟩
    · have e3 : sl.set i s = sl := List.set_eq_of_length_le (by omega)
      have e4 : σ.set i (some v) = σ := List.set_eq_of_length_le (by omega)
      rw [e3, e4]
      exact Rel.pop ⟨Z, S1, _, fr, es, .cons e1 e2, nd, nz, pu, ex, dj, al⟩
/-- a name is forgotten -/
theorem Rel.jk (h : Rel C ⟨sl, tm, n⟩ Θ σ H) (na : noAl i tm = true) (o : Option V) : Rel C ⟨sl.set i .jk, tm, n⟩ Θ (σ.set i o) H := by
  obtain ⟨Z, S1, S2, h⟩ := h
  have len := h.es.length
  by_cases hi : i < sl.length
  · obtain ⟨s0, e0⟩ : ∃ s0, sl[i]? = some s0 := ⟨_, List.getElem?_eq_getElem hi⟩
    obtain ⟨v0, T0, R, ev, en, pm, k⟩ := h.es.at (ss := sl) e0
    obtain ⟨S', es', pm'⟩ := k H Z [] o .jk (fun _ _ h => h) (fun _ z => z) (fun _ _ _ h => h) (fun _ _ _ h => h) (.jk _)
    have pm2 : (S1 ++ S2).Perm (T0 ++ (S' ++ S2)) := by
      rw [← List.append_assoc]
      exact List.Perm.append_right S2 (pm.trans (List.Perm.append_left T0 (by simpa using pm'.symm)))
    refine ⟨Z, S', S2, h.fr, es', h.et, (List.nodup_append.mp (pm2.nodup_iff.mp h.nd)).2.1, fun a m => h.nz a (pm2.mem_iff.mpr (List.mem_append_right _ m)), fun p b q => ⟨(h.pu p b q).1, (h.pu p b q).2.1, fun m => (h.pu p b q).2.2 (pm2.mem_iff.mpr (List.mem_append_right _ m))⟩, h.ex, h.dj, fun j i' π u e' ev' => ?_⟩
    obtain ⟨s1, d', e3, w', g1, g2, g3, g4, wk⟩ := h.al j i' π u e' ev'
    have hj := al_set na e'
    exact ⟨s1, d', e3, w', (List.getElem?_set_ne hj).trans g1, g2, g3, (List.getElem?_set_ne hj).trans g4, wk⟩
  · have e3 : sl.set i .jk = sl := List.set_eq_of_length_le (by omega)
    have e4 : σ.set i o = σ := List.set_eq_of_length_le (by change σ.length = sl.length at len; omega)
    rw [e3, e4]
    exact ⟨Z, S1, S2, h⟩
end
mutual
theorem repU {H : Hp} : ∀ (d : D) (v : V) (A B : List Addr), Rep H A v d → Rep H B v d → A = B
  | .none, _, _, _, h, k => by cases h; cases k; rfl
  | .bool b, _, _, _, h, k => by cases h; cases k; rfl
  | .int i, _, _, _, h, k => by cases h; cases k; rfl
  | .str x, _, _, _, h, k => by cases h; cases k; rfl
  | .list ds, _, _, _, h, k => by
    cases h with
    | lst h1 h2 =>
      cases k with
      | lst k1 k2 =>
        rw [h1] at k1
        cases k1
        rw [repsU ds _ _ _ h2 k2]
  | .tuple ds, _, _, _, h, k => by
    cases h with
    | tup h1 h2 =>
      cases k with
      | tup k1 k2 =>
        rw [h1] at k1
        cases k1
        exact repsU ds _ _ _ h2 k2
  | .dict _, _, _, _, h, k => by
    cases h with
    | box h1 h2 =>
      cases k with
      | box k1 k2 =>
        obtain ⟨_, rfl⟩ := h1.uniq k1
        rw [repsU _ _ _ _ h2 k2]
theorem repsU {H : Hp} : ∀ (ds : List D) (vs : List V) (A B : List Addr), Reps H A vs ds → Reps H B vs ds → A = B
  | [], _, _, _, h, k => by cases h; cases k; rfl
  | d :: ds, _, _, _, h, k => by
    cases h with
    | cons h1 h2 =>
      cases k with
      | cons k1 k2 => rw [repU d _ _ _ h1 k1, repsU ds _ _ _ h2 k2]
end
section
variable {C : Cn} {Z : Reg} {S1 S2 : List Addr} {γ : VSt} {Θ : List V} {σ : L2.St} {H H' : Hp} {sl tm : List Sl} {n n' : Int} {v : V} {s : Sl} {d : D} {i : Nat}
/-- the top is frozen -/
theorem Rel.frzT {b : Bool} (h : Rel C ⟨sl, .ow b d :: tm, n⟩ (v :: Θ) σ H) : Rel C ⟨sl, .fz d :: tm, n⟩ (v :: Θ) σ H := by
  obtain ⟨Z, S1, S2, h⟩ := h
  obtain ⟨fr, es, et, nd, nz, pu, ex, dj, al⟩ := h
  dsimp only at es et al pu
  cases et with
  | @cons T S2 _ _ _ _ e1 e2 =>
    obtain ⟨w, ew, t⟩ := e1.trO
    cases ew
    let Z' : Reg := fun a => Z a ∨ a ∈ T
    have pm : (S1 ++ (T ++ S2)).Perm (T ++ (S1 ++ S2)) := by
      rw [← List.append_assoc, ← List.append_assoc]
      exact List.Perm.append_right S2 List.perm_append_comm
    have nd2 := List.nodup_append.mp (pm.nodup_iff.mp nd)
    refine ⟨Z', S1, [] ++ S2, fun a o e m => ⟨(fr a o e m).1.imp .inl id, (fr a o e m).2⟩, es.mono (fun _ _ h => h) (fun _ z => .inl z) (fun _ _ _ h => h) (fun _ _ _ h => h), .cons (.fz (Tr.freeze (fun _ z => .inl z) _ _ _ t fun _ m => .inr m)) (e2.mono (fun _ _ h => h) (fun _ z => .inl z) (fun _ _ _ h => h) (fun _ _ _ h => h)), nd2.2.1, fun a m => ?_, fun p b q => ⟨(pu p b q).1, ?_, fun m => (pu p b q).2.2 (pm.mem_iff.mpr (List.mem_append_right _ m))⟩, fun a z => ?_, fun a z => z.elim (dj a) fun m q => nz a (pm.mem_iff.mpr (List.mem_append_left _ m)) (.inr q), fun j i' π u e' ev' => ?_⟩
    · rintro ((z | z) | z)
      · exact nz a (pm.mem_iff.mpr (List.mem_append_right _ m)) (.inl z)
      · exact nd2.2.2 a z a m rfl
      · exact nz a (pm.mem_iff.mpr (List.mem_append_right _ m)) (.inr z)
    · rintro ((z | z) | z)
      · exact (pu p b q).2.1 (.inl z)
      · exact (pu p b q).2.2 (pm.mem_iff.mpr (List.mem_append_left _ z))
      · exact (pu p b q).2.1 (.inr z)
    · rcases z with (z | z) | z
      · exact ex a (.inl z)
      rotate_left
      · exact ex a (.inr z)
      · obtain ⟨xs, q⟩ := Tr.dom _ _ _ t a z
        exact ⟨_, q⟩
    · cases j with
      | zero => simp at e'
      | succ j => exact al (j + 1) i' π u (by simpa using e') (by simpa using ev')
def hoq (l : Bool) (vs : List V) : HO := if l then .lst vs else .tup vs
def dq (l : Bool) (ds : List D) : D := if l then .list ds else .tuple ds
theorem Tr.seq {S : List Addr} {l : Bool} {ds : List D} (t : Tr H Z S v (dq l ds)) : ∃ a vs T, v = .ref a ∧ H a = some (hoq l vs) ∧ Trs H Z T vs ds ∧ ∀ x ∈ T, x ∈ S := by
  cases l with
  | true =>
    cases t with
    | lst e t => exact ⟨_, _, _, rfl, e, t, fun x m => List.mem_cons_of_mem _ m⟩
    | lstZ z e t => exact ⟨_, _, _, rfl, e, t, fun x m => m⟩
  | false =>
    cases t with
    | tup e t => exact ⟨_, _, _, rfl, e, t, fun x m => m⟩
/-- what an item of it is -/
def subS (s : Sl) (k : Nat) (d : D) : Sl := match s with
  | .ow true _ => own d
  | .al i π => if nolist d then .fz d else .al i (π ++ [k])
  | _ => .fz d
theorem RelX.frame (h : RelX C Z S1 S2 γ Θ σ H) : ∀ a ∈ S1 ++ S2, ¬ C.tz Z a ∧ ∀ p b, C.pu = some (p, b) → a ≠ p := fun a m => ⟨h.nz a m, fun p b q z => (h.pu p b q).2.2 (z ▸ m)⟩
/-- an item of the top -/
theorem Rel.item {l : Bool} {ds : List D} (h : Rel C ⟨sl, s :: tm, n⟩ (v :: Θ) σ H) (lk : look sl s = some (dq l ds)) : ∃ a vs, v = .ref a ∧ H a = some (hoq l vs) ∧ vs.length = ds.length ∧
    ∀ k d w, ds[k]? = some d → vs[k]? = some w → Rel C ⟨sl, subS s k d :: tm, n⟩ (w :: Θ) σ H := by
  -- as a whole
  have whole : ∃ a vs, v = .ref a ∧ H a = some (hoq l vs) ∧ vs.length = ds.length := by
    obtain ⟨Z, S1, S2, h⟩ := h
    obtain ⟨T, t, _⟩ := h.trAt (k := 0) rfl rfl lk
    obtain ⟨a, vs, T', rfl, e, ts, _⟩ := t.seq
    exact ⟨a, vs, rfl, e, ts.length⟩
  obtain ⟨a, vs, rfl, e, el⟩ := whole
  have eqv : ∀ us, H a = some (hoq l us) → us = vs := fun us q => by
    rw [e] at q
    cases l with
    | true => cases q; rfl
    | false => cases q; rfl
  refine ⟨a, vs, rfl, e, el, fun k x w hx hw => ?_⟩
  have hz : ∀ {b : Bool} {d' : D}, Rel C ⟨sl, .fz d' :: tm, n⟩ (.ref a :: Θ) σ H → d' = dq l ds → Rel C ⟨sl, .fz x :: tm, n⟩ (w :: Θ) σ H := fun {b d'} h ed => by
    subst ed
    obtain ⟨Z, S1, S2, h⟩ := h
    obtain ⟨fr, es, et, nd, nz, pu, ex, dj, al⟩ := h
    dsimp only at es et al pu
    cases et with
    | cons e1 e2 =>
      cases e1 with
      | fz t =>
        obtain ⟨a', us, T', ea, e', ts, sub⟩ := t.seq
        cases ea
        obtain rfl := eqv us e'
        obtain ⟨T1, R1, t1, pm⟩ := ts.get hx hw
        have e0 : T1 = [] := by
          cases T1 with
          | nil => rfl
          | cons y ys => exact nomatch sub y (pm.mem_iff.mpr (by simp))
        subst e0
        exact ⟨Z, S1, _, fr, es, .cons (S := []) (.fz t1) e2, nd, nz, pu, ex, dj, fun j i' π u e' ev' => by
          cases j with
          | zero => simp at e'
          | succ j => exact al (j + 1) i' π u (by simpa using e') (by simpa using ev')⟩
  cases s with
  | jk => cases lk
  | dc m => cases lk
  | dt m => cases lk
  | sh m => cases lk
  | xv _ _ m => cases lk
  | ho _ _ => cases lk
  | xw _ _ => cases lk
  | ob _ _ _ => cases lk
  | io d' => cases lk
  | pu => cases lk
  | fz d' =>
    cases lk
    exact hz (b := true) h rfl
  | ow b d' =>
    cases lk
    cases b with
    | false => exact hz (b := true) h.frzT rfl
    | true =>
      obtain ⟨Z, S1, S2, h⟩ := h
      obtain ⟨fr, es, et, nd, nz, pu, ex, dj, al⟩ := h
      dsimp only at es et al pu
      cases et with
      | @cons T S2 _ _ _ _ e1 e2 =>
        cases e1 with
        | ow t =>
          obtain ⟨a', us, T', ea, e', ts, sub⟩ := t.seq
          cases ea
          obtain rfl := eqv us e'
          obtain ⟨T1, R1, t1, pm⟩ := ts.get hx hw
          show Rel C ⟨sl, own x :: tm, n⟩ (w :: Θ) σ H
          have h0 : RelX C Z S1 S2 ⟨sl, tm, n⟩ Θ σ H := by
            have p2 : (S1 ++ (T ++ S2)).Perm (T ++ (S1 ++ S2)) := by
              rw [← List.append_assoc, ← List.append_assoc]
              exact List.Perm.append_right S2 List.perm_append_comm
            exact ⟨fr, es, e2, (List.nodup_append.mp (p2.nodup_iff.mp nd)).2.1, fun a m => nz a (p2.mem_iff.mpr (List.mem_append_right _ m)), fun p b q => ⟨(pu p b q).1, (pu p b q).2.1, fun m => (pu p b q).2.2 (p2.mem_iff.mpr (List.mem_append_right _ m))⟩, ex, dj, fun k j π u e ev => al (k + 1) j π u (by simpa using e) (by simpa using ev)⟩
          unfold own
          by_cases hn : nolist x = true
          · rw [if_pos hn]
            exact Rel.push ⟨Z, S1, S2, h0⟩ fun Z => (Tr.nolist x T1 w t1 hn).2
          · rw [if_neg hn]
            have ndT : T.Nodup := (List.nodup_append.mp (List.nodup_append.mp nd).2.1).1
            have sub1 : ∀ y ∈ T1, y ∈ T := fun y m => sub y (pm.mem_iff.mpr (List.mem_append_left _ m))
            have disj : ∀ y ∈ T, y ∉ S1 ++ S2 := fun y m z => by
              rcases List.mem_append.mp z with z | z
              · exact (List.nodup_append.mp nd).2.2 y z y (List.mem_append_left _ m) rfl
              · exact (List.nodup_append.mp (List.nodup_append.mp nd).2.1).2.2 y m y z rfl
            have nd1 : T1.Nodup := by
              cases l with
              | true =>
                cases t with
                | lst g1 g2 =>
                  rw [e'] at g1
                  cases g1
                  obtain ⟨T2, R2, t2, pm2⟩ := g2.get hx hw
                  have := (List.nodup_append.mp (pm2.nodup_iff.mp (List.nodup_cons.mp ndT).2)).1
                  have uq : T1 = T2 := repU _ _ _ _ (Tr.repO _ _ _ t1) (Tr.repO _ _ _ t2)
                  rw [uq]
                  exact this
                | lstZ z _ _ => exact z.elim
              | false =>
                cases t with
                | tup g1 g2 =>
                  rw [e'] at g1
                  cases g1
                  obtain ⟨T2, R2, t2, pm2⟩ := g2.get hx hw
                  have := (List.nodup_append.mp (pm2.nodup_iff.mp ndT)).1
                  have uq : T1 = T2 := repU _ _ _ _ (Tr.repO _ _ _ t1) (Tr.repO _ _ _ t2)
                  rw [uq]
                  exact this
            exact ⟨Z, S1, _, h0.pushE (Z' := Z) (.ow t1) nd1 (fun y m => ⟨disj y (sub1 y m), nz y (List.mem_append_right _ (List.mem_append_left _ (sub1 y m))), fun p b q z => (pu p b q).2.2 (z ▸ List.mem_append_right _ (List.mem_append_left _ (sub1 y m)))⟩) (fun i π z => nomatch z)⟩
  | al j π =>
    show Rel C ⟨sl, (if nolist x then .fz x else .al j (π ++ [k])) :: tm, n⟩ (w :: Θ) σ H
    by_cases hn : nolist x = true
    · rw [if_pos hn]
      have : ∃ T Z', Tr H Z' T w x := by
        obtain ⟨Z, S1, S2, h⟩ := h
        obtain ⟨T, t, _⟩ := h.trAt (k := 0) rfl rfl lk
        obtain ⟨a', us, T', ea, e', ts, _⟩ := t.seq
        cases ea
        obtain rfl := eqv us e'
        obtain ⟨T1, R1, t1, pm⟩ := ts.get hx hw
        exact ⟨_, _, t1⟩
      obtain ⟨T, Z', t⟩ := this
      exact h.pop.push fun Z => (Tr.nolist x T w t hn).2
    · rw [if_neg hn]
      obtain ⟨Z, S1, S2, h⟩ := h
      obtain ⟨fr, es, et, nd, nz, pu, ex, dj, al⟩ := h
      dsimp only at es et al pu
      cases et with
      | cons e1 e2 =>
        cases e1
        refine ⟨Z, S1, _, fr, es, .cons (S := []) (.al w j _) e2, nd, nz, pu, ex, dj, fun m j' π' u e' ev' => ?_⟩
        cases m with
        | succ m => exact al (m + 1) j' π' u (by simpa using e') (by simpa using ev')
        | zero =>
          simp at e' ev'
          obtain ⟨rfl, rfl⟩ := e'
          subst ev'
          obtain ⟨s, d', e1, w', g1, g2, g3, g4, wk⟩ := al 0 j π (.ref a) rfl rfl
          change sl[j]? = some s at g1
          have ee : e1 = dq l ds := by
            simp only [look, g1, g2, g3, Option.bind_some, Option.some.injEq] at lk
            exact lk
          subst ee
          refine ⟨s, d', x, w', g1, g2, atP_snoc π d' _ ds k x g3 ?_ hx, g4, wk.snoc rfl ?_ hw⟩
          · cases l with
            | true => exact .inl rfl
            | false => exact .inr (.inl rfl)
          · cases l with
            | true => exact .inl e
            | false => exact .inr e
end
structure Fl (C : Cn) (Z : Reg) (S1 S2 : List Addr) (H : Hp) (A : List Addr) : Prop where
  nd : (A ++ (S1 ++ S2)).Nodup
  ok : ∀ a ∈ A, ¬ C.tz Z a ∧ (∀ p b, C.pu = some (p, b) → a ≠ p) ∧ ∃ o, H a = some o
abbrev rgn (b : Bool) (Z : Reg) : Reg := if b then noReg else Z
theorem nodup_cnt {l : List Addr} : l.Nodup ↔ ∀ a, l.count a ≤ 1 := List.nodup_iff_count
section
variable {C : Cn} {Z : Reg} {S1 S2 A : List Addr} {γ : VSt} {Θ : List V} {σ : L2.St} {H H' : Hp} {sl tm : List Sl} {n n' : Int} {v : V} {s : Sl} {d : D} {i : Nat}
theorem Ents.split {ss ts : List Sl} : ∀ {vs us : List (Option V)} {S : List Addr}, vs.length = ss.length → Ents C Z H S (vs ++ us) (ss ++ ts) → ∃ A B, S = A ++ B ∧ Ents C Z H A vs ss ∧ Ents C Z H B us ts := by
  induction ss with
  | nil =>
    intro vs us S e h
    match vs, e with
    | [], _ => exact ⟨[], S, rfl, .nil, h⟩
  | cons s ss ih =>
    intro vs us S e h
    match vs, e with
    | v :: vs, e =>
      cases h with
      | cons h1 h2 =>
        obtain ⟨A, B, rfl, a, b⟩ := ih (by simpa using e) h2
        exact ⟨_, B, (List.append_assoc ..).symm, .cons h1 a, b⟩
theorem Ents.append {ss ts : List Sl} : ∀ {vs us : List (Option V)} {S T : List Addr}, Ents C Z H S vs ss → Ents C Z H T us ts → Ents C Z H (S ++ T) (vs ++ us) (ss ++ ts) := by
  induction ss with
  | nil =>
    intro vs us S T h k
    cases h
    exact k
  | cons s ss ih =>
    intro vs us S T h k
    cases h with
    | cons h1 h2 =>
      have := Ents.cons h1 (ih h2 k)
      rw [← List.append_assoc] at this
      exact this
theorem Ents.rev {ss : List Sl} : ∀ {vs : List (Option V)} {S : List Addr}, Ents C Z H S vs ss → ∃ S', S'.Perm S ∧ Ents C Z H S' vs.reverse ss.reverse := by
  induction ss with
  | nil =>
    intro vs S h
    cases h
    exact ⟨_, .refl _, .nil⟩
  | cons s ss ih =>
    intro vs S h
    cases h with
    | @cons A B _ _ _ _ h1 h2 =>
      obtain ⟨S', p, q⟩ := ih h2
      have := Ents.append q (.cons h1 .nil)
      rw [List.append_nil] at this
      rw [List.reverse_cons, List.reverse_cons]
      exact ⟨_, List.perm_append_comm.trans (List.Perm.append_left A p), this⟩
theorem RelX.popF {ss : List Sl} {us : List V} (h : RelX C Z S1 S2 ⟨sl, ss ++ tm, n⟩ (us ++ Θ) σ H) (el : us.length = ss.length) : ∃ A B, Ents C Z H A (us.map some) ss ∧ RelX C Z S1 B ⟨sl, tm, n⟩ Θ σ H ∧ Fl C Z S1 B H A := by
  obtain ⟨fr, es, et, nd, nz, pu, ex, dj, al⟩ := h
  dsimp only at es et al pu
  rw [List.map_append] at et
  obtain ⟨A, B, rfl, e1, e2⟩ := et.split (by rw [List.length_map, el])
  have pm : (S1 ++ (A ++ B)).Perm (A ++ (S1 ++ B)) := by
    rw [← List.append_assoc, ← List.append_assoc]
    exact List.Perm.append_right B List.perm_append_comm
  have nd2 := pm.nodup_iff.mp nd
  refine ⟨A, B, e1, ⟨fr, es, e2, (List.nodup_append.mp nd2).2.1, fun a m => nz a (pm.mem_iff.mpr (List.mem_append_right _ m)), fun p b q => ⟨(pu p b q).1, (pu p b q).2.1, fun m => (pu p b q).2.2 (pm.mem_iff.mpr (List.mem_append_right _ m))⟩, ex, dj, fun k j π u e ev => al (ss.length + k) j π u ?_ ?_⟩, nd2, fun a m => ⟨nz a (pm.mem_iff.mpr (List.mem_append_left _ m)), fun p b q z => (pu p b q).2.2 (z ▸ pm.mem_iff.mpr (List.mem_append_left _ m)), e1.dom a m⟩⟩
  · rw [List.getElem?_append_right (by omega)]
    simpa using e
  · rw [List.getElem?_append_right (by omega)]
    simpa [el] using ev
theorem RelX.pushF {A' Dr : List Addr} (h : RelX C Z S1 S2 ⟨sl, tm, n⟩ Θ σ H) (f : Fl C Z S1 S2 H A) (pm : A.Perm (A' ++ Dr)) (en : Ent C Z H A' (some v) s) (na : ∀ i π, s ≠ .al i π) : RelX C Z S1 (A' ++ S2) ⟨sl, s :: tm, n⟩ (v :: Θ) σ H := by
  have sub : ∀ a ∈ A', a ∈ A := fun a m => pm.mem_iff.mpr (List.mem_append_left _ m)
  refine h.pushE (Z' := Z) en (List.nodup_append.mp (pm.nodup_iff.mp (List.nodup_append.mp f.nd).1)).1 (fun a m => ⟨fun z => (List.nodup_append.mp f.nd).2.2 a (sub a m) a z rfl, (f.ok a (sub a m)).1, (f.ok a (sub a m)).2.1⟩) na
theorem RelX.growF (h : RelX C Z S1 S2 γ Θ σ H) (f : Fl C Z S1 S2 H A) : RelX C (fun a => Z a ∨ a ∈ A) S1 S2 γ Θ σ H := by
  refine ⟨fun a o e m => ⟨(h.fr a o e m).1.imp .inl id, (h.fr a o e m).2⟩, h.es.mono (fun _ _ h => h) (fun _ z => .inl z) (fun _ _ _ h => h) (fun _ _ _ h => h), h.et.mono (fun _ _ h => h) (fun _ z => .inl z) (fun _ _ _ h => h) (fun _ _ _ h => h), h.nd, fun a m => ?_, fun p b q => ⟨(h.pu p b q).1, ?_, (h.pu p b q).2.2⟩, fun a z => ?_, fun a z => z.elim (h.dj a) fun m q => (f.ok a m).1 (.inr q), h.al⟩
  · rintro ((z | z) | z)
    · exact h.nz a m (.inl z)
    · exact (List.nodup_append.mp f.nd).2.2 a z a m rfl
    · exact h.nz a m (.inr z)
  · rintro ((z | z) | z)
    · exact (h.pu p b q).2.1 (.inl z)
    · exact (f.ok p z).2.1 p b q rfl
    · exact (h.pu p b q).2.1 (.inr z)
  · rcases z with (z | z) | z
    · exact h.ex a (.inl z)
    rotate_left
    · exact h.ex a (.inr z)
    · obtain ⟨xs, e⟩ := (f.ok a z).2.2
      exact ⟨_, e⟩
/-- what items give -/
def con : Sl → Option (Bool × D)
  | .fz d => some (nolist d, d)
  | .ow b d => some (b, d)
  | _ => none
def cont : List Sl → Option (Bool × List D)
  | [] => some (true, [])
  | s :: ss => (con s).bind fun x => (cont ss).bind fun y => some (x.1 && y.1, x.2 :: y.2)
theorem Ent.con {S : List Addr} {b : Bool} (h : Ent C Z H S (some v) s) (e : con s = some (b, d)) : Tr H (rgn b Z) S v d := by
  have up : ∀ {S d}, Tr H noReg S v d → Tr H (rgn b Z) S v d := fun {S d} t => Tr.mono (fun _ _ h => h) (fun _ z => z.elim) (fun _ z => z.elim) _ _ _ t fun _ _ _ h => h
  cases h with
  | jk v => cases e
  | fz t =>
    simp only [G.con, Option.some.injEq, Prod.mk.injEq] at e
    obtain ⟨e1, rfl⟩ := e
    cases b with
    | true => exact (Tr.nolist _ _ _ t e1).2
    | false => exact t
  | ow t =>
    simp only [G.con, Option.some.injEq, Prod.mk.injEq] at e
    obtain ⟨e1, rfl⟩ := e
    exact up t
  | sp h1 t =>
    simp only [G.con, Option.some.injEq, Prod.mk.injEq] at e
    obtain ⟨rfl, rfl⟩ := e
    exact .lst h1 t
  | al v i π => cases e
  | pu e' => cases e
  | io t e' => cases e
  | dc _ _ => cases e
  | dt _ _ => cases e
  | sh _ _ => cases e
  | xv _ _ => cases e
  | ho _ _ _ => cases e
  | xw _ => cases e
  | ob _ _ _ => cases e
theorem rgn_mono {b b' : Bool} (h : b' = true → b = true) : ∀ a, rgn b Z a → rgn b' Z a := fun a z => by
  cases b with
  | true => exact z.elim
  | false =>
    cases b' with
    | true => exact absurd (h rfl) (by simp)
    | false => exact z
theorem Tr.weak {Z' : Reg} {S : List Addr} (t : Tr H Z S v d) (h : ∀ a, Z a → Z' a) : Tr H Z' S v d := Tr.mono (fun _ _ h => h) h (fun _ _ _ h => h) _ _ _ t fun _ _ _ h => h
theorem Trs.weak {Z' : Reg} {S : List Addr} {vs : List V} {ds : List D} (t : Trs H Z S vs ds) (h : ∀ a, Z a → Z' a) : Trs H Z' S vs ds := Trs.mono (fun _ _ h => h) h (fun _ _ _ h => h) _ _ _ t fun _ _ _ h => h
theorem Ents.cont : ∀ {ss : List Sl} {vs : List V} {S : List Addr} {b : Bool} {ds : List D}, Ents C Z H S (vs.map some) ss → cont ss = some (b, ds) → Trs H (rgn b Z) S vs ds
  | [], [], _, b, ds, h, e => by
    cases h
    simp only [G.cont, Option.some.injEq, Prod.mk.injEq] at e
    obtain ⟨rfl, rfl⟩ := e
    exact .nil
  | [], v :: vs, _, b, ds, h, e => by cases h
  | s :: ss, [], _, b, ds, h, e => by cases h
  | s :: ss, v :: vs, _, b, ds, h, e => by
    cases h with
    | cons h1 h2 =>
      simp only [G.cont] at e
      cases q1 : con s with
      | none => rw [q1] at e; cases e
      | some x =>
        cases q2 : G.cont ss with
        | none => rw [q1, q2] at e; cases e
        | some y =>
          rw [q1, q2] at e
          simp only [Option.bind_some, Option.some.injEq, Prod.mk.injEq] at e
          obtain ⟨rfl, rfl⟩ := e
          have t1 := h1.con (b := x.1) (d := x.2) q1
          have t2 := Ents.cont (b := y.1) (ds := y.2) h2 q2
          refine .cons (t1.weak (rgn_mono fun z => ?_)) (t2.weak (rgn_mono fun z => ?_))
          · rw [Bool.and_eq_true] at z
            exact z.1
          · rw [Bool.and_eq_true] at z
            exact z.2
/-- a new container -/
def mkS (l b : Bool) (ds : List D) : Sl := if b then own (dq l ds) else if l then .ow false (.list ds) else .fz (.tuple ds)
theorem Tr.mk {l : Bool} {S : List Addr} {vs : List V} {ds : List D} {p : Addr} (e : H p = some (hoq l vs)) (t : Trs H Z S vs ds) : Tr H Z (if l then p :: S else S) (.ref p) (dq l ds) := by
  cases l with
  | true => exact .lst e t
  | false => exact .tup e t
theorem Rel.cont {ss : List Sl} {vs : List V} {b l : Bool} {ds : List D} {p : Addr} (h : Rel C ⟨sl, ss.reverse ++ tm, n⟩ (vs.reverse ++ Θ) σ H) (el : vs.length = ss.length) (e : cont ss = some (b, ds)) (hp : H p = none) :
    Rel C ⟨sl, mkS l b ds :: tm, n⟩ (.ref p :: Θ) σ (upd H p (hoq l vs)) := by
  have h1 := h.same (same_upd (o := hoq l vs) hp)
  obtain ⟨Z0, A1, A2, h0⟩ := h
  -- p is new
  have newp : ∀ a, (∃ xs, H a = some xs) → a ≠ p := fun a ⟨o, z⟩ e => by rw [e, hp] at z; cases z
  obtain ⟨A0, B0, e0, r0, f0⟩ := h0.popF (by simp [el])
  have kz : ∀ a o, H a = some o → upd H p (hoq l vs) a = some o := same_upd hp
  have r1 : RelX C Z0 A1 B0 ⟨sl, tm, n⟩ Θ σ (upd H p (hoq l vs)) := by
    refine ⟨fun a o e m => ⟨(r0.fr a o e m).1, kz a o (r0.fr a o e m).2⟩, r0.es.mono (fun t vs e => kz t _ e) (fun _ z => z) (fun a _ o e => kz a o e) (fun a _ o e => kz a o e), r0.et.mono (fun t vs e => kz t _ e) (fun _ z => z) (fun a _ o e => kz a o e) (fun a _ o e => kz a o e), r0.nd, r0.nz, fun q b e => ⟨(r0.pu q b e).1.mono (kz q), (r0.pu q b e).2⟩, fun a z => ?_, r0.dj, fun k j π u e ev => ?_⟩
    · obtain ⟨o, e⟩ := r0.ex a z
      exact ⟨o, kz a o e⟩
    · obtain ⟨s, d', e', w, g1, g2, g3, g4, wk⟩ := r0.al k j π u e ev
      obtain ⟨w', T', ew, t, sub⟩ := r0.slot g1 g2
      rw [g4] at ew
      cases ew
      exact ⟨s, d', e', w, g1, g2, g3, g4, (Tr.part t g3 wk).2 _ (fun t vs e => kz t _ e) fun a _ o e => kz a o e⟩
  obtain ⟨A, pmA, e3⟩ := e0.rev
  rw [← List.map_reverse, List.reverse_reverse, List.reverse_reverse] at e3
  have f1 : Fl C Z0 A1 B0 (upd H p (hoq l vs)) A := ⟨(List.Perm.append_right _ pmA).nodup_iff.mpr f0.nd, fun a m => by
    obtain ⟨q1, q2, xs, q3⟩ := f0.ok a (pmA.mem_iff.mp m)
    exact ⟨q1, q2, xs, kz a _ q3⟩⟩
  have e4 : Ents C Z0 (upd H p (hoq l vs)) A (vs.map some) ss := e3.mono (fun t vs e => kz t _ e) (fun _ z => z) (fun a _ o e => kz a o e) (fun a _ o e => kz a o e)
  have t := e4.cont e
  have upS : upd H p (hoq l vs) p = some (hoq l vs) := upd_same
  -- the new list itself
  have f2 : ∀ xs, hoq l vs = .lst xs → Fl C Z0 A1 B0 (upd H p (hoq l vs)) (p :: A) := fun xs ex => by
    refine ⟨?_, fun a m => ?_⟩
    · rw [List.cons_append]
      refine List.nodup_cons.mpr ⟨fun m => ?_, f1.nd⟩
      rcases List.mem_append.mp m with m | m
      · obtain ⟨ys, q⟩ := (f0.ok p (pmA.mem_iff.mp m)).2.2
        rw [hp] at q
        cases q
      · rcases List.mem_append.mp m with m | m
        · obtain ⟨ys, q⟩ := r0.es.dom p m
          rw [hp] at q
          cases q
        · obtain ⟨ys, q⟩ := r0.et.dom p m
          rw [hp] at q
          cases q
    · rcases List.mem_cons.mp m with rfl | m
      · refine ⟨fun z => ?_, fun q b e z => ?_, _, upS⟩
        · obtain ⟨o, q⟩ := r0.ex a z
          rw [hp] at q
          cases q
        · subst z
          obtain ⟨x, y, z, e2, _⟩ := (r0.pu a b e).1
          rw [hp] at e2
          cases e2
      · exact f1.ok a m
  cases b with
  | true =>
    show Rel C ⟨sl, own (dq l ds) :: tm, n⟩ _ σ _
    unfold own
    by_cases hn : nolist (dq l ds) = true
    · rw [if_pos hn]
      refine Rel.push ⟨_, _, _, r1⟩ fun Z => ?_
      exact (Tr.nolist _ _ _ (Tr.mk upS t) hn).2
    · rw [if_neg hn]
      cases l with
      | true => exact ⟨_, _, _, r1.pushF (f2 _ rfl) (A' := p :: A) (Dr := []) (by simp) (.ow (Tr.mk (l := true) upS t)) (fun i π z => nomatch z)⟩
      | false => exact ⟨_, _, _, r1.pushF f1 (A' := A) (Dr := []) (by simp) (.ow (Tr.mk (l := false) upS t)) (fun i π z => nomatch z)⟩
  | false =>
    cases l with
    | true => exact ⟨_, _, _, r1.pushF (f2 _ rfl) (A' := p :: A) (Dr := []) (by simp) (.sp upS t) (fun i π z => nomatch z)⟩
    | false =>
      have g := r1.growF f1
      have t2 : Tr (upd H p (hoq false vs)) (fun a => Z0 a ∨ a ∈ A) [] (.ref p) (.tuple ds) := .tup upS (Trs.freeze (fun _ z => .inl z) _ _ _ t fun _ m => .inr m)
      exact ⟨_, _, _, g.pushE (Z' := fun _ => False) (.fz t2) List.nodup_nil (fun a m => nomatch m) (fun i π z => nomatch z)⟩
/-- a tuple's items, all at once -/
def itS : Sl → Option (List Sl)
  | .fz (.tuple ds) => some (ds.map .fz)
  | .ow true (.tuple ds) => some (ds.map own)
  | _ => none
theorem Trs.own : ∀ {ds : List D} {vs : List V} {S : List Addr}, Trs H noReg S vs ds → Ents C Z H S (vs.map some) (ds.map G.own)
  | [], _, _, h => by cases h; exact .nil
  | d :: ds, _, _, h => by
    cases h with
    | @cons S T v _ _ _ h1 h2 =>
      refine .cons ?_ (Trs.own h2)
      unfold G.own
      by_cases hn : G.nolist d = true
      · rw [if_pos hn]
        obtain ⟨rfl, t⟩ := Tr.nolist (Z' := Z) _ _ _ h1 hn
        exact .fz t
      · rw [if_neg hn]
        exact .ow h1
theorem Trs.fzs : ∀ {ds : List D} {vs : List V} {S : List Addr}, Trs H Z S vs ds → S = [] → Ents C Z H [] (vs.map some) (ds.map Sl.fz)
  | [], _, _, h, _ => by cases h; exact .nil
  | d :: ds, _, _, h, e => by
    cases h with
    | cons h1 h2 =>
      obtain ⟨rfl, rfl⟩ := List.append_eq_nil_iff.mp e
      exact .cons (S := []) (.fz h1) (Trs.fzs h2 rfl)
theorem RelX.pushEs {ss : List Sl} {us : List V} (h : RelX C Z S1 S2 ⟨sl, tm, n⟩ Θ σ H) (f : Fl C Z S1 S2 H A) (en : Ents C Z H A (us.map some) ss) (na : ∀ s ∈ ss, ∀ i π, s ≠ .al i π) : RelX C Z S1 (A ++ S2) ⟨sl, ss ++ tm, n⟩ (us ++ Θ) σ H := by
  have pm : (S1 ++ (A ++ S2)).Perm (A ++ (S1 ++ S2)) := by
    rw [← List.append_assoc, ← List.append_assoc]
    exact List.Perm.append_right S2 List.perm_append_comm
  have el : us.length = ss.length := by simpa using en.length
  refine ⟨h.fr, h.es, by rw [List.map_append]; exact en.append h.et, pm.nodup_iff.mpr f.nd, fun a m => ?_, fun p b q => ⟨(h.pu p b q).1, (h.pu p b q).2.1, fun m => ?_⟩, h.ex, h.dj, fun k j π u e ev => ?_⟩
  · rcases List.mem_append.mp (pm.mem_iff.mp m) with m | m
    · exact (f.ok a m).1
    · exact h.nz a m
  · rcases List.mem_append.mp (pm.mem_iff.mp m) with m | m
    · exact (f.ok p m).2.1 p b q rfl
    · exact (h.pu p b q).2.2 m
  · by_cases hk : k < ss.length
    · change (ss ++ tm)[k]? = _ at e
      rw [List.getElem?_append_left hk] at e
      exact absurd rfl (na _ (List.mem_of_getElem? e) j π)
    · refine h.al (k - ss.length) j π u ?_ ?_
      · rw [List.getElem?_append_right (by omega)] at e
        exact e
      · rw [List.getElem?_append_right (by omega), el] at ev
        exact ev
theorem Rel.unpack {ss : List Sl} (h : Rel C ⟨sl, s :: tm, n⟩ (v :: Θ) σ H) (e : itS s = some ss) : ∃ a vs, v = .ref a ∧ H a = some (.tup vs) ∧ vs.length = ss.length ∧ Rel C ⟨sl, ss ++ tm, n⟩ (vs ++ Θ) σ H := by
  obtain ⟨Z, S1, S2, h⟩ := h
  obtain ⟨A, B, es, r, f⟩ := RelX.popF (ss := [s]) (us := [v]) h rfl
  have es' : ∃ A', Ent C Z H A' (some v) s ∧ A = A' := by
    cases es with
    | cons e1 e2 =>
      cases e2
      exact ⟨_, e1, by simp⟩
  obtain ⟨A', en, rfl⟩ := es'
  cases en with
  | jk v => cases e
  | al v i π => cases e
  | pu q => cases e
  | io t q => cases e
  | dc _ _ => cases e
  | dt _ _ => cases e
  | sh _ _ => cases e
  | xv _ _ => cases e
  | ho _ _ _ => cases e
  | xw _ => cases e
  | ob _ _ _ => cases e
  | sp q t => cases e
  | @fz _ d t =>
    cases d with
    | tuple ds =>
      cases e
      cases t with
      | @tup a vs _ _ q ts =>
        exact ⟨a, vs, rfl, q, by simp [ts.length], Z, S1, _, r.pushEs f (Trs.fzs ts rfl) fun s m i π z => by
          obtain ⟨x, _, rfl⟩ := List.mem_map.mp m
          cases z⟩
    | _ => cases e
  | @ow _ d _ t =>
    cases d with
    | tuple ds =>
      cases e
      cases t with
      | @tup a vs _ _ q ts =>
        exact ⟨a, vs, rfl, q, by simp [ts.length], Z, S1, _, r.pushEs f (Trs.own ts) fun s m i π z => by
          obtain ⟨x, _, rfl⟩ := List.mem_map.mp m
          unfold G.own at z
          split at z <;> cases z⟩
    | _ => cases e
end
section
variable {C : Cn} {Z : Reg} {S1 S2 A : List Addr} {γ : VSt} {Θ : List V} {σ : L2.St} {H H' : Hp} {sl tm : List Sl} {n n' : Int} {v : V} {s : Sl} {d : D} {i : Nat}
/-- cells of two slots are apart -/
theorem Ents.apart : ∀ {ss : List Sl} {S : List Addr} {vs : List (Option V)} {i j : Nat} {si sj : Sl}, Ents C Z H S vs ss → ss[i]? = some si → ss[j]? = some sj → i ≠ j → S.Nodup → ∃ vi Ti vj Tj, vs[i]? = some vi ∧ vs[j]? = some vj ∧ Ent C Z H Ti vi si ∧ Ent C Z H Tj vj sj ∧ (∀ x ∈ Ti, x ∈ S ∧ x ∉ Tj) ∧ ∀ x ∈ Tj, x ∈ S
  | [], _, _, _, _, _, _, _, e, _, _, _ => by simp at e
  | s :: ss, _, _, 0, 0, _, _, _, _, _, ne, _ => absurd rfl ne
  | s :: ss, _, _, 0, j + 1, _, _, h, ei, ej, _, nd => by
    cases h with
    | @cons S T _ _ _ _ h1 h2 =>
      simp at ei ej
      subst ei
      obtain ⟨v, T1, R, e1, en, pm, _⟩ := h2.at ej
      exact ⟨_, _, v, T1, rfl, by simpa using e1, h1, en, fun x m => ⟨List.mem_append_left _ m, fun m' => (List.nodup_append.mp nd).2.2 x m x (pm.mem_iff.mpr (List.mem_append_left _ m')) rfl⟩, fun x m => List.mem_append_right _ (pm.mem_iff.mpr (List.mem_append_left _ m))⟩
  | s :: ss, _, _, i + 1, 0, _, _, h, ei, ej, _, nd => by
    cases h with
    | @cons S T _ _ _ _ h1 h2 =>
      simp at ei ej
      subst ej
      obtain ⟨v, T1, R, e1, en, pm, _⟩ := h2.at ei
      exact ⟨v, T1, _, _, by simpa using e1, rfl, en, h1, fun x m => ⟨List.mem_append_right _ (pm.mem_iff.mpr (List.mem_append_left _ m)), fun m' => (List.nodup_append.mp nd).2.2 x m' x (pm.mem_iff.mpr (List.mem_append_left _ m)) rfl⟩, fun x m => List.mem_append_left _ m⟩
  | s :: ss, _, _, i + 1, j + 1, _, _, h, ei, ej, ne, nd => by
    cases h with
    | @cons S T _ _ _ _ h1 h2 =>
      obtain ⟨vi, Ti, vj, Tj, a, b, c, d, e, f⟩ := Ents.apart (i := i) (j := j) h2 (by simpa using ei) (by simpa using ej) (by omega) (List.nodup_append.mp nd).2.1
      exact ⟨vi, Ti, vj, Tj, by simpa using a, by simpa using b, c, d, fun x m => ⟨List.mem_append_right _ (e x m).1, (e x m).2⟩, fun x m => List.mem_append_right _ (f x m)⟩
theorem setP_nil {d x : D} : setP d [] x = x := by cases d <;> rfl
/-- what stands in a name behind a write -/
def reS (s : Sl) (b : Bool) (d : D) : Sl := match s with
  | .io _ => .io d
  | _ => .ow b d
/-- a list that a name owns is written -/
theorem RelX.putF {b : Bool} {s0 : Sl} {π : List Nat} {es : List D} {w0 : V} (h : RelX C Z S1 S2 ⟨sl, tm, n⟩ Θ σ H) (f : Fl C Z S1 S2 H A) (e : sl[i]? = some s0) (hs : s0 = .ow b d ∨ (s0 = .io d ∧ b = true)) (na : noAl i tm = true) (ew : σ[i]? = some (some w0)) (wk : Wk H w0 π v) (p : atP d π = some (.list es)) (hb : b = true ∨ π = []) :
    ∃ a vs T, v = .ref a ∧ H a = some (.lst vs) ∧ Trs H (rgn b Z) T vs es ∧ a ∉ A ∧ ¬ Z a ∧ (∀ x ∈ T, x ≠ a) ∧
      ∀ us es' b' T' Dr, (b' = b ∨ (b' = false ∧ π = [])) → (∀ x, s0 = .io x → b' = true) → Trs (upd H a (.lst us)) (rgn b' Z) T' us es' → (T ++ A).Perm (T' ++ Dr) → ∃ S1', RelX C Z S1' S2 ⟨sl.set i (reS s0 b' (setP d π (.list es'))), tm, n⟩ Θ σ (upd H a (.lst us)) ∧ Fl C Z S1' S2 (upd H a (.lst us)) Dr := by
  obtain ⟨v0, T0, R0, ev, en, pm, k⟩ := h.es.at e
  rw [ew] at ev
  cases ev
  have eσ : σ.set i (some w0) = σ := by
    refine List.ext_getElem? fun j => ?_
    by_cases hj : i = j
    · subst hj
      rw [List.getElem?_set_self (List.getElem?_eq_some_iff.mp ew).1, ew]
    · rw [List.getElem?_set_ne hj]
  -- the cells of the slot's tree
  have key : ∃ a vs T R, v = .ref a ∧ H a = some (.lst vs) ∧ Trs H (rgn b Z) T vs es ∧ T0.Perm (a :: T ++ R) ∧
      ∀ us es' b' T', T0.Nodup → (b' = b ∨ (b' = false ∧ π = [])) → (∀ x, s0 = .io x → b' = true) → Trs (upd H a (.lst us)) (rgn b' Z) T' us es' → ∃ E X, Ent C Z (upd H a (.lst us)) E (some w0) (reS s0 b' (setP d π (.list es'))) ∧ (E ++ X).Perm (a :: T' ++ R) := by
    rcases hs with rfl | ⟨rfl, rfl⟩
    case inr =>
      cases en with
      | io t eio =>
        obtain ⟨a, vs, T, R, rfl, ha, ts, p0, kk⟩ := Tr.put t p wk
        refine ⟨a, vs, T, R, rfl, ha, ts, p0, fun us es' b' T' nd hb' hio t' => ?_⟩
        obtain rfl := hio _ rfl
        obtain ⟨S', t2, p2⟩ := kk us es' T' nd t'
        exact ⟨S', [], .io t2 eio, by simpa using p2⟩
    cases en with
    | ow t =>
      obtain ⟨a, vs, T, R, rfl, ha, ts, p0, kk⟩ := Tr.put t p wk
      refine ⟨a, vs, T, R, rfl, ha, ts, p0, fun us es' b' T' nd hb' _ t' => ?_⟩
      rcases hb' with rfl | ⟨rfl, rfl⟩
      · obtain ⟨S', t2, p2⟩ := kk us es' T' nd t'
        exact ⟨S', [], .ow t2, by simpa using p2⟩
      · cases wk
        refine ⟨a :: T', R, ?_, .refl _⟩
        rw [setP_nil]
        exact .sp upd_same t'
    | @sp a0 vs0 ds0 T1 ha t =>
      have e0 : π = [] := hb.elim (fun z => by cases z) id
      subst e0
      cases wk
      simp only [atP, Option.some.injEq, PyData.list.injEq] at p
      subst p
      refine ⟨a0, vs0, T1, [], rfl, ha, t, by simp, fun us es' b' T' nd hb' _ t' => ?_⟩
      have e1 : b' = false := hb'.elim id fun z => z.1
      subst e1
      refine ⟨a0 :: T', [], ?_, by simp⟩
      rw [setP_nil]
      exact .sp upd_same t'
  obtain ⟨a, vs, T, R, rfl, ha, ts, p0, kk⟩ := key
  have cnt : ∀ x, List.count x S1 = List.count x (a :: T ++ R) + List.count x R0 := fun x => by
    have q1 := pm.count_eq x
    have q2 := p0.count_eq x
    rw [List.count_append] at q1
    omega
  have ndf : ∀ x, List.count x A + (List.count x S1 + List.count x S2) ≤ 1 := fun x => by
    have := nodup_cnt.mp f.nd x
    rw [List.count_append, List.count_append] at this
    exact this
  have aS : a ∈ S1 := pm.mem_iff.mpr (List.mem_append_left _ (p0.mem_iff.mpr (by simp)))
  have cpos : ∀ {x : Addr} {l : List Addr}, x ∈ l → 0 < List.count x l := fun h => List.count_pos_iff.mpr h
  have ca : List.count a (a :: T ++ R) = 1 + (List.count a T + List.count a R) := by
    rw [List.count_append, List.count_cons]
    simp
    omega
  have aA : a ∉ A := fun m => by
    have := cpos m
    have := ndf a
    have := cnt a
    omega
  have aR0 : a ∉ R0 := fun m => by
    have := cpos m
    have := ndf a
    have := cnt a
    omega
  have aS2 : a ∉ S2 := fun m => by
    have := cpos m
    have := ndf a
    have := cnt a
    omega
  have aT : ∀ x ∈ T, x ≠ a := fun x m z => by
    subst z
    have := cpos m
    have := ndf x
    have := cnt x
    omega
  refine ⟨a, vs, T, rfl, ha, ts, aA, fun z => h.nz a (List.mem_append_left _ aS) (.inl z), aT, fun us es' b' T' Dr hb' hio t' pD => ?_⟩
  have T0nd : T0.Nodup := nodup_cnt.mpr fun x => by
    have := ndf x
    have := pm.count_eq x
    rw [List.count_append] at this
    omega
  obtain ⟨E, X, en', pE⟩ := kk us es' b' T' T0nd hb' hio t'
  have aZ : ¬ C.tz Z a := h.nz a (List.mem_append_left _ aS)
  have ap : ∀ q b0, C.pu = some (q, b0) → q ≠ a := fun q b0 eq z => (h.pu q b0 eq).2.2 (z ▸ List.mem_append_left _ aS)
  have kt : ∀ t xs, H t = some (.tup xs) → upd H a (.lst us) t = some (.tup xs) := fun t xs et => by
    rw [upd_ne (show t ≠ a from fun z => by rw [z, ha] at et; cases et)]
    exact et
  have kz0 : ∀ x, C.tz Z x → ∀ o, H x = some o → upd H a (.lst us) x = some o := fun x z o eo => by
    rw [upd_ne (show x ≠ a from fun q => aZ (q ▸ z))]
    exact eo
  have kz : ∀ x, Z x → ∀ o, H x = some o → upd H a (.lst us) x = some o := fun x z => kz0 x (.inl z)
  have kne : ∀ x, x ≠ a → ∀ o, H x = some o → upd H a (.lst us) x = some o := fun x q o eo => by
    rw [upd_ne q]
    exact eo
  obtain ⟨S1', es1, p1⟩ := k (upd H a (.lst us)) Z E (some w0) _ kt (fun _ z => z) kz (fun x m => kne x fun q => aR0 (q ▸ m)) en'
  rw [eσ] at es1
  have cnt2 : ∀ x, List.count x S1' + List.count x X = List.count x (a :: T' ++ R) + List.count x R0 := fun x => by
    have q1 := p1.count_eq x
    have q2 := pE.count_eq x
    rw [List.count_append] at q1 q2
    omega
  have cD : ∀ x, List.count x T + List.count x A = List.count x T' + List.count x Dr := fun x => by
    have := pD.count_eq x
    rw [List.count_append, List.count_append] at this
    exact this
  have call : ∀ x, List.count x Dr + (List.count x S1' + List.count x S2) ≤ 1 := fun x => by
    have h1 := ndf x
    have h2 := cnt x
    have h3 := cnt2 x
    have h4 := cD x
    have e1 : List.count x (a :: T ++ R) = List.count x [a] + (List.count x T + List.count x R) := by
      rw [List.cons_append, ← List.singleton_append, List.count_append, List.count_append]
    have e2 : List.count x (a :: T' ++ R) = List.count x [a] + (List.count x T' + List.count x R) := by
      rw [List.cons_append, ← List.singleton_append, List.count_append, List.count_append]
    omega
  have memS : ∀ x, x ∈ S1' ∨ x ∈ Dr → x ∈ S1 ∨ x ∈ A := fun x m => by
    have h2 := cnt x
    have h3 := cnt2 x
    have h4 := cD x
    have e1 : List.count x (a :: T ++ R) = List.count x [a] + (List.count x T + List.count x R) := by
      rw [List.cons_append, ← List.singleton_append, List.count_append, List.count_append]
    have e2 : List.count x (a :: T' ++ R) = List.count x [a] + (List.count x T' + List.count x R) := by
      rw [List.cons_append, ← List.singleton_append, List.count_append, List.count_append]
    rcases Nat.lt_or_ge 0 (List.count x S1) with z | z
    · exact .inl (List.count_pos_iff.mp z)
    · rcases Nat.lt_or_ge 0 (List.count x A) with z' | z'
      · exact .inr (List.count_pos_iff.mp z')
      · exfalso
        rcases m with m | m
        · have := cpos m
          omega
        · have := cpos m
          omega
  have fr : ∀ x ∈ S1 ++ S2, ¬ C.tz Z x ∧ ∀ q b0, C.pu = some (q, b0) → x ≠ q := h.frame
  refine ⟨S1', ⟨fun x o eo m => ⟨(h.fr x o eo m).1, kz0 x (h.fr x o eo m).1 o (h.fr x o eo m).2⟩, es1, h.et.mono kt (fun _ z => z) kz fun x m => kne x fun q => aS2 (q ▸ m), ?_, fun x m => ?_, fun q b0 eq => ⟨(h.pu q b0 eq).1.mono fun o eo => kne q (ap q b0 eq) o eo, (h.pu q b0 eq).2.1, fun m => ?_⟩, fun x z => ?_, h.dj, fun j i' π' u e' ev' => ?_⟩, ⟨?_, fun x m => ?_⟩⟩
  · refine nodup_cnt.mpr fun x => ?_
    rw [List.count_append]
    have := call x
    omega
  · rcases List.mem_append.mp m with m | m
    · rcases memS x (.inl m) with q | q
      · exact h.nz x (List.mem_append_left _ q)
      · exact (f.ok x q).1
    · exact h.nz x (List.mem_append_right _ m)
  · rcases List.mem_append.mp m with m | m
    · rcases memS q (.inl m) with z | z
      · exact (h.pu q b0 eq).2.2 (List.mem_append_left _ z)
      · exact (f.ok q z).2.1 q b0 eq rfl
    · exact (h.pu q b0 eq).2.2 (List.mem_append_right _ m)
  · obtain ⟨o, eo⟩ := h.ex x z
    exact ⟨o, kz0 x z o eo⟩
  · obtain ⟨s1, d', e3, w', g1, g2, g3, g4, wk'⟩ := h.al j i' π' u e' ev'
    have hj := al_set na e'
    refine ⟨s1, d', e3, w', (List.getElem?_set_ne hj).trans g1, g2, g3, g4, ?_⟩
    -- the other slot's tree is kept
    obtain ⟨vi, Ti, vj, Tj, f1, f2, f3, f4, f5, _⟩ := Ents.apart h.es e g1 hj (List.nodup_append.mp h.nd).1
    rw [ew] at f1
    cases f1
    rw [g4] at f2
    cases f2
    obtain ⟨w1, Tw, ew1, t1, sbw⟩ := f4.tr g2
    cases ew1
    have aT1 : a ∉ Tw := fun mz => by
      revert mz
      refine fun mz => (f5 a ?_).2 (sbw a mz)
      rcases hs with rfl | ⟨rfl, rfl⟩
      case inr =>
        cases en with
        | io t _ =>
          cases f3 with
          | io t' _ =>
            have uq := repU _ _ _ _ (Tr.repO _ _ _ t) (Tr.repO _ _ _ t')
            rw [← uq]
            exact p0.mem_iff.mpr (by simp)
      cases en with
      | ow t =>
        cases f3 with
        | ow t' =>
          have uq := repU _ _ _ _ (Tr.repO _ _ _ t) (Tr.repO _ _ _ t')
          rw [← uq]
          exact p0.mem_iff.mpr (by simp)
      | sp q t =>
        cases f3 with
        | sp q' t' =>
          have e0 : π = [] := hb.elim (fun z => by cases z) id
          subst e0
          cases wk
          simp
    exact (Tr.part t1 g3 wk').2 _ kt fun x z => z.elim (kz x) fun m => kne x fun q => aT1 (q ▸ m)
  · refine nodup_cnt.mpr fun x => ?_
    rw [List.count_append, List.count_append]
    exact call x
  · rcases memS x (.inr m) with q | q
    · refine ⟨h.nz x (List.mem_append_left _ q), (fr x (List.mem_append_left _ q)).2, ?_⟩
      obtain ⟨xs, eo⟩ := h.es.dom x q
      by_cases hx : x = a
      · exact ⟨_, by rw [hx]; exact upd_same⟩
      · exact ⟨xs, kne x hx _ eo⟩
    · obtain ⟨q1, q2, xs, eo⟩ := f.ok x q
      exact ⟨q1, q2, xs, kne x (fun z => aA (z ▸ q)) _ eo⟩
/-- what is apart from a written cell stays -/
theorem Trs.upd {b : Bool} {a : Addr} {us : List V} {vs0 : List V} {vs : List V} {ds : List D} {T : List Addr} (t : Trs H (rgn b Z) T vs ds) (ha : H a = some (.lst vs0)) (nz : ¬ Z a) (nt : ∀ x ∈ T, x ≠ a) : Trs (upd H a (.lst us)) (rgn b Z) T vs ds := by
  refine Trs.mono (fun t xs et => ?_) (fun _ z => z) (fun x z o e => ?_) _ _ _ t fun x m o e => ?_
  · rw [upd_ne (show t ≠ a from fun z => by rw [z, ha] at et; cases et)]
    exact et
  · rw [upd_ne (show x ≠ a from fun q => ?_)]
    · exact e
    · subst q
      cases b with
      | true => exact z.elim
      | false => exact nz z
  · rw [upd_ne (nt x m)]
    exact e
theorem Tr.upd {b : Bool} {a : Addr} {us : List V} {vs0 : List V} {T : List Addr} (t : Tr H (rgn b Z) T v d) (ha : H a = some (.lst vs0)) (nz : ¬ Z a) (nt : ∀ x ∈ T, x ≠ a) : Tr (upd H a (.lst us)) (rgn b Z) T v d := by
  refine Tr.mono (fun t xs et => ?_) (fun _ z => z) (fun x z o e => ?_) _ _ _ t fun x m o e => ?_
  · rw [upd_ne (show t ≠ a from fun z => by rw [z, ha] at et; cases et)]
    exact et
  · rw [upd_ne (show x ≠ a from fun q => ?_)]
    · exact e
    · subst q
      cases b with
      | true => exact z.elim
      | false => exact nz z
  · rw [upd_ne (nt x m)]
    exact e
end
end G
namespace G
open PySem PySem.Spec PyProof.Rows L2
abbrev KE := VSt → (VSt → Prop) → Prop
abbrev KT := VSt → (Bool → VSt → Prop) → Prop
structure KEd where
  nx : VSt → Prop
  rt : Sl → VSt → Prop
  bk : VSt → Prop
  ct : VSt → Prop
abbrev KS := VSt → KEd → Prop
abbrev KO := VSt → (Option Int → VSt → Prop) → Prop
abbrev KG := VSt → (VSt → Prop) → Prop
/-- where errors go, and which may go there -/
structure XC (C : Cn) where
  E : L2.St → XK
  X : Addr → D → VSt → Prop
  ok : ∀ {c dd : Addr} {d : D} {γ : VSt} {Θ : List V} {σ : L2.St} {H : Hp}, X c d γ → Rel C ⟨γ.sl, .xv dd dd d :: γ.tm, γ.n⟩ (.ref dd :: Θ) σ H → E σ (.ref c) (some dd) H
/-- nothing is raised -/
def noXC (C : Cn) : XC C := ⟨fun _ => E0, fun _ _ _ => False, fun h _ => h.elim⟩
def SoE {C : Cn} (xc : XC C) (t : TE) (k : KE) : Prop := ∀ (γ : VSt) (Θ : List V) (σ : L2.St) (H : Hp) (Q : VK) (q : VSt → Prop), Rel C γ Θ σ H → k γ q → (∀ γ' v H', q γ' → Rel C γ' (v :: Θ) σ H' → Q v H') → t σ H Q
def SoT {C : Cn} (xc : XC C) (t : TT) (k : KT) : Prop := ∀ (γ : VSt) (Θ : List V) (σ : L2.St) (H : Hp) (Q : Bool → Hp → Prop) (q : Bool → VSt → Prop), Rel C γ Θ σ H → k γ q → (∀ b γ' H', q b γ' → Rel C γ' Θ σ H' → Q b H') → t σ H Q
def SoA {C : Cn} (xc : XC C) (n : Nat) (t : TA) (k : KE) : Prop := ∀ (γ : VSt) (Θ : List V) (σ : L2.St) (H : Hp) (Q : List V → Hp → Prop) (q : VSt → Prop), Rel C γ Θ σ H → k γ q → (∀ γ' vs H', vs.length = n → q γ' → Rel C γ' (vs.reverse ++ Θ) σ H' → Q vs H') → t σ H Q
def SoO {C : Cn} (xc : XC C) (t : TO) (k : KO) : Prop := ∀ (γ : VSt) (Θ : List V) (σ : L2.St) (H : Hp) (Q : Option Int → Hp → Prop) (q : Option Int → VSt → Prop), Rel C γ Θ σ H → k γ q → (∀ i γ' H', q i γ' → Rel C γ' Θ σ H' → Q i H') → t σ H Q
/-- a target: the top is stored -/
def SoG {C : Cn} (xc : XC C) (t : TG) (k : KG) : Prop := ∀ (γ : VSt) (v : V) (Θ : List V) (σ : L2.St) (H : Hp) (Q : L2.St → Hp → Prop) (q : VSt → Prop), Rel C γ (v :: Θ) σ H → k γ q → (∀ γ' σ' H', q γ' → Rel C γ' Θ σ' H' → Q σ' H') → t v σ H Q
structure SoD (C : Cn) (Θ : List V) (e : KEd) (De : Ends) : Prop where
  nx : ∀ γ' σ' H', e.nx γ' → Rel C γ' Θ σ' H' → De.nx σ' H'
  rt : ∀ s γ' v Θ' σ' H', e.rt s γ' → Rel C ⟨γ'.sl, s :: γ'.tm, γ'.n⟩ (v :: Θ') σ' H' → De.rt v H'
  bk : ∀ γ' σ' H', e.bk γ' → Rel C γ' Θ σ' H' → De.bk σ' H'
  ct : ∀ γ' σ' H', e.ct γ' → Rel C γ' Θ σ' H' → De.ct σ' H'
def SoS {C : Cn} (xc : XC C) (t : TS) (k : KS) : Prop := ∀ (γ : VSt) (Θ : List V) (σ : L2.St) (H : Hp) (De : Ends) (e : KEd), Rel C γ Θ σ H → k γ e → SoD C Θ e De → t De σ H
variable {C : Cn} {xc : XC C}
/-- a value of data that holds no list: the same in every heap -/
def Sca (v : V) (d : D) : Prop := ∀ (H : Hp) (Z : Reg), Tr H Z [] v d
theorem sca_int (i : Int) : Sca (.int i) (.int i) := fun _ _ => .int i
theorem sca_bl (b : Bool) : Sca (.bl b) (.bool b) := fun _ _ => .bl b
theorem sca_str (x : Str) : Sca (.str x) (.str x) := fun _ _ => .str x
theorem sca_non : Sca .non .none := fun _ _ => .non
section
variable {t t1 t2 ta tb tc : TE} {k k1 k2 ka kb kc : KE} {n m : Nat}
def kC (d : D) : KE := fun γ q => q ⟨γ.sl, .fz d :: γ.tm, γ.n⟩
def kVar (i : Nat) : KE := fun γ q => match γ.sl[i]? with
  | some (.fz d) => q ⟨γ.sl, .fz d :: γ.tm, γ.n⟩
  | some (.ow _ _) => q ⟨γ.sl, .al i [] :: γ.tm, γ.n⟩
  | some (.io _) => q ⟨γ.sl, .al i [] :: γ.tm, γ.n⟩
  | some (.sh _) => q ⟨γ.sl, .al i [] :: γ.tm, γ.n⟩
  | some .pu => q ⟨γ.sl, .pu :: γ.tm, γ.n⟩
  | some (.dc _) => q ⟨γ.sl, .al i [] :: γ.tm, γ.n⟩
  | some (.ob _ _ _) => q ⟨γ.sl, .al i [] :: γ.tm, γ.n⟩
  | _ => False
/-- .. frozen from now on -/
def kFrz (i : Nat) : KE := fun γ q => match γ.sl[i]? with
  | some (.fz d) => q ⟨γ.sl, .fz d :: γ.tm, γ.n⟩
  | some (.ow _ d) => q ⟨γ.sl.set i (.fz d), .fz d :: γ.tm, γ.n⟩
  | some .pu => q ⟨γ.sl, .pu :: γ.tm, γ.n⟩
  | some (.dc m) => q ⟨γ.sl.set i (.fz (dictD m)), .fz (dictD m) :: γ.tm, γ.n⟩
  | _ => False
/-- .. for the last time -/
def kMov (i : Nat) : KE := fun γ q => match γ.sl[i]? with
  | some (.fz d) => q ⟨γ.sl, .fz d :: γ.tm, γ.n⟩
  | some (.ow b d) => noAl i γ.tm = true ∧ q ⟨γ.sl.set i .jk, .ow b d :: γ.tm, γ.n⟩
  | _ => False
theorem so_c {v : V} {d : D} (h : Sca v d) : SoE xc (tC v) (kC d) := fun γ Θ σ H Q q R hk w => w _ v H hk (R.push fun Z => h H Z)
theorem so_var {i : Nat} : SoE xc (tVar i) (kVar i) := fun γ Θ σ H Q q R hk w => by
  unfold kVar at hk
  obtain ⟨sl, tm, n⟩ := γ
  dsimp only at hk
  split at hk
  · rename_i d e
    obtain ⟨v, ev, R'⟩ := R.varF e
    exact ⟨v, ev, w _ v H hk R'⟩
  · rename_i b d e
    obtain ⟨v, ev, R'⟩ := R.varA e rfl
    exact ⟨v, ev, w _ v H hk R'⟩
  · rename_i d e
    obtain ⟨v, ev, R'⟩ := R.varA e rfl
    exact ⟨v, ev, w _ v H hk R'⟩
  · rename_i d e
    obtain ⟨v, ev, R'⟩ := R.varA e rfl
    exact ⟨v, ev, w _ v H hk R'⟩
  · rename_i e
    obtain ⟨p, b, _, ev, R'⟩ := R.varP e
    exact ⟨_, ev, w _ _ H hk R'⟩
  · rename_i m e
    obtain ⟨v, ev, R'⟩ := R.varA e rfl
    exact ⟨v, ev, w _ v H hk R'⟩
  · rename_i q0 C0 fs e
    obtain ⟨v, ev, R'⟩ := R.varA e rfl
    exact ⟨v, ev, w _ v H hk R'⟩
  · exact hk.elim
theorem so_frz {i : Nat} : SoE xc (tVar i) (kFrz i) := fun γ Θ σ H Q q R hk w => by
  unfold kFrz at hk
  obtain ⟨sl, tm, n⟩ := γ
  dsimp only at hk
  split at hk
  · rename_i d e
    obtain ⟨v, ev, R'⟩ := R.varF e
    exact ⟨v, ev, w _ v H hk R'⟩
  · rename_i b d e
    have R1 := R.frzS e
    obtain ⟨v, ev, R'⟩ := R1.varF (i := i) (d := d) (List.getElem?_set_self (List.getElem?_eq_some_iff.mp e).1)
    exact ⟨v, ev, w _ v H hk R'⟩
  · rename_i e
    obtain ⟨p, b, _, ev, R'⟩ := R.varP e
    exact ⟨_, ev, w _ _ H hk R'⟩
  · rename_i m e
    have R1 := R.frzS0 e rfl fun T v en => by cases en with | dc h1 t => exact ⟨_, rfl, t.box h1⟩
    obtain ⟨v, ev, R'⟩ := R1.varF (i := i) (d := dictD m) (List.getElem?_set_self (List.getElem?_eq_some_iff.mp e).1)
    exact ⟨v, ev, w _ v H hk R'⟩
  · exact hk.elim
theorem so_mov {i : Nat} : SoE xc (tVar i) (kMov i) := fun γ Θ σ H Q q R hk w => by
  unfold kMov at hk
  obtain ⟨sl, tm, n⟩ := γ
  dsimp only at hk
  split at hk
  · rename_i d e
    obtain ⟨v, ev, R'⟩ := R.varF e
    exact ⟨v, ev, w _ v H hk R'⟩
  · rename_i b d e
    obtain ⟨v, ev, R'⟩ := R.mov e hk.1
    exact ⟨v, ev, w _ v H hk.2 R'⟩
  · exact hk.elim
def kNil : KE := fun γ q => q γ
def kCons (ka kb : KE) : KE := fun γ q => ka γ fun γ1 => kb γ1 q
theorem so_nil : SoA xc 0 tNil kNil := fun γ Θ σ H Q q R hk w => w γ [] H rfl hk R
theorem so_cons {ts : TA} (h : SoE xc t k) (hs : SoA xc n ts kb) : SoA xc (n + 1) (tCons t ts) (kCons k kb) := fun γ Θ σ H Q q R hk w =>
  h γ Θ σ H _ _ R hk fun γ1 v H1 hk1 R1 => hs γ1 _ σ H1 _ _ R1 hk1 fun γ2 vs H2 el hq R2 => w γ2 (v :: vs) H2 (by simp [el]) hq (by simpa using R2)
/-- the data of the upper n -/
def datN (sl : List Sl) : Nat → List Sl → Option (List D × List Sl)
  | 0, tm => some ([], tm)
  | _ + 1, [] => none
  | n + 1, s :: tm => (look sl s).bind fun d => (datN sl n tm).bind fun x => some (x.1 ++ [d], x.2)
theorem Rel.pops {C : Cn} {sl : List Sl} {σ : L2.St} {H : Hp} {j : Int} : ∀ {n : Nat} {tm r : List Sl} {ds : List D} {vs Θ : List V}, Rel C ⟨sl, tm, j⟩ (vs.reverse ++ Θ) σ H → vs.length = n → datN sl n tm = some (ds, r) → Rel C ⟨sl, r, j⟩ Θ σ H ∧ ∃ T, Reps H T vs ds ∧ ∀ p b, C.pu = some (p, b) → p ∉ T
  | 0, tm, r, ds, vs, Θ, R, el, e => by
    simp only [datN, Option.some.injEq, Prod.mk.injEq] at e
    obtain ⟨rfl, rfl⟩ := e
    match vs, el with
    | [], _ => exact ⟨R, [], .nil, fun _ _ _ z => nomatch z⟩
  | n + 1, [], _, _, _, _, _, _, e => by cases e
  | n + 1, s :: tm, r, ds, vs, Θ, R, el, e => by
    simp only [datN] at e
    cases e1 : look sl s with
    | none => rw [e1] at e; cases e
    | some d =>
      cases e2 : datN sl n tm with
      | none => rw [e1, e2] at e; cases e
      | some x =>
        rw [e1, e2] at e
        simp only [Option.bind_some, Option.some.injEq, Prod.mk.injEq] at e
        obtain ⟨rfl, rfl⟩ := e
        have hne : vs ≠ [] := fun z => by rw [z] at el; cases el
        obtain ⟨us, v, rfl⟩ : ∃ us v, vs = us ++ [v] := ⟨_, _, (List.dropLast_concat_getLast hne).symm⟩
        rw [List.reverse_append] at R
        have R' : Rel C ⟨sl, s :: tm, j⟩ (v :: (us.reverse ++ Θ)) σ H := R
        obtain ⟨T1, r1, n1⟩ := R'.read e1
        have := Rel.pops (n := n) (ds := x.1) (r := x.2) (vs := us) R'.pop (by simpa using el) e2
        obtain ⟨R2, T2, r2, n2⟩ := this
        exact ⟨R2, T2 ++ (T1 ++ []), r2.append (.cons r1 .nil), fun p b q z => by
          rcases List.mem_append.mp z with z | z
          · exact n2 p b q z
          · exact n1 p b q (by simpa using z)⟩
def SoR (r : R2) (f : D → D → (D → Prop) → Prop) : Prop := ∀ (H : Hp) (v1 v2 : V) (T1 T2 : List Addr) (d1 d2 : D) (Q : VK) (q : D → Prop), Rep H T1 v1 d1 → Rep H T2 v2 d2 → f d1 d2 q → (∀ v d, Sca v d → q d → Q v H) → r v1 v2 H Q
def kOp (f : D → D → (D → Prop) → Prop) (ka kb : KE) : KE := fun γ q => ka γ fun γ1 => kb γ1 fun γ2 => (datN γ2.sl 2 γ2.tm).elim False fun x => f (x.1.getD 0 .none) (x.1.getD 1 .none) fun d => q ⟨γ2.sl, .fz d :: x.2, γ2.n⟩
theorem elimF {α : Type} {o : Option α} {f : α → Prop} (h : o.elim False f) : ∃ x, o = some x ∧ f x := by
  cases o with
  | none => exact h.elim
  | some x => exact ⟨x, rfl, h⟩
theorem Reps.inv2 {H : Hp} {S : List Addr} {v1 v2 : V} {ds : List D} (r : Reps H S [v1, v2] ds) : ∃ d1 d2 T1 T2, ds = [d1, d2] ∧ Rep H T1 v1 d1 ∧ Rep H T2 v2 d2 := by
  cases r with
  | cons r1 r =>
    cases r with
    | cons r2 r =>
      cases r
      exact ⟨_, _, _, _, rfl, r1, r2⟩
theorem Reps.inv1 {H : Hp} {S : List Addr} {v1 : V} {ds : List D} (r : Reps H S [v1] ds) : ∃ d1 T1, ds = [d1] ∧ Rep H T1 v1 d1 := by
  cases r with
  | cons r1 r =>
    cases r
    exact ⟨_, _, rfl, r1⟩
theorem so_op {r : R2} {f : D → D → (D → Prop) → Prop} (hr : SoR r f) (ha : SoE xc ta ka) (hb : SoE xc tb kb) : SoE xc (tOp r ta tb) (kOp f ka kb) := fun γ Θ σ H Q q R hk w =>
  ha γ Θ σ H _ _ R hk fun γ1 v1 H1 hk1 R1 => hb γ1 _ σ H1 _ _ R1 hk1 fun γ2 v2 H2 hk2 R2 => by
    obtain ⟨⟨ds, rr⟩, e, hf⟩ := elimF hk2
    obtain ⟨R3, T, rp, _⟩ := Rel.pops (vs := [v1, v2]) (Θ := Θ) R2 rfl e
    obtain ⟨d1, d2, T1, T2, rfl, r1, r2⟩ := rp.inv2
    exact hr H2 v1 v2 T1 T2 d1 d2 _ _ r1 r2 hf fun v d sc hq => w _ v H2 hq (R3.push fun Z => sc H2 Z)
def vI (C : Int → Int → Prop) (g : Int → Int → Int) : D → D → (D → Prop) → Prop := fun d1 d2 q => match d1, d2 with
  | .int i, .int j => C i j ∧ q (.int (g i j))
  | _, _ => False
def vB (g : Int → Int → Bool) : D → D → (D → Prop) → Prop := fun d1 d2 q => match d1, d2 with
  | .int i, .int j => q (.bool (g i j))
  | _, _ => False
def noC : Int → Int → Prop := fun _ _ => True
theorem sr_I {Cc : Int → Int → Prop} {g : Int → Int → Int} : SoR (rI Cc fun i j => .int (g i j)) (vI Cc g) := fun H v1 v2 T1 T2 d1 d2 Q q r1 r2 hf w => by
  unfold vI at hf
  split at hf
  · cases r1
    cases r2
    exact ⟨_, _, rfl, rfl, hf.1, w _ _ (sca_int _) hf.2⟩
  · exact hf.elim
theorem sr_I0 {g : Int → Int → Int} : SoR (rI0 fun i j => .int (g i j)) (vI noC g) := fun H v1 v2 T1 T2 d1 d2 Q q r1 r2 hf w => by
  unfold vI at hf
  split at hf
  · cases r1
    cases r2
    exact ⟨_, _, rfl, rfl, w _ _ (sca_int _) hf.2⟩
  · exact hf.elim
theorem sr_B {g : Int → Int → Bool} : SoR (rI0 fun i j => .bl (g i j)) (vB g) := fun H v1 v2 T1 T2 d1 d2 Q q r1 r2 hf w => by
  unfold vB at hf
  split at hf
  · cases r1
    cases r2
    exact ⟨_, _, rfl, rfl, w _ _ (sca_bl _) hf⟩
  · exact hf.elim
/-- == of scalars -/
def vEq (neg : Bool) : D → D → (D → Prop) → Prop := fun d1 d2 q => match d1, d2 with
  | .int i, .int j => q (.bool (neg ^^ decide (i = j)))
  | .str x, .str y => q (.bool (neg ^^ decide (x = y)))
  | .bool x, .bool y => q (.bool (neg ^^ decide (x = y)))
  | .none, .none => q (.bool (neg ^^ true))
  | .none, .int _ => q (.bool (neg ^^ false))
  | .int _, .none => q (.bool (neg ^^ false))
  | _, _ => False
theorem sr_eq : SoR rEq (vEq false) := fun H v1 v2 T1 T2 d1 d2 Q q r1 r2 hf w => by
  unfold vEq at hf
  split at hf <;> (try exact hf.elim) <;> cases r1 <;> cases r2 <;> refine ⟨rfl, ?_⟩
  · rw [dec_eq_int]; exact w _ _ (sca_bl _) (by simpa using hf)
  · rename_i x y
    have e : decide (V.str x = V.str y) = decide (x = y) := by simp
    rw [e]; exact w _ _ (sca_bl _) (by simpa using hf)
  · rename_i x y
    have e : decide (V.bl x = V.bl y) = decide (x = y) := by simp
    rw [e]; exact w _ _ (sca_bl _) (by simpa using hf)
  · exact w _ _ (sca_bl _) (by simpa using hf)
  · exact w _ _ (sca_bl _) (by simpa using hf)
  · exact w _ _ (sca_bl _) (by simpa using hf)
theorem sr_ne : SoR rNe (vEq true) := fun H v1 v2 T1 T2 d1 d2 Q q r1 r2 hf w => by
  unfold vEq at hf
  split at hf <;> (try exact hf.elim) <;> cases r1 <;> cases r2 <;> refine ⟨rfl, ?_⟩
  · rw [dec_eq_int]; exact w _ _ (sca_bl _) (by simpa using hf)
  · rename_i x y
    have e : decide (V.str x = V.str y) = decide (x = y) := by simp
    rw [e]; exact w _ _ (sca_bl _) (by simpa using hf)
  · rename_i x y
    have e : decide (V.bl x = V.bl y) = decide (x = y) := by simp
    rw [e]; exact w _ _ (sca_bl _) (by simpa using hf)
  · exact w _ _ (sca_bl _) (by simpa using hf)
  · exact w _ _ (sca_bl _) (by simpa using hf)
  · exact w _ _ (sca_bl _) (by simpa using hf)
/-- == of data -/
def vEqD (neg : Bool) : D → D → (D → Prop) → Prop := fun d1 d2 q => SeqAt.shaped d1 = true ∧ SeqAt.shaped d2 = true ∧ q (.bool (neg ^^ PyData.eqv d1 d2))
theorem sr_eqD {K : PySem.W.Frag} : SoR (rEqD K) (vEqD false) := fun H v1 v2 T1 T2 d1 d2 Q q r1 r2 hf w =>
  ⟨d1, d2, Rep.dp K _ _ _ r1 (nd_shaped hf.1), Rep.dp K _ _ _ r2 (nd_shaped hf.2.1), hf.1, hf.2.1, w _ _ (sca_bl _) (by simpa using hf.2.2)⟩
def vIsN (neg : Bool) : D → D → (D → Prop) → Prop := fun d1 d2 q => match d2 with
  | .none => q (.bool (match d1 with | .none => !neg | _ => neg))
  | _ => False
theorem sr_isN : SoR (fun x y H Q => y = .non ∧ Q (.bl (decide (x = .non))) H) (vIsN false) := fun H v1 v2 T1 T2 d1 d2 Q q r1 r2 hf w => by
  unfold vIsN at hf
  split at hf
  · cases r2
    refine ⟨rfl, w _ _ (sca_bl _) ?_⟩
    cases r1 <;> simpa using hf
  · exact hf.elim
/-- in a list or a tuple of flat things -/
def flatD : D → Bool
  | .none => true
  | .bool _ => true
  | .int _ => true
  | .str _ => true
  | _ => false
def vOf : D → V
  | .bool b => .bl b
  | .int i => .int i
  | .str x => .str x
  | _ => .non
theorem Rep.flat {H : Hp} {T : List Addr} {v : V} {d : D} (r : Rep H T v d) (f : flatD d = true) : v = vOf d ∧ flatV v = true := by
  cases r with
  | non => exact ⟨rfl, rfl⟩
  | bl b => exact ⟨rfl, rfl⟩
  | int i => exact ⟨rfl, rfl⟩
  | str x => exact ⟨rfl, rfl⟩
  | lst _ _ => cases f
  | tup _ _ => cases f
  | box _ _ => cases f
theorem Reps.flat {H : Hp} : ∀ {ds : List D} {T : List Addr} {vs : List V}, Reps H T vs ds → ds.all flatD = true → vs = ds.map vOf ∧ vs.all flatV = true
  | [], _, _, h, _ => by cases h; exact ⟨rfl, rfl⟩
  | d :: ds, _, _, h, f => by
    cases h with
    | cons h1 h2 =>
      rw [List.all_cons, Bool.and_eq_true] at f
      obtain ⟨e1, f1⟩ := h1.flat f.1
      obtain ⟨e2, f2⟩ := Reps.flat h2 f.2
      exact ⟨by rw [e1, e2]; rfl, by rw [List.all_cons, f1, f2]; rfl⟩
def vIn (neg : Bool) : D → D → (D → Prop) → Prop := fun d1 d2 q => match d2 with
  | .list ds => flatD d1 = true ∧ ds.all flatD = true ∧ q (.bool (neg ^^ inV (vOf d1) (ds.map vOf)))
  | .tuple ds => flatD d1 = true ∧ ds.all flatD = true ∧ q (.bool (neg ^^ inV (vOf d1) (ds.map vOf)))
  | _ => False
theorem sr_in {K : PySem.W.Frag} {neg : Bool} : SoR (rIn K neg) (vIn neg) := fun H v1 v2 T1 T2 d1 d2 Q q r1 r2 hf w => by
  unfold vIn at hf
  split at hf
  · cases r2 with
    | lst e rs =>
      obtain ⟨ev, fv⟩ := r1.flat hf.1
      obtain ⟨es, fs⟩ := rs.flat hf.2.1
      refine ⟨_, _, rfl, .inl (SqL.of e), fv, fs, w _ _ (sca_bl _) ?_⟩
      rw [es, ev]
      cases neg <;> simpa using hf.2.2
  · cases r2 with
    | tup e rs =>
      obtain ⟨ev, fv⟩ := r1.flat hf.1
      obtain ⟨es, fs⟩ := rs.flat hf.2.1
      refine ⟨_, _, rfl, .inr (SqT.of e), fv, fs, w _ _ (sca_bl _) ?_⟩
      rw [es, ev]
      cases neg <;> simpa using hf.2.2
  · exact hf.elim
def kChain (f g : D → D → (D → Prop) → Prop) (ka kb kc : KE) : KE := fun γ q => ka γ fun γ1 => kb γ1 fun γ2 => (datN γ2.sl 2 γ2.tm).elim False fun x => f (x.1.getD 0 .none) (x.1.getD 1 .none) fun d => match d with
  | .bool true => kc γ2 fun γ3 => (datN γ3.sl 3 γ3.tm).elim False fun y => g (y.1.getD 1 .none) (y.1.getD 2 .none) fun d => q ⟨γ3.sl, .fz d :: y.2, γ3.n⟩
  | .bool false => q ⟨γ2.sl, .fz (.bool false) :: x.2, γ2.n⟩
  | _ => False
def kUn (f : D → (D → Prop) → Prop) (ka : KE) : KE := fun γ q => ka γ fun γ1 => (datN γ1.sl 1 γ1.tm).elim False fun x => f (x.1.getD 0 .none) fun d => q ⟨γ1.sl, .fz d :: x.2, γ1.n⟩
theorem so_un {r : V → Hp → VK → Prop} {f : D → (D → Prop) → Prop} (hr : ∀ (H : Hp) (v1 : V) (T1 : List Addr) (d1 : D) (Q : VK) (q : D → Prop), Rep H T1 v1 d1 → f d1 q → (∀ v d, Sca v d → q d → Q v H) → r v1 H Q) (ha : SoE xc ta ka) : SoE xc (tUn r ta) (kUn f ka) := fun γ Θ σ H Q q R hk w =>
  ha γ Θ σ H _ _ R hk fun γ1 v1 H1 hk1 R1 => by
    obtain ⟨⟨ds, rr⟩, e, hf⟩ := elimF hk1
    obtain ⟨R3, T, rp, _⟩ := Rel.pops (vs := [v1]) (Θ := Θ) R1 rfl e
    obtain ⟨d1, T1, rfl, r1⟩ := rp.inv1
    exact hr H1 v1 T1 d1 _ _ r1 hf fun v d sc hq => w _ v H1 hq (R3.push fun Z => sc H1 Z)
def vNeg : D → (D → Prop) → Prop := fun d q => match d with | .int i => q (.int (-i)) | _ => False
theorem so_neg (ha : SoE xc ta ka) : SoE xc (tUn (rU fun i => .int (-i)) ta) (kUn vNeg ka) := so_un (fun H v1 T1 d1 Q q r1 hf w => by
  unfold vNeg at hf
  split at hf
  · cases r1
    exact ⟨_, rfl, w _ _ (sca_int _) hf⟩
  · exact hf.elim) ha
/-- calls whose value holds no list -/
def SoC (n : Nat) (r : List V → Hp → VK → Prop) (f : List D → (D → Prop) → Prop) : Prop := ∀ (H : Hp) (vs : List V) (T : List Addr) (ds : List D) (Q : VK) (q : D → Prop), Reps H T vs ds → vs.length = n → f ds q → (∀ v d, Sca v d → q d → Q v H) → r vs H Q
def kF (n : Nat) (f : List D → (D → Prop) → Prop) (ka : KE) : KE := fun γ q => ka γ fun γ1 => (datN γ1.sl n γ1.tm).elim False fun x => f x.1 fun d => q ⟨γ1.sl, .fz d :: x.2, γ1.n⟩
theorem so_f {r : List V → Hp → VK → Prop} {f : List D → (D → Prop) → Prop} {ts : TA} (hr : SoC n r f) (ha : SoA xc n ts ka) : SoE xc (tCB r ts) (kF n f ka) := fun γ Θ σ H Q q R hk w =>
  ha γ Θ σ H _ _ R hk fun γ1 vs H1 el hk1 R1 => by
    obtain ⟨⟨ds, rr⟩, e, hf⟩ := elimF hk1
    obtain ⟨R3, T, rp, _⟩ := Rel.pops (Θ := Θ) R1 el e
    exact hr H1 vs T ds _ _ rp el hf fun v d sc hq => w _ v H1 hq (R3.push fun Z => sc H1 Z)
theorem Reps.c1 {H : Hp} {vs : List V} {T : List Addr} {d : D} (r : Reps H T vs [d]) : ∃ v T', vs = [v] ∧ Rep H T' v d := by
  cases r with
  | cons r1 r => cases r; exact ⟨_, _, rfl, r1⟩
theorem Reps.c2 {H : Hp} {vs : List V} {T : List Addr} {d e : D} (r : Reps H T vs [d, e]) : ∃ v w T1 T2, vs = [v, w] ∧ Rep H T1 v d ∧ Rep H T2 w e := by
  cases r with
  | cons r1 r => obtain ⟨v, T', rfl, r2⟩ := Reps.c1 r; exact ⟨_, _, _, _, rfl, r1, r2⟩
def vLen : List D → (D → Prop) → Prop := fun ds q => match ds with
  | [.list es] => q (.int es.length)
  | [.tuple es] => q (.int es.length)
  | _ => False
theorem sc_len {K : PySem.W.Frag} : SoC 1 (fun xs H Q => ∃ p ys, xs = [.ref p] ∧ (SqL K H p ys ∨ SqT K H p ys) ∧ Q (.int ys.length) H) vLen := fun H vs T ds Q q r el hf w => by
  unfold vLen at hf
  split at hf
  · obtain ⟨v, T', rfl, r1⟩ := r.c1
    cases r1 with
    | lst e rs => exact ⟨_, _, rfl, .inl (SqL.of e), w _ _ (by rw [rs.length]; exact sca_int _) hf⟩
  · obtain ⟨v, T', rfl, r1⟩ := r.c1
    cases r1 with
    | tup e rs => exact ⟨_, _, rfl, .inr (SqT.of e), w _ _ (by rw [rs.length]; exact sca_int _) hf⟩
  · exact hf.elim
def v2I (g : Int → Int → Int) : List D → (D → Prop) → Prop := fun ds q => match ds with
  | [.int i, .int j] => q (.int (g i j))
  | _ => False
theorem sc_2i {g : Int → Int → Int} : SoC 2 (fun xs H Q => ∃ i j, xs = [.int i, .int j] ∧ Q (.int (g i j)) H) (v2I g) := fun H vs T ds Q q r el hf w => by
  unfold v2I at hf
  split at hf
  · obtain ⟨v, u, T1, T2, rfl, r1, r2⟩ := r.c2
    cases r1
    cases r2
    exact ⟨_, _, rfl, w _ _ (sca_int _) hf⟩
  · exact hf.elim
def v1I (g : Int → Int) : List D → (D → Prop) → Prop := fun ds q => match ds with
  | [.int i] => q (.int (g i))
  | _ => False
theorem sc_1i {g : Int → Int} : SoC 1 (fun xs H Q => ∃ i, xs = [.int i] ∧ Q (.int (g i)) H) (v1I g) := fun H vs T ds Q q r el hf w => by
  unfold v1I at hf
  split at hf
  · obtain ⟨v, T1, rfl, r1⟩ := r.c1
    cases r1
    exact ⟨_, rfl, w _ _ (sca_int _) hf⟩
  · exact hf.elim
def vInt : List D → (D → Prop) → Prop := fun ds q => match ds with
  | [.int i] => q (.int i)
  | [.bool b] => q (.int (if b then 1 else 0))
  | _ => False
theorem sc_int : SoC 1 (fun xs H Q => (∃ i, xs = [.int i] ∧ Q (.int i) H) ∨ ∃ k, xs = [.bl k] ∧ Q (.int (if k then 1 else 0)) H) vInt := fun H vs T ds Q q r el hf w => by
  unfold vInt at hf
  split at hf
  · obtain ⟨v, T1, rfl, r1⟩ := r.c1
    cases r1
    exact .inl ⟨_, rfl, w _ _ (sca_int _) hf⟩
  · obtain ⟨v, T1, rfl, r1⟩ := r.c1
    cases r1
    exact .inr ⟨_, rfl, w _ _ (sca_int _) hf⟩
  · exact hf.elim
def v3I (g : Int → Int → Int → Int) : List D → (D → Prop) → Prop := fun ds q => match ds with
  | [.int i, .int j, .int k] => q (.int (g i j k))
  | _ => False
/-- ints out of data -/
def intsOf : List D → Option (List Int)
  | [] => some []
  | .int i :: ds => (intsOf ds).bind fun r => some (i :: r)
  | _ :: _ => none
theorem intsOf_map (ns : List Int) : intsOf (ns.map PyData.int) = some ns := by
  induction ns with
  | nil => rfl
  | cons n ns ih => simp [intsOf, ih]
theorem intsOf_eq : ∀ {ds : List D} {ns : List Int}, intsOf ds = some ns → ds = ns.map PyData.int
  | [], ns, h => by simp only [intsOf, Option.some.injEq] at h; subst h; rfl
  | d :: ds, ns, h => by
    cases d with
    | int i =>
      simp only [intsOf] at h
      cases e : intsOf ds with
      | none => rw [e] at h; cases h
      | some r =>
        rw [e] at h
        simp only [Option.bind_some, Option.some.injEq] at h
        subst h
        rw [intsOf_eq e]
        rfl
    | _ => cases h
def boolsOf : List D → Option (List Bool)
  | [] => some []
  | .bool i :: ds => (boolsOf ds).bind fun r => some (i :: r)
  | _ :: _ => none
theorem boolsOf_map (ns : List Bool) : boolsOf (ns.map PyData.bool) = some ns := by
  induction ns with
  | nil => rfl
  | cons n ns ih => simp [boolsOf, ih]
theorem boolsOf_eq : ∀ {ds : List D} {ns : List Bool}, boolsOf ds = some ns → ds = ns.map PyData.bool
  | [], ns, h => by simp only [boolsOf, Option.some.injEq] at h; subst h; rfl
  | d :: ds, ns, h => by
    cases d with
    | bool i =>
      simp only [boolsOf] at h
      cases e : boolsOf ds with
      | none => rw [e] at h; cases h
      | some r =>
        rw [e] at h
        simp only [Option.bind_some, Option.some.injEq] at h
        subst h
        rw [boolsOf_eq e]
        rfl
    | _ => cases h
theorem Reps.bools {H : Hp} : ∀ {bs : List Bool} {T : List Addr} {vs : List V}, Reps H T vs (bs.map PyData.bool) → vs = bs.map V.bl
  | [], _, _, h => by cases h; rfl
  | b :: bs, _, _, h => by
    cases h with
    | cons h1 h2 =>
      cases h1
      rw [Reps.bools h2]
      rfl
def vAll (g : List Bool → Bool) : List D → (D → Prop) → Prop := fun ds q => match ds with
  | [.list es] => (boolsOf es).elim False fun bs => q (.bool (g bs))
  | _ => False
theorem sc_bools {K : PySem.W.Frag} {g : List Bool → Bool} : SoC 1 (fun vs H Q => ∃ (a : Addr) (bs : List Bool), vs = [V.ref a] ∧ SqL K H a (bs.map V.bl) ∧ Q (.bl (g bs)) H) (vAll g) := fun H vs T ds Q q r el hf w => by
  unfold vAll at hf
  split at hf
  · obtain ⟨bs, e, hg⟩ := elimF hf
    obtain rfl := boolsOf_eq e
    obtain ⟨v, T1, rfl, r1⟩ := r.c1
    cases r1 with
    | lst e rs =>
      rw [rs.bools] at e
      exact ⟨_, bs, rfl, SqL.of e, w _ _ (sca_bl _) hg⟩
  · exact hf.elim
def vSum : List D → (D → Prop) → Prop := fun ds q => match ds with
  | [.list es] => (intsOf es).elim False fun ns => q (.int ns.sum)
  | _ => False
theorem sc_sum {K : PySem.W.Frag} : SoC 1 (rSum K) vSum := fun H vs T ds Q q r el hf w => by
  unfold vSum at hf
  split at hf
  · obtain ⟨bs, e, hg⟩ := elimF hf
    obtain rfl := intsOf_eq e
    obtain ⟨v, T1, rfl, r1⟩ := r.c1
    cases r1 with
    | lst e rs =>
      rw [rs.intsInv.2] at e
      exact ⟨_, bs, rfl, SqL.of e, w _ _ (sca_int _) hg⟩
  · exact hf.elim
def vRepr : List D → (D → Prop) → Prop := fun ds q => match ds with
  | [d] => d.showable = true ∧ d.depth ≤ 60 ∧ wd d ≤ 10000000 ∧ q (.str d.shown)
  | _ => False
theorem sc_repr {K : PySem.W.Frag} : SoC 1 (rRepr K) vRepr := fun H vs T ds Q q r el hf w => by
  unfold vRepr at hf
  split at hf
  · obtain ⟨v, T1, rfl, r1⟩ := r.c1
    have := shown_wd _ (Dp.nodict (K := K) _ v (Rep.dp K _ _ _ r1 (nd_wd _ (by have := hf.2.2.1; omega))))
    exact ⟨v, _, rfl, Rep.dp K _ _ _ r1 (nd_wd _ (by have := hf.2.2.1; omega)), hf.1, hf.2.1, szle (Nat.le_trans this hf.2.2.1), w _ _ (sca_str _) hf.2.2.2⟩
  · exact hf.elim
end
end G
namespace G
open PySem PySem.Spec PyProof.Rows L2
variable {C : Cn} {xc : XC C}
section
variable {t t1 t2 ta tb tc : TE} {k k1 k2 ka kb kc : KE} {n m : Nat} {c1 c2 : TT} {h1 h2 : KT} {K : PySem.W.Frag}
def kTest (ke : KE) : KT := fun γ q => ke γ fun γ1 => (datN γ1.sl 1 γ1.tm).elim False fun x => match x.1.getD 0 .none with
  | .bool b => q b ⟨γ1.sl, x.2, γ1.n⟩
  | _ => False
theorem so_test (h : SoE xc t k) : SoT xc (tTest t) (kTest k) := fun γ Θ σ H Q q R hk w => h γ Θ σ H _ _ R hk fun γ1 v H1 hk1 R1 => by
  obtain ⟨⟨ds, rr⟩, e, hf⟩ := elimF hk1
  obtain ⟨R3, T, rp, _⟩ := Rel.pops (vs := [v]) (Θ := Θ) R1 rfl e
  obtain ⟨d1, T1, rfl, r1⟩ := rp.inv1
  dsimp only [List.getD_cons_zero] at hf
  split at hf
  · rename_i b eb
    have eb' : d1 = .bool b := eb
    subst eb'
    cases r1
    exact ⟨b, rfl, w _ _ H1 hf R3⟩
  · exact hf.elim
def kTAnd (a b : KT) : KT := fun γ q => a γ fun c γ1 => if c = true then b γ1 q else q false γ1
def kTOr (a b : KT) : KT := fun γ q => a γ fun c γ1 => if c = true then q true γ1 else b γ1 q
def kTNot (a : KT) : KT := fun γ q => a γ fun c γ1 => q (!c) γ1
theorem so_tand (a : SoT xc c1 h1) (b : SoT xc c2 h2) : SoT xc (tAnd c1 c2) (kTAnd h1 h2) := fun γ Θ σ H Q q R hk w => a γ Θ σ H _ _ R hk fun c γ1 H1 hk1 R1 => by
  cases c with
  | true => exact b γ1 Θ σ H1 Q q R1 (by simpa using hk1) w
  | false => exact w _ _ H1 (by simpa using hk1) R1
theorem so_tor (a : SoT xc c1 h1) (b : SoT xc c2 h2) : SoT xc (tOr c1 c2) (kTOr h1 h2) := fun γ Θ σ H Q q R hk w => a γ Θ σ H _ _ R hk fun c γ1 H1 hk1 R1 => by
  cases c with
  | false => exact b γ1 Θ σ H1 Q q R1 (by simpa using hk1) w
  | true => exact w _ _ H1 (by simpa using hk1) R1
theorem so_tnot (a : SoT xc c1 h1) : SoT xc (tNot c1) (kTNot h1) := fun γ Θ σ H Q q R hk w => a γ Θ σ H _ _ R hk fun c γ1 H1 hk1 R1 => w _ _ H1 hk1 R1
def kYes : KT := fun γ q => q true γ
theorem so_yes : SoT xc tYes kYes := fun γ Θ σ H Q q R hk w => w _ _ H hk R
def popB (γ : VSt) (f : Bool → VSt → Prop) : Prop := (datN γ.sl 1 γ.tm).elim False fun x => match x.1.getD 0 .none with
  | .bool b => f b ⟨γ.sl, x.2, γ.n⟩
  | _ => False
def pushB (γ : VSt) (b : Bool) : VSt := ⟨γ.sl, .fz (.bool b) :: γ.tm, γ.n⟩
theorem Rel.pushB {C : Cn} {γ : VSt} {Θ : List V} {σ : L2.St} {H : Hp} (R : Rel C γ Θ σ H) (b : Bool) : Rel C (G.pushB γ b) (.bl b :: Θ) σ H := by
  obtain ⟨sl, tm, n⟩ := γ
  exact R.push fun Z => .bl b
def kAndV (ka kb : KE) : KE := fun γ q => ka γ fun γ1 => popB γ1 fun b γ2 => if b = true then kb γ2 q else q (pushB γ2 false)
def kOrV (ka kb : KE) : KE := fun γ q => ka γ fun γ1 => popB γ1 fun b γ2 => if b = true then q (pushB γ2 true) else kb γ2 q
def kNotV (ka : KE) : KE := fun γ q => ka γ fun γ1 => popB γ1 fun b γ2 => q (pushB γ2 (!b))
def kIf (c : KT) (ka kb : KE) : KE := fun γ q => c γ fun b γ1 => if b = true then ka γ1 q else kb γ1 q
theorem so_if (c : SoT xc c1 h1) (a : SoE xc ta ka) (b : SoE xc tb kb) : SoE xc (tIf c1 ta tb) (kIf h1 ka kb) := fun γ Θ σ H Q q R hk w => c γ Θ σ H _ _ R hk fun d γ1 H1 hk1 R1 => by
  cases d with
  | true => exact a γ1 Θ σ H1 Q q R1 (by simpa using hk1) w
  | false => exact b γ1 Θ σ H1 Q q R1 (by simpa using hk1) w
def popC : Nat → List Sl → Option ((Bool × List D) × List Sl)
  | 0, tm => some ((true, []), tm)
  | _ + 1, [] => none
  | n + 1, s :: tm => (con s).bind fun c => (popC n tm).bind fun x => some ((x.1.1 && c.1, x.1.2 ++ [c.2]), x.2)
theorem cont_snoc {s : Sl} : ∀ ss : List Sl, cont (ss ++ [s]) = (cont ss).bind fun y => (con s).bind fun x => some (y.1 && x.1, y.2 ++ [x.2])
  | [] => by
    simp only [List.nil_append, cont, Option.bind_some]
    cases con s <;> simp
  | r :: ss => by
    simp only [List.cons_append, cont, cont_snoc ss]
    cases con r with
    | none => rfl
    | some x =>
      cases cont ss with
      | none => rfl
      | some y =>
        cases con s with
        | none => rfl
        | some z => simp [Bool.and_assoc]
theorem popC_ok : ∀ {n : Nat} {tm r : List Sl} {b : Bool} {ds : List D}, popC n tm = some ((b, ds), r) → ∃ ss, tm = ss.reverse ++ r ∧ ss.length = n ∧ cont ss = some (b, ds)
  | 0, tm, r, b, ds, h => by
    simp only [popC, Option.some.injEq, Prod.mk.injEq] at h
    obtain ⟨⟨rfl, rfl⟩, rfl⟩ := h
    exact ⟨[], rfl, rfl, rfl⟩
  | n + 1, [], _, _, _, h => by cases h
  | n + 1, s :: tm, r, b, ds, h => by
    simp only [popC] at h
    cases e1 : con s with
    | none => rw [e1] at h; cases h
    | some c =>
      cases e2 : popC n tm with
      | none => rw [e1, e2] at h; cases h
      | some x =>
        rw [e1, e2] at h
        simp only [Option.bind_some, Option.some.injEq, Prod.mk.injEq] at h
        obtain ⟨⟨rfl, rfl⟩, rfl⟩ := h
        obtain ⟨ss, e3, e4, e5⟩ := popC_ok (b := x.1.1) (ds := x.1.2) (r := x.2) e2
        refine ⟨ss ++ [s], by rw [e3]; simp, by simp [e4], ?_⟩
        rw [cont_snoc, e5, e1]
        rfl
def kMk (l : Bool) (n : Nat) (ka : KE) : KE := fun γ q => ka γ fun γ1 => (popC n γ1.tm).elim False fun x => q ⟨γ1.sl, mkS l x.1.1 x.1.2 :: x.2, γ1.n⟩
theorem mk_core {C : Cn} {γ : VSt} {Θ : List V} {σ : L2.St} {H : Hp} {vs : List V} {l : Bool} {q : VSt → Prop} (R : Rel C γ (vs.reverse ++ Θ) σ H) (el : vs.length = n) (h : (popC n γ.tm).elim False fun x => q ⟨γ.sl, mkS l x.1.1 x.1.2 :: x.2, γ.n⟩) :
    ∀ p, H p = none → ∃ γ', q γ' ∧ Rel C γ' (.ref p :: Θ) σ (upd H p (hoq l vs)) := fun p hp => by
  obtain ⟨⟨⟨b, ds⟩, r⟩, e, hq⟩ := elimF h
  obtain ⟨ss, e1, e2, e3⟩ := popC_ok e
  obtain ⟨sl, tm, j⟩ := γ
  dsimp only at e1 hq
  subst e1
  exact ⟨_, hq, R.cont (by omega) e3 hp⟩
theorem so_lst {ts : TA} (h : SoA xc n ts ka) (hn : n ≤ 10000000 := by decide) : SoE xc (tLst ts) (kMk true n ka) := fun γ Θ σ H Q q R hk w => h γ Θ σ H _ _ R hk fun γ1 vs H1 el hk1 R1 =>
  ⟨szle (by omega), fun p hp => by
    obtain ⟨γ', hq, R2⟩ := mk_core R1 el hk1 p hp
    exact w γ' _ _ hq R2⟩
theorem so_tup {ts : TA} (h : SoA xc n ts ka) (hn : n ≤ 10000000 := by decide) : SoE xc (tTup ts) (kMk false n ka) := fun γ Θ σ H Q q R hk w => h γ Θ σ H _ _ R hk fun γ1 vs H1 el hk1 R1 =>
  ⟨szle (by omega), fun p hp => by
    obtain ⟨γ', hq, R2⟩ := mk_core R1 el hk1 p hp
    exact w γ' _ _ hq R2⟩
def ixD (ds : List D) (i : Int) (f : Nat → D → Prop) : Prop := (ixN ds.length i).elim False fun k => (ds[k]?).elim False (f k)
def seqD (l : Bool) : D → Option (List D)
  | .list ds => if l then some ds else none
  | .tuple ds => if l then none else some ds
  | _ => none
theorem seqD_eq {l : Bool} {d : D} {ds : List D} (h : seqD l d = some ds) : d = dq l ds := by
  cases d <;> cases l <;> simp [seqD] at h <;> subst h <;> rfl
def kIx (l : Bool) (ka kb : KE) : KE := fun γ q => ka γ fun γ1 => kb γ1 fun γ2 => match γ2.tm with
  | .fz (.int i) :: s :: tm => ((look γ2.sl s).bind (seqD l)).elim False fun ds => ixD ds i fun k d => q ⟨γ2.sl, subS s k d :: tm, γ2.n⟩
  | _ => False
theorem ix_core {C : Cn} {γ : VSt} {Θ : List V} {σ : L2.St} {H : Hp} {v u : V} {l : Bool} {q : VSt → Prop} (R : Rel C γ (u :: v :: Θ) σ H) (h : match γ.tm with
  | .fz (.int i) :: s :: tm => ((look γ.sl s).bind (seqD l)).elim False fun ds => ixD ds i fun k d => q ⟨γ.sl, subS s k d :: tm, γ.n⟩
  | _ => False) : ∃ p xs i w γ', v = .ref p ∧ u = .int i ∧ H p = some (hoq l xs) ∧ atI xs i = some w ∧ q γ' ∧ Rel C γ' (w :: Θ) σ H := by
  obtain ⟨sl, tm, j⟩ := γ
  dsimp only at h
  split at h
  · rename_i i s tm'
    obtain ⟨ds, e, hd⟩ := elimF h
    obtain ⟨d0, e1, e2⟩ := Option.bind_eq_some_iff.mp e
    have e3 := seqD_eq e2
    subst e3
    obtain ⟨T, r, _⟩ := R.read (d := .int i) rfl
    cases r
    obtain ⟨p, xs, rfl, hp, el, k⟩ := R.pop.item e1
    unfold ixD at hd
    obtain ⟨kk, e4, hd⟩ := elimF hd
    obtain ⟨d, e5, hd⟩ := elimF hd
    have hlt : kk < xs.length := by
      have := (List.getElem?_eq_some_iff.mp e5).1
      omega
    have e6 : xs[kk]? = some xs[kk] := List.getElem?_eq_getElem hlt
    refine ⟨p, xs, i, xs[kk], _, rfl, rfl, hp, ?_, hd, k kk d _ e5 e6⟩
    unfold atI
    rw [el, e4]
    exact e6
  · exact h.elim
theorem so_ixL (a : SoE xc ta ka) (b : SoE xc tb kb) : SoE xc (tOp (rIxL K) ta tb) (kIx true ka kb) := fun γ Θ σ H Q q R hk w => a γ Θ σ H _ _ R hk fun γ1 v1 H1 hk1 R1 => b γ1 _ σ H1 _ _ R1 hk1 fun γ2 v2 H2 hk2 R2 => by
  obtain ⟨p, xs, i, z, γ', rfl, rfl, hp, ha, hq, R3⟩ := ix_core R2 hk2
  exact ⟨p, xs, i, z, rfl, rfl, SqL.of hp, ha, w γ' z H2 hq R3⟩
theorem so_ixT (a : SoE xc ta ka) (b : SoE xc tb kb) : SoE xc (tOp (rIxT K) ta tb) (kIx false ka kb) := fun γ Θ σ H Q q R hk w => a γ Θ σ H _ _ R hk fun γ1 v1 H1 hk1 R1 => b γ1 _ σ H1 _ _ R1 hk1 fun γ2 v2 H2 hk2 R2 => by
  obtain ⟨p, xs, i, z, γ', rfl, rfl, hp, ha, hq, R3⟩ := ix_core R2 hk2
  exact ⟨p, xs, i, z, rfl, rfl, SqT.of hp, ha, w γ' z H2 hq R3⟩
theorem ixD_ints {gs : List Int} {i : Int} {f : Nat → D → Prop} (h0 : 0 ≤ i) (h1 : i < gs.length) (h : f i.toNat (.int (gs.getD i.toNat 0))) : ixD (gs.map PyData.int) i f := by
  unfold ixD
  have e1 : ixN (gs.map PyData.int).length i = some i.toNat := by
    unfold ixN
    rw [List.length_map, if_pos h0, if_pos h1]
  have e2 : (gs.map PyData.int)[i.toNat]? = some (.int (gs.getD i.toNat 0)) := by
    rw [List.getElem?_map, List.getD_eq_getElem?_getD, List.getElem?_eq_getElem (by omega)]
    rfl
  rw [e1]
  show ((gs.map PyData.int)[i.toNat]?).elim False (f i.toNat)
  rw [e2]
  exact h
theorem Trs.take {H : Hp} {Z : Reg} : ∀ {vs : List V} {ds : List D} {S : List Addr}, Trs H Z S vs ds → S = [] → ∀ n, Trs H Z [] (vs.take n) (ds.take n)
  | [], [], _, h, _, n => by simpa using Trs.nil
  | [], _ :: _, _, h, _, n => by cases h
  | _ :: _, [], _, h, _, n => by cases h
  | v :: vs, d :: ds, _, h, e, 0 => .nil
  | v :: vs, d :: ds, _, h, e, n + 1 => by
    cases h with
    | cons h1 h2 =>
      obtain ⟨rfl, rfl⟩ := List.append_eq_nil_iff.mp e
      exact .cons (S := []) h1 (Trs.take h2 rfl n)
theorem Trs.drop {H : Hp} {Z : Reg} : ∀ {vs : List V} {ds : List D} {S : List Addr}, Trs H Z S vs ds → S = [] → ∀ n, Trs H Z [] (vs.drop n) (ds.drop n)
  | [], [], _, h, _, n => by simpa using Trs.nil
  | [], _ :: _, _, h, _, n => by cases h
  | _ :: _, [], _, h, _, n => by cases h
  | v :: vs, d :: ds, _, h, e, 0 => by subst e; exact h
  | v :: vs, d :: ds, _, h, e, n + 1 => by
    cases h with
    | cons h1 h2 =>
      obtain ⟨rfl, rfl⟩ := List.append_eq_nil_iff.mp e
      exact Trs.drop h2 rfl n
def newL (ds : List D) : Sl := .ow (nolists ds) (.list ds)
theorem Rel.newL {C : Cn} {Z : Reg} {S1 S2 : List Addr} {sl tm : List Sl} {j : Int} {Θ : List V} {σ : L2.St} {H : Hp} {us : List V} {es : List D} {p : Addr} (h : RelX C Z S1 S2 ⟨sl, tm, j⟩ Θ σ H) (t : Trs H Z [] us es) (hp : H p = none) :
    Rel C ⟨sl, G.newL es :: tm, j⟩ (.ref p :: Θ) σ (upd H p (.lst us)) := by
  have sm := same_upd (o := .lst us) hp
  have h1 : RelX C Z S1 S2 ⟨sl, tm, j⟩ Θ σ (upd H p (.lst us)) := by
    refine ⟨fun a o e m => ⟨(h.fr a o e m).1, sm a o (h.fr a o e m).2⟩, h.es.mono (fun t vs e => sm t _ e) (fun _ z => z) (fun a _ o e => sm a o e) (fun a _ o e => sm a o e), h.et.mono (fun t vs e => sm t _ e) (fun _ z => z) (fun a _ o e => sm a o e) (fun a _ o e => sm a o e), h.nd, h.nz, fun q b e => ⟨(h.pu q b e).1.mono (sm q), (h.pu q b e).2⟩, fun a z => ?_, h.dj, fun k j π u e ev => ?_⟩
    · obtain ⟨o, e⟩ := h.ex a z
      exact ⟨o, sm a o e⟩
    · obtain ⟨s, d', e', w, g1, g2, g3, g4, wk⟩ := h.al k j π u e ev
      obtain ⟨w', T', ew, t, sub⟩ := h.slot g1 g2
      rw [g4] at ew
      cases ew
      exact ⟨s, d', e', w, g1, g2, g3, g4, (Tr.part t g3 wk).2 _ (fun t vs e => sm t _ e) fun a _ o e => sm a o e⟩
  have f : Fl C Z S1 S2 (upd H p (.lst us)) [p] := by
    refine ⟨?_, fun a m => ?_⟩
    · show (p :: (S1 ++ S2)).Nodup
      refine List.nodup_cons.mpr ⟨fun m => ?_, h.nd⟩
      rcases List.mem_append.mp m with m | m
      · obtain ⟨ys, q⟩ := h.es.dom p m
        rw [hp] at q
        cases q
      · obtain ⟨ys, q⟩ := h.et.dom p m
        rw [hp] at q
        cases q
    · simp only [List.mem_singleton] at m
      subst m
      refine ⟨fun z => ?_, fun q b e z => ?_, _, upd_same⟩
      · obtain ⟨o, q⟩ := h.ex a z
        rw [hp] at q
        cases q
      · subst z
        obtain ⟨x, y, z, e2, _⟩ := (h.pu a b e).1
        rw [hp] at e2
        cases e2
  have t' : Trs (upd H p (.lst us)) Z [] us es := Trs.mono (fun t vs e => sm t _ e) (fun _ z => z) (fun a _ o e => sm a o e) _ _ _ t fun a m => nomatch m
  unfold G.newL
  cases hn : nolists es with
  | true => exact ⟨_, _, _, h1.pushF f (A' := [p]) (Dr := []) (by simp) (.ow (.lst (S := []) upd_same (Trs.nolist _ _ _ t' hn).2)) (fun i π z => nomatch z)⟩
  | false => exact ⟨_, _, _, h1.pushF f (A' := [p]) (Dr := []) (by simp) (.sp upd_same t') (fun i π z => nomatch z)⟩
/-- the items of the top, shared -/
def shr (sl : List Sl) (s : Sl) (l : Bool) : Option (List D) := ((look sl s).bind (seqD l)).bind fun ds => match s with
  | .al _ _ => if nolists ds then some ds else none
  | _ => some ds
theorem Rel.shr {C : Cn} {sl tm : List Sl} {s : Sl} {j : Int} {v : V} {Θ : List V} {σ : L2.St} {H : Hp} {l : Bool} {ds : List D} (R : Rel C ⟨sl, s :: tm, j⟩ (v :: Θ) σ H) (e : G.shr sl s l = some ds) :
    ∃ a vs Z S1 S2, v = .ref a ∧ H a = some (hoq l vs) ∧ RelX C Z S1 S2 ⟨sl, tm, j⟩ Θ σ H ∧ Trs H Z [] vs ds := by
  unfold G.shr at e
  obtain ⟨ds', e1, e2⟩ := Option.bind_eq_some_iff.mp e
  obtain ⟨d0, e3, e4⟩ := Option.bind_eq_some_iff.mp e1
  have e5 := seqD_eq e4
  subst e5
  obtain ⟨a, vs, rfl, ha, el, _⟩ := R.item e3
  have eqv : ∀ us, H a = some (hoq l us) → us = vs := fun us q => by
    rw [ha] at q
    cases l with
    | true => cases q; rfl
    | false => cases q; rfl
  -- frozen
  have frz : ∀ {d}, Rel C ⟨sl, .fz d :: tm, j⟩ (.ref a :: Θ) σ H → d = dq l ds' → ds' = ds → ∃ b us Z S1 S2, V.ref a = .ref b ∧ H b = some (hoq l us) ∧ RelX C Z S1 S2 ⟨sl, tm, j⟩ Θ σ H ∧ Trs H Z [] us ds := fun {d} R ed eds => by
    subst ed
    subst eds
    obtain ⟨Z, S1, S2, h⟩ := R
    obtain ⟨A, B, es, r, f⟩ := RelX.popF (ss := [.fz (dq l ds')]) (us := [.ref a]) h rfl
    cases es with
    | cons e1 e2 =>
      cases e1 with
      | fz t =>
        obtain ⟨a', us, T, ea, ha', ts, sub⟩ := t.seq
        cases ea
        have eT : T = [] := by
          cases T with
          | nil => rfl
          | cons y ys => exact nomatch sub y (by simp)
        subst eT
        exact ⟨a, us, Z, S1, B, rfl, ha', r, ts⟩
  cases s with
  | jk => cases e3
  | dc m => cases e3
  | dt m => cases e3
  | sh m => cases e3
  | xv _ _ m => cases e3
  | ho _ _ => cases e3
  | xw _ _ => cases e3
  | ob _ _ _ => cases e3
  | io d => cases e3
  | pu => cases e3
  | fz d =>
    cases e3
    exact frz R rfl (by simpa using e2)
  | ow b d =>
    cases e3
    exact frz R.frzT rfl (by simpa using e2)
  | al i π =>
    dsimp only at e2
    by_cases hn : nolists ds' = true
    · rw [if_pos hn] at e2
      cases e2
      obtain ⟨Z, S1, S2, h⟩ := R
      obtain ⟨T, t, _⟩ := h.trAt (k := 0) rfl rfl e3
      obtain ⟨a', us, T', ea, ha', ts, _⟩ := t.seq
      cases ea
      obtain ⟨A, B, es, r, f⟩ := RelX.popF (ss := [.al i π]) (us := [.ref a]) h rfl
      exact ⟨a, us, Z, S1, B, rfl, ha', r, (Trs.nolist _ _ _ ts hn).2⟩
    · rw [if_neg hn] at e2
      cases e2
/-- list(xs), list(t) -/
def kListOf (ka : KE) : KE := fun γ q => ka γ fun γ1 => match γ1.tm with
  | s :: tm => ((shr γ1.sl s true).orElse fun _ => shr γ1.sl s false).elim False fun ds => q ⟨γ1.sl, newL ds :: tm, γ1.n⟩
  | _ => False
theorem so_listOf {ts : TA} (h : SoA xc 1 ts ka) : SoE xc (tCB (fun xs H Q => ∃ p ys, xs = [.ref p] ∧ (SqL K H p ys ∨ SqT K H p ys) ∧ ∀ l, H l = none → Q (.ref l) (upd H l (.lst ys))) ts) (kListOf ka) := fun γ Θ σ H Q q R hk w => h γ Θ σ H _ _ R hk fun γ1 vs H1 el hk1 R1 => by
  match vs, el, R1 with
  | [v], _, R1 =>
    obtain ⟨sl, tm, j⟩ := γ1
    dsimp only at hk1
    match tm, hk1, R1 with
    | s :: tm, hk1, R1 =>
      obtain ⟨ds, e, hq⟩ := elimF hk1
      cases e1 : shr sl s true with
      | some ds1 =>
        rw [e1] at e
        cases e
        obtain ⟨a, us, Z, S1, S2, rfl, ha, X, ts⟩ := Rel.shr R1 e1
        exact ⟨a, us, rfl, .inl (SqL.of ha), fun p hp => w _ _ _ hq (Rel.newL X ts hp)⟩
      | none =>
        rw [e1] at e
        obtain ⟨a, us, Z, S1, S2, rfl, ha, X, ts⟩ := Rel.shr R1 (l := false) e
        exact ⟨a, us, rfl, .inr (SqT.of ha), fun p hp => w _ _ _ hq (Rel.newL X ts hp)⟩
/-- slices -/
def kNo : KO := fun γ q => q none γ
def popI (γ : VSt) (f : Int → VSt → Prop) : Prop := match γ.tm with
  | .fz (.int i) :: tm => f i ⟨γ.sl, tm, γ.n⟩
  | _ => False
theorem popI_ok {C : Cn} {γ : VSt} {Θ : List V} {σ : L2.St} {H : Hp} {v : V} {f : Int → VSt → Prop} (R : Rel C γ (v :: Θ) σ H) (h : popI γ f) : ∃ i γ', v = .int i ∧ f i γ' ∧ Rel C γ' Θ σ H := by
  unfold popI at h
  obtain ⟨sl, tm, j⟩ := γ
  dsimp only at h
  split at h
  · rename_i i tm'
    obtain ⟨T, r, _⟩ := R.read (d := .int i) rfl
    cases r
    exact ⟨i, _, rfl, h, R.pop⟩
  · exact h.elim
def kPart (k : KE) : KO := fun γ q => k γ fun γ1 => popI γ1 fun i γ2 => q (some i) γ2
theorem so_no : SoO xc tNoPart kNo := fun γ Θ σ H Q q R hk w => w _ _ H hk R
theorem so_part (h : SoE xc t k) : SoO xc (tPart t) (kPart k) := fun γ Θ σ H Q q R hk w => h γ Θ σ H _ _ R hk fun γ1 v H1 hk1 R1 => by
  obtain ⟨i, γ2, rfl, hf, R2⟩ := popI_ok R1 hk1
  exact ⟨i, rfl, w _ _ H1 hf R2⟩
def cutD (ds : List D) (lo hi : Option Int) : List D := (ds.drop (HT.sIx ds.length 0 lo)).take (HT.sIx ds.length ds.length hi - HT.sIx ds.length 0 lo)
def kSl (ka : KE) (lo hi : KO) : KE := fun γ q => ka γ fun γ1 => lo γ1 fun a γ2 => hi γ2 fun b γ3 => match γ3.tm with
  | s :: tm => (shr γ3.sl s true).elim False fun ds => q ⟨γ3.sl, newL (cutD ds a b) :: tm, γ3.n⟩
  | _ => False
theorem so_sl {tl th : TO} {lo hi : KO} (a : SoE xc ta ka) (b : SoO xc tl lo) (c : SoO xc th hi) : SoE xc (tSl (rSlL K) ta tl th) (kSl ka lo hi) := fun γ Θ σ H Q q R hk w => a γ Θ σ H _ _ R hk fun γ1 v H1 hk1 R1 => b γ1 _ σ H1 _ _ R1 hk1 fun i γ2 H2 hk2 R2 => c γ2 _ σ H2 _ _ R2 hk2 fun j γ3 H3 hk3 R3 => by
  obtain ⟨sl, tm, jj⟩ := γ3
  dsimp only at hk3
  match tm, hk3, R3 with
  | s :: tm, hk3, R3 =>
    obtain ⟨ds, e, hq⟩ := elimF hk3
    obtain ⟨p, us, Z, S1, S2, rfl, ha, X, ts⟩ := Rel.shr R3 e
    refine ⟨p, us, rfl, SqL.of ha, fun o ho => w _ _ _ hq (Rel.newL X ?_ ho)⟩
    have el := ts.length
    unfold cutV cutD
    rw [el]
    exact (ts.drop rfl _).take rfl _
/-- xs + ys -/
def kCat (ka kb : KE) : KE := fun γ q => ka γ fun γ1 => kb γ1 fun γ2 => match γ2.tm with
  | s2 :: s1 :: tm => (shr γ2.sl s1 true).elim False fun ds => (shr γ2.sl s2 true).elim False fun es => ds.length + es.length ≤ 10000000 ∧ q ⟨γ2.sl, newL (ds ++ es) :: tm, γ2.n⟩
  | _ => False
theorem RelX.shr {C : Cn} {Z : Reg} {S1 S2 : List Addr} {sl tm : List Sl} {s : Sl} {j : Int} {v : V} {Θ : List V} {σ : L2.St} {H : Hp} {l : Bool} {ds : List D} (h : RelX C Z S1 S2 ⟨sl, s :: tm, j⟩ (v :: Θ) σ H) (e : G.shr sl s l = some ds) :
    ∃ a vs Z' S2', v = .ref a ∧ H a = some (hoq l vs) ∧ RelX C Z' S1 S2' ⟨sl, tm, j⟩ Θ σ H ∧ Trs H Z' [] vs ds ∧ ∀ a, Z a → Z' a := by
  unfold G.shr at e
  obtain ⟨ds', e1, e2⟩ := Option.bind_eq_some_iff.mp e
  obtain ⟨d0, e3, e4⟩ := Option.bind_eq_some_iff.mp e1
  have e5 := seqD_eq e4
  subst e5
  obtain ⟨A, B, es, r, f⟩ := RelX.popF (ss := [s]) (us := [v]) h rfl
  obtain ⟨T0, en, rfl⟩ : ∃ T0, Ent C Z H T0 (some v) s ∧ A = T0 := by
    cases es with
    | cons e1 e2 =>
      cases e2
      exact ⟨_, e1, by simp⟩
  have go : datS s = some (dq l ds') → ds' = ds → ∃ a vs Z' S2', v = .ref a ∧ H a = some (hoq l vs) ∧ RelX C Z' S1 S2' ⟨sl, tm, j⟩ Θ σ H ∧ Trs H Z' [] vs ds ∧ ∀ a, Z a → Z' a := fun q eds => by
    subst eds
    obtain ⟨w, Tw, ew, t, sbw⟩ := en.tr q
    cases ew
    have g := r.growF f
    have t2 : Tr H (fun a => Z a ∨ a ∈ A) [] v (dq l ds') := Tr.freeze (fun _ z => .inl z) _ _ _ t fun a m => .inr (sbw a m)
    obtain ⟨a, us, T, rfl, ha, ts, sub⟩ := t2.seq
    have eT : T = [] := by
      cases T with
      | nil => rfl
      | cons y ys => exact nomatch sub y (by simp)
    subst eT
    exact ⟨a, us, _, B, rfl, ha, g, ts, fun a z => .inl z⟩
  cases s with
  | jk => cases e3
  | dc m => cases e3
  | dt m => cases e3
  | sh m => cases e3
  | xv _ _ m => cases e3
  | ho _ _ => cases e3
  | xw _ _ => cases e3
  | ob _ _ _ => cases e3
  | io d => cases e3
  | pu => cases e3
  | fz d =>
    cases e3
    exact go rfl (by simpa using e2)
  | ow b d =>
    cases e3
    exact go rfl (by simpa using e2)
  | al i π =>
    dsimp only at e2
    by_cases hn : nolists ds' = true
    · rw [if_pos hn] at e2
      cases e2
      obtain ⟨T, t, _⟩ := h.trAt (k := 0) rfl rfl e3
      obtain ⟨a, us, T', rfl, ha', ts, _⟩ := t.seq
      exact ⟨a, us, Z, B, rfl, ha', r, (Trs.nolist _ _ _ ts hn).2, fun _ z => z⟩
    · rw [if_neg hn] at e2
      cases e2
theorem so_cat (a : SoE xc ta ka) (b : SoE xc tb kb) : SoE xc (tOp rCat ta tb) (kCat ka kb) := fun γ Θ σ H Q q R hk w => a γ Θ σ H _ _ R hk fun γ1 v1 H1 hk1 R1 => b γ1 _ σ H1 _ _ R1 hk1 fun γ2 v2 H2 hk2 R2 => by
  obtain ⟨sl, tm, j⟩ := γ2
  dsimp only at hk2
  split at hk2
  · obtain ⟨ds, e1, hk3⟩ := elimF hk2
    obtain ⟨es, e2, hl, hq⟩ := elimF hk3
    obtain ⟨Z, S1, S2, X⟩ := R2
    obtain ⟨b', zs, Z2, S2', rfl, hb, X2, t2, _⟩ := X.shr e2
    obtain ⟨a', xs, Z3, S3', rfl, ha, X3, t3, sub⟩ := X2.shr e1
    have l1 := t3.length
    have l2 := t2.length
    refine ⟨a', b', xs, zs, rfl, rfl, ha, hb, szle (by omega), fun p hp => w _ _ _ hq (Rel.newL X3 ?_ hp)⟩
    exact t3.append (t2.weak sub)
  · exact hk2.elim
theorem nolists_ints (ns : List Int) : nolists (ns.map PyData.int) = true := by
  induction ns with
  | nil => rfl
  | cons n ns ih => simp [nolists, nolist, ih]
/-- list(range(..)) -/
theorem Rel.ints {C : Cn} {sl tm : List Sl} {j : Int} {Θ : List V} {σ : L2.St} {H : Hp} {p : Addr} (R : Rel C ⟨sl, tm, j⟩ Θ σ H) (hp : H p = none) (ns : List Int) : Rel C ⟨sl, .ow true (dI ns) :: tm, j⟩ (.ref p :: Θ) σ (upd H p (.lst (ns.map V.int))) := by
  obtain ⟨Z, S1, S2, X⟩ := R
  have := Rel.newL X (Trs.intsR (Z := Z) ns) hp
  unfold G.newL at this
  rw [nolists_ints] at this
  exact this
def kRg2 (ka kb : KE) : VSt → (Int → Int → VSt → Prop) → Prop := fun γ q => ka γ fun γ1 => kb γ1 fun γ2 => popI γ2 fun j γ3 => popI γ3 fun i γ4 => q i j γ4
def kRg1 (ka : KE) : VSt → (Int → Int → VSt → Prop) → Prop := fun γ q => ka γ fun γ1 => popI γ1 fun j γ2 => q 0 j γ2
def kListRg (r : VSt → (Int → Int → VSt → Prop) → Prop) : KE := fun γ q => r γ fun i j γ1 => (-1000000000000 ≤ i ∧ i ≤ 1000000000000 ∧ -1000000000000 ≤ j ∧ j ≤ 1000000000000 ∧ j - i ≤ 10000000) ∧ q ⟨γ1.sl, .ow true (dI (rg i j)) :: γ1.tm, γ1.n⟩
theorem listRg_core {C : Cn} {γ : VSt} {Θ : List V} {σ : L2.St} {H : Hp} {i j : Int} {q : VSt → Prop} {Q : VK} (R : Rel C γ Θ σ H) (h : (-1000000000000 ≤ i ∧ i ≤ 1000000000000 ∧ -1000000000000 ≤ j ∧ j ≤ 1000000000000 ∧ j - i ≤ 10000000) ∧ q ⟨γ.sl, .ow true (dI (rg i j)) :: γ.tm, γ.n⟩)
    (w : ∀ γ' v H', q γ' → Rel C γ' (v :: Θ) σ H' → Q v H') : RgOk i j ∧ ∀ p, H p = none → Q (.ref p) (upd H p (.lst (rgV i j))) := by
  obtain ⟨⟨a1, a2, a3, a4, a5⟩, hq⟩ := h
  refine ⟨?_, fun p hp => ?_⟩
  · have e : (2 : Int) ^ 62 = 4611686018427387904 := by decide
    have e2 : (2 : Nat) ^ 24 = 16777216 := by decide
    unfold RgOk
    rw [e, e2]
    exact ⟨by omega, by omega, by omega, by omega, by omega⟩
  · rw [rgV_map]
    obtain ⟨sl, tm, n⟩ := γ
    exact w _ _ _ hq (R.ints hp _)
theorem so_listRg2 (a : SoE xc ta ka) (b : SoE xc tb kb) : SoE xc (tLstRg (tRg2 ta tb)) (kListRg (kRg2 ka kb)) := fun γ Θ σ H Q q R hk w => a γ Θ σ H _ _ R hk fun γ1 v1 H1 hk1 R1 => b γ1 _ σ H1 _ _ R1 hk1 fun γ2 v2 H2 hk2 R2 => by
  obtain ⟨j, γ3, rfl, hf, R3⟩ := popI_ok R2 hk2
  obtain ⟨i, γ4, rfl, hg, R4⟩ := popI_ok R3 hf
  exact ⟨i, j, rfl, rfl, listRg_core R4 hg w⟩
def kCallT (W : Tw) (n : Nat) (ka : KE) : KE := fun γ q => ka γ fun γ1 => (datN γ1.sl n γ1.tm).elim False fun x => W x.1 fun d => q ⟨γ1.sl, own d :: x.2, γ1.n⟩
theorem Rel.newR {C : Cn} {sl tm : List Sl} {j : Int} {Θ : List V} {σ : L2.St} {H H' : Hp} {v : V} {d : D} (R : Rel C ⟨sl, tm, j⟩ Θ σ H) (sm : Same H H') (nw : New H H' v d) : Rel C ⟨sl, own d :: tm, j⟩ (v :: Θ) σ H' := by
  obtain ⟨S, r, nd, f⟩ := nw
  refine R.new (fun a o e _ => sm a o e) (fun p b q => ?_) ⟨S, Rep.tr _ _ _ r, nd, f⟩
  obtain ⟨Z, S1, S2, X⟩ := R
  exact (X.pu p b q).1.mono (sm p)
theorem so_callT {W : Tw} {ts : TA} (h : SoA xc n ts ka) : SoE xc (tCall (spT W) [] E0 ts) (kCallT W n ka) := fun γ Θ σ H Q q R hk w => h γ Θ σ H _ _ R hk fun γ1 vs H1 el hk1 R1 => by
  obtain ⟨⟨ds, rr⟩, e, hf⟩ := elimF hk1
  obtain ⟨R3, T, rp, _⟩ := Rel.pops (Θ := Θ) R1 el e
  rw [List.append_nil]
  exact ⟨T, ds, _, rp, hf, fun d v H' hq sm nw => w _ v H' hq (R3.newR sm nw)⟩
def kCallTK (W : Tw) (ix : List Nat) (n : Nat) (ka : KE) : KE := fun γ q => ka γ fun γ1 => (datN γ1.sl n γ1.tm).elim False fun x => W (ix.filterMap fun i => x.1[i]?) fun d => q ⟨γ1.sl, own d :: x.2, γ1.n⟩
theorem Reps.pickI {H : Hp} {T : List Addr} {vs : List V} {ds : List D} (r : Reps H T vs ds) : ∀ ix : List Nat, ∃ T', Reps H T' (ix.filterMap fun i => vs[i]?) (ix.filterMap fun i => ds[i]?) ∧ ∀ a ∈ T', a ∈ T
  | [] => ⟨[], .nil, fun _ z => nomatch z⟩
  | i :: ix => by
    obtain ⟨T', q, sub⟩ := Reps.pickI r ix
    have el := r.length
    cases e : ds[i]? with
    | none =>
      have e2 : vs[i]? = none := List.getElem?_eq_none (by have := List.getElem?_eq_none_iff.mp e; omega)
      rw [List.filterMap_cons_none e, List.filterMap_cons_none e2]
      exact ⟨T', q, sub⟩
    | some d =>
      obtain ⟨v, T1, e2, rv, s1⟩ := r.get e
      rw [List.filterMap_cons_some e, List.filterMap_cons_some e2]
      exact ⟨_, .cons rv q, fun a m => (List.mem_append.mp m).elim (s1 a) (sub a)⟩
theorem so_callTK {W : Tw} {ix : List Nat} {ts : TA} (h : SoA xc n ts ka) : SoE xc (tCallK (spT W) (gKwV ix) E0 tNil ts) (kCallTK W ix n ka) := fun γ Θ σ H Q q R hk w => h γ Θ σ H _ _ R hk fun γ1 vs H1 el hk1 R1 => by
  obtain ⟨⟨ds, rr⟩, e, hf⟩ := elimF hk1
  obtain ⟨R3, T, rp, _⟩ := Rel.pops (Θ := Θ) R1 el e
  obtain ⟨T', rp', _⟩ := rp.pickI ix
  exact ⟨T', _, _, rp', hf, fun d v H' hq sm nw => w _ v H' hq (R3.newR sm nw)⟩
def kCallP (c : Int) (W : Tw) (n : Nat) (ka : KE) : KE := fun γ q => ka γ fun γ1 => (datN γ1.sl n γ1.tm).elim False fun x => match x.2 with
  | .pu :: r => (0 ≤ c ∧ c ≤ γ1.n) ∧ W x.1 fun d => q ⟨γ1.sl, own d :: r, γ1.n - c⟩
  | _ => False
theorem so_callP {c : Int} {W : Tw} {ts : TA} (h : SoA xc (n + 1) ts ka) : SoE xc (tCall (spP c W) [] E0 ts) (kCallP c W n ka) := fun γ Θ σ H Q q R hk w => h γ Θ σ H _ _ R hk fun γ1 vs H1 el hk1 R1 => by
  obtain ⟨⟨ds, rr⟩, e, hf⟩ := elimF hk1
  match vs, el with
  | v :: vs, el =>
    rw [List.reverse_cons, List.append_assoc] at R1
    obtain ⟨R3, T, rp, np⟩ := Rel.pops (Θ := [v] ++ Θ) R1 (by simpa using el) e
    dsimp only at hf
    split at hf
    · rename_i r
      obtain ⟨⟨c0, c1⟩, hw⟩ := hf
      have R4 : Rel C ⟨γ1.sl, .pu :: r, γ1.n⟩ (v :: Θ) σ H1 := R3
      have pv : ∃ p b, C.pu = some (p, b) ∧ v = .ref p := by
        obtain ⟨Z, S1, S2, X⟩ := R4
        obtain ⟨A, B, es, r, f⟩ := RelX.popF (ss := [.pu]) (us := [v]) X rfl
        cases es with
        | cons e1 e2 =>
          cases e1 with
          | pu q => exact ⟨_, _, q, rfl⟩
      obtain ⟨p, b, epu, rfl⟩ := pv
      have R5 := R4.pop
      have pu : PuAt H1 p (b - γ1.n) := by
        obtain ⟨Z, S1, S2, X⟩ := R5
        exact (X.pu p b epu).1
      have bok := C.ok p b epu
      rw [List.append_nil]
      refine ⟨p, b - γ1.n, vs, T, ds, _, rfl, pu, by omega, rp, np p b epu, hw, fun d v H' hq fr kp nw => ?_⟩
      obtain ⟨S, rd, nd, f⟩ := nw
      refine w _ v H' hq (R5.new (n' := γ1.n - c) (fun a o e ne => fr a o e (ne p b epu)) (fun p' b' e' => ?_) ⟨S, Rep.tr _ _ _ rd, nd, f⟩)
      rw [epu] at e'
      cases e'
      have : b - γ1.n + c = b - (γ1.n - c) := by omega
      rw [← this]
      exact kp
    · exact hf.elim
def isLst (γ : VSt) : Prop := match γ.tm with
  | s :: _ => ((look γ.sl s).bind (seqD true)).elim False fun _ => True
  | _ => False
theorem tyV_of {C : Cn} {γ : VSt} {Θ : List V} {σ : L2.St} {H : Hp} {v : V} (R : Rel C γ (v :: Θ) σ H) (h : isLst γ) : tyV K "list" v H := by
  unfold isLst at h
  obtain ⟨sl, tm, j⟩ := γ
  dsimp only at h
  split at h
  · obtain ⟨ds, e, _⟩ := elimF h
    obtain ⟨d0, e1, e2⟩ := Option.bind_eq_some_iff.mp e
    have e3 := seqD_eq e2
    subst e3
    obtain ⟨a, vs, rfl, ha, _⟩ := R.item e1
    exact tyL ha
  · exact h.elim
/-- a method that only reads -/
def kM (n : Nat) (f : List D → (D → Prop) → Prop) (ko ka : KE) : KE := fun γ q => ko γ fun γ1 => isLst γ1 ∧ ka γ1 fun γ2 => (datN γ2.sl (n + 1) γ2.tm).elim False fun x => f x.1 fun d => q ⟨γ2.sl, .fz d :: x.2, γ2.n⟩
def SoM (n : Nat) (r : V → List V → Hp → VK → Prop) (f : List D → (D → Prop) → Prop) : Prop := SoC (n + 1) (fun vs H Q => match vs with | v :: vs => r v vs H Q | [] => False) f
theorem so_m {r : V → List V → Hp → VK → Prop} {f : List D → (D → Prop) → Prop} {ts : TA} (hr : SoM n r f) (ho : SoE xc t k) (ha : SoA xc n ts ka) : SoE xc (tBM K "list" r t ts) (kM n f k ka) := fun γ Θ σ H Q q R hk w => ho γ Θ σ H _ _ R hk fun γ1 v H1 hk1 R1 =>
  ⟨tyV_of R1 hk1.1, ha γ1 _ σ H1 _ _ R1 hk1.2 fun γ2 vs H2 el hk2 R2 => by
    obtain ⟨⟨ds, rr⟩, e, hf⟩ := elimF hk2
    have R2' : Rel C ⟨γ2.sl, γ2.tm, γ2.n⟩ ((v :: vs).reverse ++ Θ) σ H2 := by simpa using R2
    obtain ⟨R3, T, rp, _⟩ := Rel.pops (Θ := Θ) R2' (by simp [el]) e
    exact hr H2 (v :: vs) T ds _ _ rp (by simp [el]) hf fun v d sc hq => w _ v H2 hq (R3.push fun Z => sc H2 Z)⟩
def vCnt : List D → (D → Prop) → Prop := fun ds q => match ds with
  | [.list es, .int k] => (intsOf es).elim False fun ns => q (.int (ns.count k : Nat))
  | _ => False
def vIdx : List D → (D → Prop) → Prop := fun ds q => match ds with
  | [.list es, .int k] => (intsOf es).elim False fun ns => k ∈ ns ∧ q (.int (ns.idxOf k : Nat))
  | _ => False
end
end G
namespace G
open PySem PySem.Spec PyProof.Rows L2
variable {C : Cn} {xc : XC C}
section
variable {t t1 t2 ta tb tc : TE} {k k1 k2 ka kb kc ko : KE} {n m : Nat} {c1 c2 : TT} {h1 h2 : KT} {K : PySem.W.Frag}
def wrL (sl : List Sl) (i : Nat) (π : List Nat) (f : Bool → D → List D → Prop) : Prop := match sl[i]? with
  | some (.ow b d) => (atP d π).elim False fun e => match e with
    | .list es => f b d es
    | _ => False
  | some (.io d) => (atP d π).elim False fun e => match e with
    | .list es => f true d es
    | _ => False
  | _ => False
/-- the names behind a write -/
def putS (sl : List Sl) (i : Nat) (b : Bool) (d : D) : List Sl := sl.set i (reS ((sl[i]?).getD .jk) b d)
def ioOk (sl : List Sl) (i : Nat) (b : Bool) : Prop := match sl[i]? with
  | some (.io _) => b = true
  | _ => True
theorem wrL_inv {sl : List Sl} {i : Nat} {π : List Nat} {f : Bool → D → List D → Prop} (h : wrL sl i π f) : ∃ s0 b d es, sl[i]? = some s0 ∧ (s0 = .ow b d ∨ (s0 = .io d ∧ b = true)) ∧ datS s0 = some d ∧ atP d π = some (.list es) ∧ f b d es := by
  unfold wrL at h
  split at h
  · rename_i b d e
    obtain ⟨x, ex, hx⟩ := elimF h
    split at hx
    · exact ⟨_, b, d, _, e, .inl rfl, rfl, ex, hx⟩
    · exact hx.elim
  · rename_i d e
    obtain ⟨x, ex, hx⟩ := elimF h
    split at hx
    · exact ⟨_, true, d, _, e, .inr ⟨rfl, rfl⟩, rfl, ex, hx⟩
    · exact hx.elim
  · exact h.elim
theorem putS_eq {sl : List Sl} {i : Nat} {s0 : Sl} {b : Bool} {d : D} (e : sl[i]? = some s0) : putS sl i b d = sl.set i (reS s0 b d) := by
  unfold putS
  rw [e]
  rfl
theorem ioOk_at {sl : List Sl} {i : Nat} {s0 : Sl} {b : Bool} (h : ioOk sl i b) (e : sl[i]? = some s0) : ∀ x, s0 = .io x → b = true := fun x z => by
  subst z
  unfold ioOk at h
  rw [e] at h
  exact h
/-- what stands below: the alias is walked to -/
theorem RelX.walk {C : Cn} {Z : Reg} {S1 S2 : List Addr} {γ : VSt} {Θ : List V} {σ : L2.St} {H : Hp} {j i : Nat} {π : List Nat} {v : V} (h : RelX C Z S1 S2 γ Θ σ H) (e : γ.tm[j]? = some (.al i π)) (ev : Θ[j]? = some v) : ∃ w, σ[i]? = some (some w) ∧ Wk H w π v := by
  obtain ⟨s, d', e', w, g1, g2, g3, g4, wk⟩ := h.al j i π v e ev
  exact ⟨w, g4, wk⟩
theorem okB {b c : Bool} {π : List Nat} (h : (b && c) = true ∨ π = []) : (b = true ∨ π = []) ∧ ((b && c) = b ∨ ((b && c) = false ∧ π = [])) := by
  rcases h with h | h
  · rw [Bool.and_eq_true] at h
    exact ⟨.inl h.1, .inl (by rw [h.1, h.2]; rfl)⟩
  · refine ⟨.inr h, ?_⟩
    cases hb : (b && c) with
    | true =>
      rw [Bool.and_eq_true] at hb
      exact .inl hb.1.symm
    | false => exact .inr ⟨rfl, h⟩
def kApp (ko ke : KE) : KE := fun γ q => ko γ fun γ1 => isLst γ1 ∧ ke γ1 fun γ2 => match γ2.tm with
  | s :: .al i π :: tm => (con s).elim False fun c => noAl i tm = true ∧ wrL γ2.sl i π fun b d es => (((b && c.1) = true ∨ π = []) ∧ ioOk γ2.sl i (b && c.1)) ∧ es.length < 10000000 ∧ q ⟨putS γ2.sl i (b && c.1) (setP d π (.list (es ++ [c.2]))), .fz .none :: tm, γ2.n⟩
  | _ => False
theorem so_app (ho : SoE xc t ko) (he : SoE xc ta ka) : SoE xc (tBM K "list" rAppend t (tCons ta tNil)) (kApp ko ka) := fun γ Θ σ H Q q R hk w => ho γ Θ σ H _ _ R hk fun γ1 v H1 hk1 R1 =>
  ⟨tyV_of R1 hk1.1, he γ1 _ σ H1 _ _ R1 hk1.2 fun γ2 u H2 hk2 R2 => by
    obtain ⟨sl, tm, j⟩ := γ2
    dsimp only at hk2
    split at hk2
    · rename_i s i π tm
      obtain ⟨⟨cb, cd⟩, ec, na, hw⟩ := elimF hk2
      obtain ⟨s0, b, d, es, e1, hs, eds, e2, ⟨hb, hio⟩, hl, hq⟩ := wrL_inv hw
      rw [putS_eq e1] at hq
      obtain ⟨hb1, hb2⟩ := okB hb
      obtain ⟨Z, S1, S2, X⟩ := R2
      obtain ⟨w0, ew, wk⟩ := X.walk (j := 1) rfl rfl
      obtain ⟨A, B, en, X1, f⟩ := RelX.popF (ss := [s, .al i π]) (us := [u, v]) X rfl
      obtain ⟨A', en', rfl⟩ : ∃ A', Ent C Z H2 A' (some u) s ∧ A = A' := by
        cases en with
        | cons e1 e2 =>
          cases e2 with
          | cons e2 e3 =>
            cases e2
            cases e3
            exact ⟨_, e1, by simp⟩
      obtain ⟨a, vs, T, rfl, ha, ts, aA, aZ, aT, put⟩ := X1.putF f e1 hs na ew wk e2 hb1
      have el := ts.length
      have ti := en'.con ec
      have t1 : Trs (upd H2 a (.lst (vs ++ [u]))) (rgn (b && cb) Z) (T ++ (A ++ [])) (vs ++ [u]) (es ++ [cd]) := by
        refine ((ts.upd ha aZ aT).weak (rgn_mono fun z => ?_)).append (.cons ((ti.upd ha aZ fun x m z => aA (z ▸ m)).weak (rgn_mono fun z => ?_)) .nil)
        · rw [Bool.and_eq_true] at z; exact z.1
        · rw [Bool.and_eq_true] at z; exact z.2
      obtain ⟨S1', X2, _⟩ := put (vs ++ [u]) (es ++ [cd]) (b && cb) _ [] hb2 (ioOk_at hio e1) t1 (by simp)
      have R3 : Rel C ⟨_, tm, j⟩ Θ σ (upd H2 a (.lst (vs ++ [u]))) := ⟨_, _, _, X2⟩
      exact ⟨a, vs, u, rfl, rfl, ha, szlt (by omega), w _ _ _ hq (R3.push fun Z => .non)⟩
    · exact hk2.elim⟩
/-- an item is taken out of a list -/
def popK (γ : VSt) (i : Nat) (π : List Nat) (tm : List Sl) (kk : Int) (q : VSt → Prop) : Prop := noAl i tm = true ∧ wrL γ.sl i π fun b d es => (b = true ∨ π = []) ∧ (0 ≤ kk ∧ kk < es.length ∧ es.length ≤ 10000000) ∧ (es[kk.toNat]?).elim False fun x => q ⟨putS γ.sl i b (setP d π (.list (es.eraseIdx kk.toNat))), (if b then own x else .fz x) :: tm, γ.n⟩
theorem popK_ok {C : Cn} {sl tm : List Sl} {j : Int} {ss : List Sl} {us : List V} {v : V} {Θ : List V} {σ : L2.St} {H : Hp} {i : Nat} {π : List Nat} {kk : Int} {q : VSt → Prop} (R : Rel C ⟨sl, ss ++ .al i π :: tm, j⟩ (us ++ v :: Θ) σ H) (el : us.length = ss.length)
    (h : popK ⟨sl, ss ++ .al i π :: tm, j⟩ i π tm kk q) : ∃ a vs y γ', v = .ref a ∧ H a = some (.lst vs) ∧ 0 ≤ kk ∧ (kk < vs.length ∧ vs.length ≤ 10000000) ∧ vs[kk.toNat]? = some y ∧ q γ' ∧ Rel C γ' (y :: Θ) σ (upd H a (.lst (vs.eraseIdx kk.toNat))) := by
  obtain ⟨na, hw⟩ := h
  obtain ⟨s0, b, d, es, e1, hs, eds, e2, hb, ⟨k0, k1, k2⟩, hx⟩ := wrL_inv hw
  obtain ⟨x, ex, hq⟩ := elimF hx
  dsimp only at hq
  rw [putS_eq e1] at hq
  obtain ⟨Z, S1, S2, X⟩ := R
  obtain ⟨w0, ew, wk⟩ := X.walk (j := ss.length) (i := i) (π := π) (v := v) (by show (ss ++ .al i π :: tm)[ss.length]? = _; rw [List.getElem?_append_right (Nat.le_refl _)]; simp) (by rw [← el, List.getElem?_append_right (Nat.le_refl _)]; simp)
  have X' : RelX C Z S1 S2 ⟨sl, (ss ++ [.al i π]) ++ tm, j⟩ ((us ++ [v]) ++ Θ) σ H := by simpa using X
  obtain ⟨A0, B, en, X1, f0⟩ := RelX.popF (ss := ss ++ [.al i π]) (us := us ++ [v]) X' (by simp [el])
  have f : Fl C Z S1 B H [] := ⟨by simpa using X1.nd, fun a m => nomatch m⟩
  obtain ⟨a, vs, T, rfl, ha, ts, aA, aZ, aT, put⟩ := X1.putF f e1 hs na ew wk e2 hb
  have tl := ts.length
  obtain ⟨y, T1, Rr, ey, ty, pm, ⟨R', tr, pr⟩, _⟩ := ts.at ex
  have subR : ∀ x ∈ R', x ≠ a := fun x m => aT x (pm.mem_iff.mpr (List.mem_append_right _ (pr.mem_iff.mp m)))
  have subT : ∀ x ∈ T1, x ≠ a := fun x m => aT x (pm.mem_iff.mpr (List.mem_append_left _ m))
  obtain ⟨S1', X2, f2⟩ := put (vs.eraseIdx kk.toNat) (es.eraseIdx kk.toNat) b R' T1 (.inl rfl) (fun x z => by
    rcases hs with h | h
    · rw [h] at z; cases z
    · exact h.2) (tr.upd ha aZ subR) (by
    rw [List.append_nil]
    exact pm.trans (List.perm_append_comm.trans (List.Perm.append_right T1 pr.symm)))
  have ty2 : Tr (upd H a (.lst (vs.eraseIdx kk.toNat))) (rgn b Z) T1 y x := ty.upd ha aZ subT
  refine ⟨a, vs, y, _, rfl, ha, k0, ⟨by omega, by omega⟩, ey, hq, ?_⟩
  cases b with
  | true =>
    rw [if_pos rfl]
    unfold own
    by_cases hn : nolist x = true
    · rw [if_pos hn]
      exact Rel.push ⟨_, _, _, X2⟩ fun Z => (Tr.nolist _ _ _ ty2 hn).2
    · rw [if_neg hn]
      exact ⟨_, _, _, X2.pushF f2 (A' := T1) (Dr := []) (by simp) (.ow ty2) (fun i π z => nomatch z)⟩
  | false =>
    rw [if_neg (by simp)]
    have g := X2.growF f2
    have t3 : Tr (upd H a (.lst (vs.eraseIdx kk.toNat))) (fun a => Z a ∨ a ∈ T1) [] y x := Tr.freeze (fun _ z => .inl z) _ _ _ ty2 fun _ m => .inr m
    exact ⟨_, _, _, g.pushE (Z' := fun _ => False) (.fz t3) List.nodup_nil (fun a m => nomatch m) (fun i π z => nomatch z)⟩
def kPop (ko : KE) : KE := fun γ q => ko γ fun γ1 => isLst γ1 ∧ match γ1.tm with
  | .al i π :: tm => wrL γ1.sl i π fun _ _ es => popK γ1 i π tm (es.length - 1 : Nat) q ∧ es ≠ []
  | _ => False
theorem so_pop (ho : SoE xc t ko) : SoE xc (tBM0 K "list" rPop t) (kPop ko) := fun γ Θ σ H Q q R hk w => ho γ Θ σ H _ _ R hk fun γ1 v H1 hk1 R1 =>
  ⟨tyV_of R1 hk1.1, by
    obtain ⟨sl, tm, j⟩ := γ1
    obtain ⟨_, hk1⟩ := hk1
    dsimp only at hk1
    split at hk1
    · rename_i i π tm
      obtain ⟨s0, b, d, es, e1, hs, eds, e2, hp, hne⟩ := wrL_inv hk1
      obtain ⟨Z, S1, S2, X⟩ := id R1
      obtain ⟨T0, t0, _⟩ := X.trAt (k := 0) (d := .list es) rfl rfl (by simp only [look, e1, eds, Option.bind_some]; exact e2)
      obtain ⟨a, vs, y, γ', rfl, ha, k0, k1, ey, hq, R2⟩ := popK_ok (ss := []) (us := []) R1 rfl hp
      have el : vs.length = es.length := by
        obtain ⟨a', us, T', ea, ha', ts, _⟩ := (show Tr H1 Z T0 (.ref a) (dq true es) from t0).seq
        cases ea
        have ha2 : H1 a = some (.lst us) := ha'
        rw [ha] at ha2
        cases ha2
        exact ts.length
      have e3 : ((es.length - 1 : Nat) : Int).toNat = vs.length - 1 := by omega
      rw [e3] at ey R2
      refine ⟨a, vs, y, rfl, rfl, ha, ey, ?_⟩
      have e4 : vs.eraseIdx (vs.length - 1) = vs.dropLast := List.eraseIdx_length_sub_one
      rw [e4] at R2
      exact w _ _ _ hq R2
    · exact hk1.elim⟩
def kPopAt (ko ke : KE) : KE := fun γ q => ko γ fun γ1 => isLst γ1 ∧ ke γ1 fun γ2 => match γ2.tm with
  | .fz (.int kk) :: .al i π :: tm => popK γ2 i π tm kk q
  | _ => False
theorem so_popAt (ho : SoE xc t ko) (he : SoE xc ta ka) : SoE xc (tBM K "list" rPopAt t (tCons ta tNil)) (kPopAt ko ka) := fun γ Θ σ H Q q R hk w => ho γ Θ σ H _ _ R hk fun γ1 v H1 hk1 R1 =>
  ⟨tyV_of R1 hk1.1, he γ1 _ σ H1 _ _ R1 hk1.2 fun γ2 u H2 hk2 R2 => by
    obtain ⟨sl, tm, j⟩ := γ2
    dsimp only at hk2
    split at hk2
    · rename_i kk i π tm
      obtain ⟨T, r, _⟩ := R2.read (d := .int kk) rfl
      cases r
      obtain ⟨a, vs, y, γ', rfl, ha, k0, k1, ey, hq, R3⟩ := popK_ok (ss := [.fz (.int kk)]) (us := [.int kk]) R2 rfl hk2
      refine ⟨a, vs, kk, kk.toNat, y, rfl, rfl, ha, ?_, ?_, ?_, ey, w _ _ _ hq R3⟩
      · have e : (2 : Int) ^ 63 = 9223372036854775808 := by decide
        omega
      · have e : (2 : Int) ^ 63 = 9223372036854775808 := by decide
        omega
      · unfold seqIndex?
        simp only [show ¬ kk < 0 by omega, if_false]
        rw [if_pos]
        simp
        omega
    · exact hk2.elim⟩
/-- o[i] = e -/
def kgSub (ko ki : KE) : KG := fun γ q => ko γ fun γ1 => ki γ1 fun γ2 => match γ2.tm with
  | .fz (.int kk) :: .al i π :: s :: tm => (con s).elim False fun c => noAl i tm = true ∧ wrL γ2.sl i π fun b d es => (((b && c.1) = true ∨ π = []) ∧ ioOk γ2.sl i (b && c.1)) ∧ (0 ≤ kk ∧ kk < es.length) ∧ q ⟨putS γ2.sl i (b && c.1) (setP d π (.list (es.set kk.toNat c.2))), tm, γ2.n⟩
  | _ => False
theorem so_gsub (ho : SoE xc t ko) (hi : SoE xc ta ka) : SoG xc (gSub t ta rSetL) (kgSub ko ka) := fun γ v Θ σ H Q q R hk w => ho γ _ σ H _ _ R hk fun γ1 o H1 hk1 R1 => hi γ1 _ σ H1 _ _ R1 hk1 fun γ2 u H2 hk2 R2 => by
  obtain ⟨sl, tm, j⟩ := γ2
  dsimp only at hk2
  split at hk2
  · rename_i kk i π s tm
    obtain ⟨⟨cb, cd⟩, ec, na, hw⟩ := elimF hk2
    obtain ⟨s0, b, d, es, e1, hs, eds, e2, ⟨hb, hio⟩, ⟨k0, k1⟩, hq⟩ := wrL_inv hw
    rw [putS_eq e1] at hq
    obtain ⟨hb1, hb2⟩ := okB hb
    obtain ⟨T0, r0, _⟩ := R2.read (d := .int kk) rfl
    cases r0
    obtain ⟨Z, S1, S2, X⟩ := R2
    obtain ⟨w0, ew, wk⟩ := X.walk (j := 1) rfl rfl
    obtain ⟨A, B, en, X1, f⟩ := RelX.popF (ss := [.fz (.int kk), .al i π, s]) (us := [.int kk, o, v]) X rfl
    obtain ⟨A', en', rfl⟩ : ∃ A', Ent C Z H2 A' (some v) s ∧ A = A' := by
      cases en with
      | cons e1 e2 =>
        cases e1
        cases e2 with
        | cons e2 e3 =>
          cases e2
          cases e3 with
          | cons e3 e4 =>
            cases e4
            exact ⟨_, e3, by simp⟩
    obtain ⟨a, vs, T, rfl, ha, ts, aA, aZ, aT, put⟩ := X1.putF f e1 hs na ew wk e2 hb1
    have el := ts.length
    have ti := en'.con ec
    have hlt : kk.toNat < es.length := by omega
    have ts' : Trs (upd H2 a (.lst (vs.set kk.toNat v))) (rgn (b && cb) Z) T vs es := (ts.upd ha aZ aT).weak (rgn_mono fun z => by rw [Bool.and_eq_true] at z; exact z.1)
    have ti' : Tr (upd H2 a (.lst (vs.set kk.toNat v))) (rgn (b && cb) Z) A v cd := (ti.upd ha aZ fun x m z => aA (z ▸ m)).weak (rgn_mono fun z => by rw [Bool.and_eq_true] at z; exact z.2)
    obtain ⟨y, T1, Rr, ey, ty, pm, _, kset⟩ := ts'.at (i := kk.toNat) (List.getElem?_eq_getElem hlt)
    obtain ⟨T2, t2, p2⟩ := kset _ A v cd (fun _ _ h => h) (fun _ _ _ h => h) (fun _ _ _ h => h) ti'
    obtain ⟨S1', X2, _⟩ := put (vs.set kk.toNat v) (es.set kk.toNat cd) (b && cb) T2 T1 hb2 (ioOk_at hio e1) t2 (by
      refine List.perm_iff_count.mpr fun x => ?_
      have q1 := pm.count_eq x
      have q2 := p2.count_eq x
      rw [List.count_append] at q1 q2 ⊢
      rw [List.count_append]
      omega)
    refine ⟨a, vs, kk, kk.toNat, rfl, rfl, ha, ?_, w _ _ _ hq ⟨_, _, _, X2⟩⟩
    unfold ixN
    rw [if_pos k0, if_pos (by omega)]
  · exact hk2.elim
def ItD (C : Cn) (J : It) (ds : List D) (tm : List Sl) (Ψ : List V) : Prop := ∀ (E : List Sl) (Φ : List V) (i : Nat) (sl : List Sl) (n : Int) (σ : L2.St) (H : Hp), Φ.length = E.length → Rel C ⟨sl, E ++ tm, n⟩ (Φ ++ Ψ) σ H → (∀ d, ds[i]? = some d → J.go i H ∧ ∀ x H3, J.yld i H x H3 → Rel C ⟨sl, .fz d :: (E ++ tm), n⟩ (x :: (Φ ++ Ψ)) σ H3) ∧ (ds.length ≤ i → J.stop i H)
def PopD (C : Cn) (tm' : List Sl) (Ψ : List V) (tm : List Sl) (Θ : List V) : Prop := ∀ (E : List Sl) (Φ : List V) (sl : List Sl) (n : Int) (σ : L2.St) (H : Hp), Φ.length = E.length → (∀ s ∈ E, ∀ i π, s ≠ .al i π) → Rel C ⟨sl, E ++ tm', n⟩ (Φ ++ Ψ) σ H → Rel C ⟨sl, E ++ tm, n⟩ (Φ ++ Θ) σ H
abbrev KI := VSt → (List D → VSt → Prop) → Prop
def SoI {C : Cn} (xc : XC C) (wi : TI) (ki : KI) : Prop := ∀ (γ : VSt) (Θ : List V) (σ : L2.St) (H : Hp) (R : It → Hp → Prop) (q : List D → VSt → Prop), Rel C γ Θ σ H → ki γ q →
  (∀ J ds γ' Ψ H', q ds γ' → PopD C γ'.tm Ψ γ.tm Θ → ItD C J ds γ'.tm Ψ → Rel C γ' Ψ σ H' → R J H') → wi σ H R
theorem Rel.dupAt {C : Cn} {γ : VSt} {d : D} {v : V} {Θ : List V} {σ : L2.St} {H : Hp} {kk : Nat} (R : Rel C γ Θ σ H) (e : γ.tm[kk]? = some (.fz d)) (ev : Θ[kk]? = some v) : Rel C ⟨γ.sl, .fz d :: γ.tm, γ.n⟩ (v :: Θ) σ H := by
  obtain ⟨Z, S1, S2, h⟩ := R
  obtain ⟨v', T, Q, ev', en, pm, _⟩ := h.et.at e
  rw [List.getElem?_map, ev] at ev'
  cases ev'
  cases en with
  | fz t =>
    obtain ⟨sl, tm, n⟩ := γ
    exact ⟨Z, S1, _, h.pushE (Z' := Z) (.fz t) List.nodup_nil (fun a m => nomatch m) (fun i π z => nomatch z)⟩
theorem Fl.sub {C : Cn} {Z : Reg} {S1 S2 A A1 A2 : List Addr} {H : Hp} (f : Fl C Z S1 S2 H A) (pm : A.Perm (A1 ++ A2)) : Fl C Z S1 S2 H A1 := by
  refine ⟨nodup_cnt.mpr fun x => ?_, fun a m => f.ok a (pm.mem_iff.mpr (List.mem_append_left _ m))⟩
  have h1 := nodup_cnt.mp f.nd x
  have h2 := pm.count_eq x
  rw [List.count_append] at h1 h2 ⊢
  omega
/-- an entry below the top is forgotten -/
theorem popD_one {C : Cn} {s : Sl} {v : V} {tm : List Sl} {Θ : List V} : PopD C (s :: tm) (v :: Θ) tm Θ := fun E Φ sl n σ H el na R => by
  obtain ⟨Z, S1, S2, h⟩ := R
  have h' : RelX C Z S1 S2 ⟨sl, (E ++ [s]) ++ tm, n⟩ ((Φ ++ [v]) ++ Θ) σ H := by simpa using h
  obtain ⟨A, B, en, X, f⟩ := RelX.popF (ss := E ++ [s]) (us := Φ ++ [v]) h' (by simp [el])
  rw [List.map_append] at en
  obtain ⟨A1, A2, rfl, e1, e2⟩ := en.split (by simpa using el)
  exact ⟨Z, S1, _, X.pushEs (f.sub (.refl _)) e1 na⟩
theorem popD_refl {C : Cn} {tm tm' : List Sl} {Θ : List V} (e : tm' = tm) : PopD C tm' Θ tm Θ := fun E Φ sl n σ H el na R => e ▸ R
theorem itD_list {C : Cn} {l : Bool} {a : Addr} {ds : List D} {tm : List Sl} {Θ : List V} (J : It) (hJ : ∀ i H vs, H a = some (hoq l vs) → (∀ x, vs[i]? = some x → J.go i H) ∧ (∀ x H3, J.yld i H x H3 → H3 = H ∧ vs[i]? = some x) ∧ (vs.length ≤ i → J.stop i H)) : ItD C J ds (.fz (dq l ds) :: tm) (.ref a :: Θ) := fun E Φ i sl n σ H ee R => by
  have R1 := R.dupAt (kk := E.length) (d := dq l ds) (v := .ref a) (by rw [List.getElem?_append_right (Nat.le_refl _)]; simp) (by rw [← ee, List.getElem?_append_right (Nat.le_refl _)]; simp)
  obtain ⟨a', vs, ea, ha, el, k⟩ := R1.item (l := l) (ds := ds) rfl
  cases ea
  obtain ⟨j1, j2, j3⟩ := hJ i H vs ha
  refine ⟨fun d e => ?_, fun hi => j3 (by omega)⟩
  have hlt : i < vs.length := by
    have := (List.getElem?_eq_some_iff.mp e).1
    omega
  refine ⟨j1 _ (List.getElem?_eq_getElem hlt), fun x H3 hy => ?_⟩
  obtain ⟨rfl, ex⟩ := j2 x H3 hy
  exact k i d x e ex
/-- the top, frozen, as a sequence -/
def frzSeq (l : Bool) (s : Sl) : Option (List D) := match s with
  | .fz d => seqD l d
  | .ow _ d => seqD l d
  | _ => none
def kIt (l : Bool) (ke : KE) : KI := fun γ q => ke γ fun γ1 => match γ1.tm with
  | s :: tm => (frzSeq l s).elim False fun ds => q ds ⟨γ1.sl, .fz (dq l ds) :: tm, γ1.n⟩ ∧ tm = γ.tm
  | _ => False
theorem it_core {C : Cn} {sl tm : List Sl} {s : Sl} {j : Int} {v : V} {Θ : List V} {σ : L2.St} {H : Hp} {l : Bool} {ds : List D} (R : Rel C ⟨sl, s :: tm, j⟩ (v :: Θ) σ H) (e : frzSeq l s = some ds) : ∃ a vs, v = .ref a ∧ H a = some (hoq l vs) ∧ Rel C ⟨sl, .fz (dq l ds) :: tm, j⟩ (v :: Θ) σ H := by
  have R2 : Rel C ⟨sl, .fz (dq l ds) :: tm, j⟩ (v :: Θ) σ H := by
    cases s with
    | fz d => rw [← seqD_eq (d := d) e]; exact R
    | ow b d => rw [← seqD_eq (d := d) e]; exact R.frzT
    | jk => cases e
    | dc m => cases e
    | dt m => cases e
    | sh m => cases e
    | xv _ _ m => cases e
    | ho _ _ => cases e
    | xw _ _ => cases e
    | ob _ _ _ => cases e
    | io d => cases e
    | al i π => cases e
    | pu => cases e
  obtain ⟨a, vs, rfl, ha, _, _⟩ := R2.item (l := l) (ds := ds) rfl
  exact ⟨a, vs, rfl, ha, R2⟩
theorem so_itL (h : SoE xc t k) : SoI xc (iList K t) (kIt true k) := fun γ Θ σ H Rr q R hk w => h γ Θ σ H _ _ R hk fun γ1 v H1 hk1 R1 => by
  obtain ⟨sl, tm, j⟩ := γ1
  dsimp only at hk1
  split at hk1
  · rename_i s tm
    obtain ⟨ds, e, hq, et⟩ := elimF hk1
    subst et
    obtain ⟨a, vs, rfl, ha, R2⟩ := it_core R1 e
    refine ⟨a, rfl, ⟨vs, SqL.of ha⟩, w _ ds _ _ H1 hq popD_one (itD_list (l := true) _ fun i H xs hx => ⟨fun x ex => ⟨xs, x, SqL.of hx, ex⟩, fun x H3 hy => ⟨hy.1, hy.2 xs (SqL.of hx)⟩, fun hi => ⟨xs, SqL.of hx, hi⟩⟩) R2⟩
  · exact hk1.elim
theorem so_itT (h : SoE xc t k) : SoI xc (iTup K t) (kIt false k) := fun γ Θ σ H Rr q R hk w => h γ Θ σ H _ _ R hk fun γ1 v H1 hk1 R1 => by
  obtain ⟨sl, tm, j⟩ := γ1
  dsimp only at hk1
  split at hk1
  · rename_i s tm
    obtain ⟨ds, e, hq, et⟩ := elimF hk1
    subst et
    obtain ⟨a, vs, rfl, ha, R2⟩ := it_core R1 e
    refine ⟨a, rfl, ⟨vs, SqT.of ha⟩, w _ ds _ _ H1 hq popD_one (itD_list (l := false) _ fun i H xs hx => ⟨fun x ex => ⟨xs, x, SqT.of hx, ex⟩, fun x H3 hy => ⟨hy.1, hy.2 xs (SqT.of hx)⟩, fun hi => ⟨xs, SqT.of hx, hi⟩⟩) R2⟩
  · exact hk1.elim
theorem itD_range {C : Cn} {tm : List Sl} {Ψ : List V} (a b : Int) : ItD C (Itr a (b - a).toNat) ((rg a b).map PyData.int) tm Ψ := fun E Φ i sl n σ H ee R => by
  refine ⟨fun d e => ?_, fun hi => ?_⟩
  · rw [List.getElem?_map] at e
    have hi : i < (b - a).toNat := by
      rcases Nat.lt_or_ge i (b - a).toNat with z | z
      · exact z
      · rw [List.getElem?_eq_none (by rw [rg_length]; omega)] at e
        cases e
    have er : (rg a b)[i]? = some (a + i) := by
      unfold rg
      rw [List.getElem?_map, List.getElem?_range hi]
      rfl
    rw [er] at e
    cases e
    refine ⟨hi, fun x H3 hy => ?_⟩
    obtain ⟨rfl, rfl⟩ := hy
    exact R.push fun Z => .int _
  · rw [List.length_map, rg_length] at hi
    exact hi
def kRng1 (ke : KE) : KI := fun γ q => ke γ fun γ1 => popI γ1 fun j γ2 => (-1000000000000 ≤ j ∧ j ≤ 1000000000000) ∧ q ((rg 0 j).map PyData.int) γ2 ∧ γ2.tm = γ.tm
def kRng2 (ka kb : KE) : KI := fun γ q => ka γ fun γ1 => kb γ1 fun γ2 => popI γ2 fun j γ3 => popI γ3 fun i γ4 => (-1000000000000 ≤ i ∧ i ≤ 1000000000000 ∧ -1000000000000 ≤ j ∧ j ≤ 1000000000000) ∧ q ((rg i j).map PyData.int) γ4 ∧ γ4.tm = γ.tm
theorem so_rng1 (h : SoE xc t k) : SoI xc (iRng1 (tCons t tNil)) (kRng1 k) := fun γ Θ σ H Rr q R hk w => h γ Θ σ H _ _ R hk fun γ1 v H1 hk1 R1 => by
  obtain ⟨j, γ2, rfl, ⟨⟨b1, b2⟩, hq, et⟩, R2⟩ := popI_ok R1 hk1
  have e : (2 : Int) ^ 62 = 4611686018427387904 := by decide
  refine ⟨j, rfl, by omega, by omega, ?_⟩
  have := w (Itr 0 j.toNat) _ γ2 Θ H1 hq (popD_refl et) (by have := itD_range (C := C) (tm := γ2.tm) (Ψ := Θ) 0 j; simpa using this) R2
  exact this
theorem so_rng2 (h : SoE xc ta ka) (h' : SoE xc tb kb) : SoI xc (iRng2 (tCons ta (tCons tb tNil))) (kRng2 ka kb) := fun γ Θ σ H Rr q R hk w => h γ Θ σ H _ _ R hk fun γ1 v H1 hk1 R1 => h' γ1 _ σ H1 _ _ R1 hk1 fun γ2 u H2 hk2 R2 => by
  obtain ⟨j, γ3, rfl, hf, R3⟩ := popI_ok R2 hk2
  obtain ⟨i, γ4, rfl, ⟨⟨b1, b2, b3, b4⟩, hq, et⟩, R4⟩ := popI_ok R3 hf
  have e : (2 : Int) ^ 62 = 4611686018427387904 := by decide
  exact ⟨i, j, rfl, ⟨by omega, by omega, by omega, by omega⟩, w _ _ γ4 Θ H2 hq (popD_refl et) (itD_range i j) R4⟩
section
variable {s1 s2 : TS} {p1 p2 : KS} {g1 g2 : TG} {e1 e2 : KG}
def okS : Sl → Bool
  | .al _ _ => false
  | _ => true
def kgName (i : Nat) : KG := fun γ q => match γ.tm with
  | s :: tm => (okS s = true ∧ noAl i tm = true) ∧ q ⟨γ.sl.set i s, tm, γ.n⟩
  | _ => False
theorem okS_ne {s : Sl} (h : okS s = true) : ∀ i π, s ≠ .al i π := fun i π z => by subst z; cases h
theorem so_gname {i : Nat} : SoG xc (gName i) (kgName i) := fun γ v Θ σ H Q q R hk w => by
  obtain ⟨sl, tm, j⟩ := γ
  unfold kgName at hk
  dsimp only at hk
  split at hk
  · obtain ⟨⟨h1, h2⟩, hq⟩ := hk
    exact w _ _ _ hq (R.set (okS_ne h1) h2)
  · exact hk.elim
def SoGs {C : Cn} (xc : XC C) (n : Nat) (t : TGs) (k : KG) : Prop := ∀ (γ : VSt) (vs Θ : List V) (σ : L2.St) (H : Hp) (Q : L2.St → Hp → Prop) (q : VSt → Prop), vs.length = n → Rel C γ (vs ++ Θ) σ H → k γ q → (∀ γ' σ' H', q γ' → Rel C γ' Θ σ' H' → Q σ' H') → t vs σ H Q
def kgNil : KG := fun γ q => q γ
def kgCons (a b : KG) : KG := fun γ q => a γ fun γ1 => b γ1 q
theorem so_gnil : SoGs xc 0 gNil kgNil := fun γ vs Θ σ H Q q el R hk w => by
  match vs, el with
  | [], _ => exact ⟨rfl, w _ _ _ hk R⟩
theorem so_gcons {ts : TGs} {es : KG} (a : SoG xc g1 e1) (b : SoGs xc n ts es) : SoGs xc (n + 1) (gCons g1 ts) (kgCons e1 es) := fun γ vs Θ σ H Q q el R hk w => by
  match vs, el with
  | v :: vs, el => exact ⟨v, vs, rfl, a γ v _ σ H _ _ R hk fun γ1 σ1 H1 hk1 R1 => b γ1 vs Θ σ1 H1 Q q (by simpa using el) R1 hk1 w⟩
/-- (a, b, ..) = a tuple -/
def kgTup (n : Nat) (a : KG) : KG := fun γ q => match γ.tm with
  | s :: tm => (itS s).elim False fun ss => ss.length = n ∧ a ⟨γ.sl, ss ++ tm, γ.n⟩ q
  | _ => False
theorem so_gtup {ts : TGs} {es : KG} (b : SoGs xc n ts es) : SoG xc (gTup K n ts) (kgTup n es) := fun γ v Θ σ H Q q R hk w => by
  obtain ⟨sl, tm, j⟩ := γ
  unfold kgTup at hk
  dsimp only at hk
  split at hk
  · obtain ⟨ss, e, hn, hq⟩ := elimF hk
    obtain ⟨a, vs, rfl, ha, el, R2⟩ := R.unpack e
    exact ⟨a, vs, rfl, SqT.of ha, by omega, b _ vs Θ σ H Q q (by omega) R2 hq w⟩
  · exact hk.elim
def kAsg (ke : KE) (g : KG) : KS := fun γ e => ke γ fun γ1 => g γ1 e.nx
theorem so_asg (a : SoE xc t k) (b : SoG xc g1 e1) : SoS xc (tAsg t g1) (kAsg k e1) := fun γ Θ σ H De e R hk w => a γ Θ σ H _ _ R hk fun γ1 v H1 hk1 R1 => b γ1 v Θ σ H1 _ _ R1 hk1 w.nx
/-- a, b = x, y -/
def kPar (i j : Nat) (ka : KE) : KS := fun γ e => ka γ fun γ1 => match γ1.tm with
  | s2 :: s1 :: tm => (okS s2 = true ∧ okS s1 = true ∧ noAl i tm = true ∧ noAl j tm = true) ∧ e.nx ⟨(γ1.sl.set i s1).set j s2, tm, γ1.n⟩
  | _ => False
theorem so_par {i j : Nat} {ts : TA} (hij : i ≠ j) (a : SoA xc 2 ts ka) : SoS xc (tPar i j ts) (kPar i j ka) := fun γ Θ σ H De e R hk w => a γ Θ σ H _ _ R hk fun γ1 vs H1 el hk1 R1 => by
  obtain ⟨sl, tm, n⟩ := γ1
  dsimp only at hk1
  match vs, el with
  | [v, u], _ =>
    split at hk1
    · rename_i s2 s1 tm
      obtain ⟨⟨q1, q2, q3, q4⟩, hq⟩ := hk1
      have R2 : Rel C ⟨sl, s2 :: s1 :: tm, n⟩ (u :: v :: Θ) σ H1 := R1
      have na : noAl j (s1 :: tm) = true := by
        unfold noAl at q4 ⊢
        rw [List.all_cons, q4, Bool.and_true]
        cases s1 <;> first | rfl | cases q2
      have R3 := (R2.set (okS_ne q1) na).set (i := i) (okS_ne q2) q3
      rw [List.set_comm _ _ (Ne.symm hij), List.set_comm _ _ (Ne.symm hij)] at R3
      exact ⟨v, u, rfl, w.nx _ _ _ hq R3⟩
    · exact hk1.elim
/-- x += e -/
def kAug (i : Nat) (f : Int → Int → Int) (ke : KE) : KS := fun γ e => match γ.sl[i]? with
  | some (.fz (.int a)) => ke γ fun γ1 => popI γ1 fun b γ2 => noAl i γ2.tm = true ∧ e.nx ⟨γ2.sl.set i (.fz (.int (f a b))), γ2.tm, γ2.n⟩
  | _ => False
theorem so_aug {i : Nat} {f : Int → Int → Int} (a : SoE xc t k) : SoS xc (tAug i t (ipI f)) (kAug i f k) := fun γ Θ σ H De e R hk w => by
  unfold kAug at hk
  split at hk
  · rename_i x ex
    obtain ⟨sl, tm, n⟩ := γ
    obtain ⟨v, ev, Rv⟩ := R.varF ex
    obtain ⟨T, r, _⟩ := Rv.read (d := .int x) rfl
    cases r
    refine ⟨_, ev, a _ Θ σ H _ _ R hk fun γ1 v H1 hk1 R1 => ?_⟩
    obtain ⟨b, γ2, rfl, ⟨na, hq⟩, R2⟩ := popI_ok R1 hk1
    obtain ⟨sl2, tm2, n2⟩ := γ2
    have R3 := R2.push (v := .int (f x b)) (d := .int (f x b)) fun Z => .int _
    exact ⟨x, b, rfl, rfl, w.nx _ _ _ hq (R3.set (fun i π z => nomatch z) na)⟩
  · exact hk.elim
def kDrop (ke : KE) : KS := fun γ e => ke γ fun γ1 => match γ1.tm with
  | _ :: tm => e.nx ⟨γ1.sl, tm, γ1.n⟩
  | _ => False
theorem so_drop (a : SoE xc t k) : SoS xc (tDrop t) (kDrop k) := fun γ Θ σ H De e R hk w => a γ Θ σ H _ _ R hk fun γ1 v H1 hk1 R1 => by
  obtain ⟨sl, tm, n⟩ := γ1
  dsimp only at hk1
  split at hk1
  · exact w.nx _ _ _ hk1 R1.pop
  · exact hk1.elim
def kRet (ke : KE) : KS := fun γ e => ke γ fun γ1 => match γ1.tm with
  | s :: tm => e.rt s ⟨γ1.sl, tm, γ1.n⟩
  | _ => False
theorem so_ret (a : SoE xc t k) : SoS xc (tRet t) (kRet k) := fun γ Θ σ H De e R hk w => a γ Θ σ H _ _ R hk fun γ1 v H1 hk1 R1 => by
  obtain ⟨sl, tm, n⟩ := γ1
  dsimp only at hk1
  split at hk1
  · exact w.rt _ _ _ _ _ _ hk1 R1
  · exact hk1.elim
def kRetN : KS := fun γ e => e.rt (.fz .none) γ
def kNever : KS := fun _ _ => False
def kNext : KS := fun γ e => e.nx γ
theorem so_next : SoS xc tNext kNext := fun γ Θ σ H De e R hk w => w.nx _ _ _ hk R
def kBreak : KS := fun γ e => e.bk γ
theorem so_break : SoS xc tBreak kBreak := fun γ Θ σ H De e R hk w => w.bk _ _ _ hk R
def kCont : KS := fun γ e => e.ct γ
def kSeq (a b : KS) : KS := fun γ e => a γ ⟨fun γ' => b γ' e, e.rt, e.bk, e.ct⟩
theorem so_seq (a : SoS xc s1 p1) (b : SoS xc s2 p2) : SoS xc (tSeq s1 s2) (kSeq p1 p2) := fun γ Θ σ H De e R hk w => a γ Θ σ H _ _ R hk ⟨fun γ' σ' H' h R' => b γ' Θ σ' H' De e R' h w, w.rt, w.bk, w.ct⟩
def kIfS (c : KT) (a b : KS) : KS := fun γ e => c γ fun x γ1 => if x = true then a γ1 e else b γ1 e
theorem so_ifS (c : SoT xc c1 h1) (a : SoS xc s1 p1) (b : SoS xc s2 p2) : SoS xc (tIfS c1 s1 s2) (kIfS h1 p1 p2) := fun γ Θ σ H De e R hk w => c γ Θ σ H _ _ R hk fun x γ1 H1 hk1 R1 => by
  cases x with
  | true => exact a γ1 Θ σ H1 De e R1 (by simpa using hk1) w
  | false => exact b γ1 Θ σ H1 De e R1 (by simpa using hk1) w
/-- for: the items one by one -/
def forL (g : KG) (kb : KS) (tm : List Sl) : List D → VSt → KEd → Prop
  | [], γ, e => e.nx γ
  | d :: ds, γ, e => g ⟨γ.sl, .fz d :: γ.tm, γ.n⟩ fun γ1 => kb γ1 ⟨fun γ2 => γ2.tm = tm ∧ forL g kb tm ds γ2 e, e.rt, fun γ2 => γ2.tm = tm ∧ e.nx γ2, fun γ2 => γ2.tm = tm ∧ forL g kb tm ds γ2 e⟩
def kFor (ki : KI) (g : KG) (kb : KS) : KS := fun γ e => ki γ fun ds γ1 => forL g kb γ1.tm ds γ1 ⟨fun γ2 => e.nx ⟨γ2.sl, γ.tm, γ2.n⟩, e.rt, fun _ => False, fun _ => False⟩
theorem so_for {wi : TI} {ki : KI} (hi : SoI xc wi ki) (hg : SoG xc g1 e1) (hb : SoS xc s1 p1) : SoS xc (tFor wi g1 s1) (kFor ki e1 p1) := fun γ Θ σ H De e R hk w => hi γ Θ σ H _ _ R hk fun J ds γ1 Ψ H1 hq hp hJ R1 => by
  refine ⟨fun i m σ' H' => m = ds.length - i ∧ i ≤ ds.length ∧ ∃ γ', γ'.tm = γ1.tm ∧ forL e1 p1 γ1.tm (ds.drop i) γ' ⟨fun γ2 => e.nx ⟨γ2.sl, γ.tm, γ2.n⟩, e.rt, fun _ => False, fun _ => False⟩ ∧ Rel C γ' Ψ σ' H', ⟨ds.length, rfl, Nat.zero_le _, γ1, rfl, by simpa using hq, R1⟩, ?_⟩
  rintro i m σ' H' ⟨rfl, hi, γ', et, hf, R'⟩
  obtain ⟨sl', tm', n'⟩ := γ'
  dsimp only at et
  subst et
  obtain ⟨j1, j2⟩ := hJ [] [] i sl' n' σ' H' rfl R'
  by_cases hlt : i < ds.length
  · right
    have e2 : ds.drop i = ds[i] :: ds.drop (i + 1) := List.drop_eq_getElem_cons hlt
    rw [e2] at hf
    obtain ⟨g, y⟩ := j1 ds[i] (List.getElem?_eq_getElem hlt)
    refine ⟨g, fun σ2 H2 => ∃ γ2, γ2.tm = γ1.tm ∧ forL e1 p1 γ1.tm (ds.drop (i + 1)) γ2 ⟨fun γ2 => e.nx ⟨γ2.sl, γ.tm, γ2.n⟩, e.rt, fun _ => False, fun _ => False⟩ ∧ Rel C γ2 Ψ σ2 H2, fun σ2 H2 ⟨γ2, a, b, c⟩ => ⟨ds.length - (i + 1), by omega, rfl, hlt, γ2, a, b, c⟩, fun x H3 hy => ?_⟩
    refine hg _ x Ψ σ' H3 _ _ (y x H3 hy) hf fun γ3 σ3 H4 hb3 R3 => ?_
    refine hb γ3 Ψ σ3 H4 _ _ R3 hb3 ⟨fun γ' σ' H' h R' => ⟨γ', h.1, h.2, R'⟩, w.rt, fun γ' σ' H' h R' => ?_, fun γ' σ' H' h R' => ⟨γ', h.1, h.2, R'⟩⟩
    obtain ⟨sl, tm, n⟩ := γ'
    obtain ⟨et, hx⟩ := h
    dsimp only at et hx
    subst et
    exact w.nx _ _ _ hx (hp [] [] _ _ _ _ rfl (fun _ m => nomatch m) R')
  · left
    have e0 : i = ds.length := by omega
    refine ⟨j2 (by omega), ?_⟩
    rw [e0, List.drop_length] at hf
    exact w.nx _ _ _ hf (hp [] [] _ _ _ _ rfl (fun _ m => nomatch m) R')
def kWhile (c : KT) (kb : KS) : KS := fun γ e => ∃ W : Nat → VSt → Prop, (∃ m, W m γ) ∧ ∀ m γ, W m γ → c γ fun b γ1 => if b = true then kb γ1 ⟨fun γ2 => ∃ m', m' < m ∧ W m' γ2, e.rt, e.nx, fun γ2 => ∃ m', m' < m ∧ W m' γ2⟩ else e.nx γ1
theorem so_while (c : SoT xc c1 h1) (hb : SoS xc s1 p1) : SoS xc (tWhile c1 s1) (kWhile h1 p1) := fun γ Θ σ H De e R hk w => by
  obtain ⟨W, ⟨m, w0⟩, step⟩ := hk
  refine ⟨fun m σ' H' => ∃ γ', W m γ' ∧ Rel C γ' Θ σ' H', ⟨m, γ, w0, R⟩, fun m σ' H' ⟨γ', hw, R'⟩ => c γ' Θ σ' H' _ _ R' (step m γ' hw) fun b γ1 H1 hk1 R1 => ?_⟩
  cases b with
  | true =>
    rw [if_pos rfl] at hk1 ⊢
    refine ⟨fun σ2 H2 => ∃ m', m' < m ∧ ∃ γ2, W m' γ2 ∧ Rel C γ2 Θ σ2 H2, fun σ2 H2 ⟨m', lt, γ2, a, b⟩ => ⟨m', lt, γ2, a, b⟩, ?_⟩
    exact hb γ1 Θ σ' H1 _ _ R1 hk1 ⟨fun γ2 σ2 H2 ⟨m', lt, a⟩ R2 => ⟨m', lt, γ2, a, R2⟩, w.rt, w.nx, fun γ2 σ2 H2 ⟨m', lt, a⟩ R2 => ⟨m', lt, γ2, a, R2⟩⟩
  | false =>
    rw [if_neg (by simp)] at hk1 ⊢
    exact w.nx _ _ _ hk1 R1
end
end
end G
namespace G
open PySem PySem.Spec PyProof.Rows L2
variable {C : Cn} {xc : XC C}
section
variable {t t1 t2 ta tb tc : TE} {k k1 k2 ka kb kc ko : KE} {n m : Nat} {c1 c2 : TT} {h1 h2 : KT} {K : PySem.W.Frag}
/-- the list that is made, one item more -/
theorem Rel.grow {C : Cn} {sl tm : List Sl} {s : Sl} {b cb : Bool} {es : List D} {cd : D} {j : Int} {u v : V} {Θ : List V} {σ : L2.St} {H : Hp} (R : Rel C ⟨sl, s :: .ow b (.list es) :: tm, j⟩ (u :: v :: Θ) σ H) (ec : con s = some (cb, cd)) :
    ∃ a vs, v = .ref a ∧ H a = some (.lst vs) ∧ vs.length = es.length ∧ Rel C ⟨sl, .ow (b && cb) (.list (es ++ [cd])) :: tm, j⟩ (v :: Θ) σ (upd H a (.lst (vs ++ [u]))) := by
  obtain ⟨Z, S1, S2, X⟩ := R
  obtain ⟨A, B, en, X1, f⟩ := RelX.popF (ss := [s, .ow b (.list es)]) (us := [u, v]) X rfl
  -- the two of them
  obtain ⟨A1, A2, e1, e2, rfl⟩ : ∃ A1 A2, Ent C Z H A1 (some u) s ∧ Ent C Z H A2 (some v) (.ow b (.list es)) ∧ A = A1 ++ A2 := by
    cases en with
    | cons e1 e2 =>
      cases e2 with
      | cons e2 e3 =>
        cases e3
        exact ⟨_, _, e1, e2, by simp⟩
  have ti := e1.con ec
  have key : ∃ a vs T, v = .ref a ∧ H a = some (.lst vs) ∧ A2 = a :: T ∧ Trs H (rgn b Z) T vs es := by
    cases e2 with
    | ow t =>
      cases t with
      | lst q ts => exact ⟨_, _, _, rfl, q, rfl, ts⟩
      | lstZ z _ _ => exact z.elim
    | sp q ts => exact ⟨_, _, _, rfl, q, rfl, ts⟩
  obtain ⟨a, vs, T, rfl, ha, rfl, ts⟩ := key
  have cnt : ∀ x, List.count x A1 + (List.count x [a] + List.count x T) + (List.count x S1 + List.count x B) ≤ 1 := fun x => by
    have := nodup_cnt.mp f.nd x
    rw [List.count_append, List.count_append, List.count_append, ← List.singleton_append, List.count_append] at this
    omega
  have cpos : ∀ {x : Addr} {l : List Addr}, x ∈ l → 0 < List.count x l := fun h => List.count_pos_iff.mpr h
  have ca : List.count a [a] = 1 := by simp
  have out : ∀ {x : Addr} {l : List Addr}, x ∈ l → (∀ y, List.count y l ≤ List.count y A1 + List.count y T + List.count y S1 + List.count y B) → x ≠ a := fun {x l} m h z => by
    subst z
    have := cpos m
    have := h x
    have := cnt x
    omega
  have aZ : ¬ C.tz Z a := (f.ok a (by simp)).1
  have nA : ∀ x ∈ A1, x ≠ a := fun x m => out m fun y => by omega
  have nT : ∀ x ∈ T, x ≠ a := fun x m => out m fun y => by omega
  have nS : ∀ x ∈ S1, x ≠ a := fun x m => out m fun y => by omega
  have nB : ∀ x ∈ B, x ≠ a := fun x m => out m fun y => by omega
  have el := ts.length
  refine ⟨a, vs, rfl, ha, el, ?_⟩
  have kt : ∀ t xs, H t = some (.tup xs) → upd H a (.lst (vs ++ [u])) t = some (.tup xs) := fun t xs et => by
    rw [upd_ne (show t ≠ a from fun z => by rw [z, ha] at et; cases et)]
    exact et
  have kne : ∀ x, x ≠ a → ∀ o, H x = some o → upd H a (.lst (vs ++ [u])) x = some o := fun x q o eo => by
    rw [upd_ne q]
    exact eo
  have kz0 : ∀ x, C.tz Z x → ∀ o, H x = some o → upd H a (.lst (vs ++ [u])) x = some o := fun x z o eo => kne x (fun q => aZ (q ▸ z)) o eo
  have kz : ∀ x, Z x → ∀ o, H x = some o → upd H a (.lst (vs ++ [u])) x = some o := fun x z => kz0 x (.inl z)
  have X2 : RelX C Z S1 B ⟨sl, tm, j⟩ Θ σ (upd H a (.lst (vs ++ [u]))) := by
    refine ⟨fun x o e m => ⟨(X1.fr x o e m).1, kz0 x (X1.fr x o e m).1 o (X1.fr x o e m).2⟩, X1.es.mono kt (fun _ z => z) kz fun x m => kne x (nS x m), X1.et.mono kt (fun _ z => z) kz fun x m => kne x (nB x m), X1.nd, X1.nz, fun q b e => ⟨(X1.pu q b e).1.mono fun o eo => kne q ?_ o eo, (X1.pu q b e).2⟩, fun x z => ?_, X1.dj, fun k i π w e ev => ?_⟩
    · exact fun z => (f.ok a (by simp)).2.1 q b e z.symm
    · obtain ⟨o, e⟩ := X1.ex x z
      exact ⟨o, kz0 x z o e⟩
    · obtain ⟨s, d', e', w', g1, g2, g3, g4, wk⟩ := X1.al k i π w e ev
      obtain ⟨w2, T', ew, t, sub⟩ := X1.slot g1 g2
      rw [g4] at ew
      cases ew
      exact ⟨s, d', e', w', g1, g2, g3, g4, (Tr.part t g3 wk).2 _ kt fun x z => z.elim (kz x) fun m => kne x (nS x (sub x m))⟩
  have t1 : Trs (upd H a (.lst (vs ++ [u]))) (rgn (b && cb) Z) (T ++ (A1 ++ [])) (vs ++ [u]) (es ++ [cd]) := by
    refine ((ts.upd ha (fun z => aZ (.inl z)) nT).weak (rgn_mono fun z => ?_)).append (.cons ((ti.upd ha (fun z => aZ (.inl z)) nA).weak (rgn_mono fun z => ?_)) .nil)
    · rw [Bool.and_eq_true] at z; exact z.1
    · rw [Bool.and_eq_true] at z; exact z.2
  have f2 : Fl C Z S1 B (upd H a (.lst (vs ++ [u]))) (a :: (T ++ (A1 ++ []))) := by
    refine ⟨nodup_cnt.mpr fun x => ?_, fun x m => ?_⟩
    · have := cnt x
      rw [List.append_nil, List.cons_append, ← List.singleton_append, List.count_append, List.count_append, List.count_append, List.count_append]
      omega
    · have mA : x ∈ A1 ++ a :: T := by
        rcases List.mem_cons.mp m with rfl | m
        · simp
        · rcases List.mem_append.mp m with m | m
          · exact List.mem_append_right _ (List.mem_cons_of_mem _ m)
          · exact List.mem_append_left _ (by simpa using m)
      obtain ⟨q1, q2, xs, eo⟩ := f.ok x mA
      refine ⟨q1, q2, ?_⟩
      by_cases hx : x = a
      · exact ⟨_, by rw [hx]; exact upd_same⟩
      · exact ⟨xs, kne x hx _ eo⟩
  have en' : Ent C Z (upd H a (.lst (vs ++ [u]))) (a :: (T ++ (A1 ++ []))) (some (.ref a)) (.ow (b && cb) (.list (es ++ [cd]))) := by
    cases hb : (b && cb) with
    | true =>
      rw [hb] at t1
      exact .ow (.lst upd_same t1)
    | false =>
      rw [hb] at t1
      exact .sp upd_same t1
  exact ⟨_, _, _, X2.pushF f2 (Dr := []) (by simp) en' (fun i π z => nomatch z)⟩
/-- [e for x in xs if t] -/
def lcL (j : Nat) (kt : KT) (ke : KE) : List D → VSt → (VSt → Prop) → Prop
  | [], γ, q => q γ
  | d :: ds, γ, q => noAl j γ.tm = true ∧ kt ⟨γ.sl.set j (.fz d), γ.tm, γ.n⟩ fun b γ1 => γ1.tm = γ.tm ∧ if b = true then ke γ1 fun γ2 => match γ2.tm with
      | s :: .ow b0 (.list es) :: tm => (con s).elim False fun c => (noAl j tm = true ∧ tm = γ.tm.tail ∧ es.length < 10000000) ∧ lcL j kt ke ds ⟨γ2.sl.set j .jk, .ow (b0 && c.1) (.list (es ++ [c.2])) :: tm, γ2.n⟩ q
      | _ => False
    else lcL j kt ke ds ⟨γ1.sl.set j .jk, γ1.tm, γ1.n⟩ q
def kLc (ki : KI) (j : Nat) (kt : KT) (ke : KE) : KE := fun γ q => ki γ fun ds γ1 => noAl j γ1.tm = true ∧ lcL j kt ke ds ⟨γ1.sl.set j .jk, .ow true (.list []) :: γ1.tm, γ1.n⟩ fun γ2 => match γ2.tm with
  | s :: tm => (okS s = true ∧ tm = γ1.tm) ∧ q ⟨γ2.sl, s :: γ.tm, γ2.n⟩
  | _ => False
/-- what stands at a name that is forgotten does not matter -/
theorem Rel.jkσ {C : Cn} {γ : VSt} {Θ : List V} {σ σ' : L2.St} {H : Hp} {j : Nat} (R : Rel C γ Θ σ H) (e : γ.sl[j]? = some .jk ∨ γ.sl[j]? = none) (na : noAl j γ.tm = true) (hs : σ = σ'.set j none) : Rel C γ Θ σ' H := by
  obtain ⟨sl, tm, n⟩ := γ
  dsimp only at e na
  rcases e with e | e
  · have R2 := R.jk (i := j) na ((σ'[j]?).getD none)
    have e1 : sl.set j .jk = sl := by
      refine List.ext_getElem? fun i => ?_
      by_cases hi : j = i
      · subst hi
        rw [List.getElem?_set_self (List.getElem?_eq_some_iff.mp e).1, e]
      · rw [List.getElem?_set_ne hi]
    have e2 : σ.set j ((σ'[j]?).getD none) = σ' := by
      subst hs
      rw [List.set_set]
      refine List.ext_getElem? fun i => ?_
      by_cases hi : j = i
      · subst hi
        rcases Nat.lt_or_ge j σ'.length with z | z
        · rw [List.getElem?_set_self z, List.getElem?_eq_getElem z]
          rfl
        · rw [List.getElem?_eq_none (by rw [List.length_set]; exact z), List.getElem?_eq_none z]
      · rw [List.getElem?_set_ne hi]
    rw [e1, e2] at R2
    exact R2
  · have e2 : σ = σ' := by
      rw [hs]
      refine List.set_eq_of_length_le ?_
      have l1 : sl.length ≤ j := List.getElem?_eq_none_iff.mp e
      obtain ⟨Z, S1, S2, X⟩ := R
      have l2 := X.es.length
      change σ.length = sl.length at l2
      rw [hs, List.length_set] at l2
      omega
    rw [← e2]
    exact R
theorem set_jk (sl : List Sl) (j : Nat) : (sl.set j .jk)[j]? = some .jk ∨ (sl.set j .jk)[j]? = none := by
  rcases Nat.lt_or_ge j sl.length with z | z
  · exact .inl (List.getElem?_set_self z)
  · exact .inr (List.getElem?_eq_none (by rw [List.length_set]; exact z))
theorem noAl_cons {j : Nat} {s : Sl} {tm : List Sl} (h : noAl j tm = true) (hs : okS s = true) : noAl j (s :: tm) = true := by
  unfold noAl at h ⊢
  rw [List.all_cons, h, Bool.and_true]
  cases s <;> first | rfl | cases hs
theorem so_lc {wi : TI} {ki : KI} {j : Nat} {tt : TT} {kt : KT} {te : TE} {ke : KE} (hi : SoI xc wi ki) (ht : SoT xc tt kt) (he : SoE xc te ke) : SoE xc (tLc wi (gName j) tt te [j]) (kLc ki j kt ke) := fun γ Θ σ H Q q R hk w => hi γ Θ σ H _ _ R hk fun J ds γ1 Ψ H1 hq hp hJ R1 => by
  obtain ⟨na, hq⟩ := hq
  obtain ⟨sl1, tm1, n1⟩ := γ1
  dsimp only at hq na hJ
  intro D hD
  have R2 := (R1.jk (i := j) na none).ints hD []
  refine ⟨fun i m H' => m = ds.length - i ∧ i ≤ ds.length ∧ ∃ sl b es n, lcL j kt ke (ds.drop i) ⟨sl, .ow b (.list es) :: tm1, n⟩ (fun γ2 => match γ2.tm with | s :: tm => (okS s = true ∧ tm = tm1) ∧ q ⟨γ2.sl, s :: γ.tm, γ2.n⟩ | _ => False) ∧ (sl[j]? = some .jk ∨ sl[j]? = none) ∧ Rel C ⟨sl, .ow b (.list es) :: tm1, n⟩ (.ref D :: Ψ) (σ.set j none) H', ⟨ds.length, rfl, Nat.zero_le _, _, true, [], n1, by simpa using hq, set_jk _ _, R2⟩, ?_⟩
  rintro i m H' ⟨rfl, hi, sl, b, es, n, hf, hjk, R'⟩
  obtain ⟨j1, j2⟩ := hJ [.ow b (.list es)] [.ref D] i sl n _ H' rfl R'
  by_cases hlt : i < ds.length
  · right
    have e2 : ds.drop i = ds[i] :: ds.drop (i + 1) := List.drop_eq_getElem_cons hlt
    rw [e2] at hf
    obtain ⟨na1, hf⟩ := hf
    obtain ⟨g, y⟩ := j1 ds[i] (List.getElem?_eq_getElem hlt)
    have na2 : noAl j (.ow b (.list es) :: tm1) = true := na1
    refine ⟨g, fun H2 => ∃ sl b es n, lcL j kt ke (ds.drop (i + 1)) ⟨sl, .ow b (.list es) :: tm1, n⟩ (fun γ2 => match γ2.tm with | s :: tm => (okS s = true ∧ tm = tm1) ∧ q ⟨γ2.sl, s :: γ.tm, γ2.n⟩ | _ => False) ∧ (sl[j]? = some .jk ∨ sl[j]? = none) ∧ Rel C ⟨sl, .ow b (.list es) :: tm1, n⟩ (.ref D :: Ψ) (σ.set j none) H2, fun H2 h2 => ⟨ds.length - (i + 1), by omega, rfl, hlt, h2⟩, fun x H3 hy => ?_⟩
    refine ⟨by show ((σ.set j none).set j _).set j none = σ.set j none; rw [List.set_set, List.set_set], ?_⟩
    have R3 : Rel C ⟨sl.set j (.fz ds[i]), .ow b (.list es) :: tm1, n⟩ (.ref D :: Ψ) ((σ.set j none).set j (some x)) H3 := (y x H3 hy).set (fun i π z => nomatch z) na2
    refine ht _ _ _ H3 _ _ R3 hf fun c γ2 H4 hk4 R4 => ?_
    obtain ⟨et, hk4⟩ := hk4
    obtain ⟨sl2, tm2, n2⟩ := γ2
    dsimp only at et
    subst et
    have back : ∀ {sl : List Sl} {tm : List Sl} {n : Int} {Θ : List V} {H : Hp}, noAl j tm = true → Rel C ⟨sl, tm, n⟩ Θ ((σ.set j none).set j (some x)) H → Rel C ⟨sl.set j .jk, tm, n⟩ Θ (σ.set j none) H := fun hna R => by
      have := R.jk (i := j) hna none
      rw [List.set_set, List.set_set] at this
      exact this
    cases c with
    | false =>
      rw [if_neg (by simp)] at hk4 ⊢
      exact ⟨_, _, _, _, hk4, set_jk _ _, back na2 R4⟩
    | true =>
      rw [if_pos rfl] at hk4 ⊢
      refine he _ _ _ H4 _ _ R4 hk4 fun γ5 y5 H5 hk5 R5 => ?_
      obtain ⟨sl5, tm5, n5⟩ := γ5
      dsimp only at hk5
      split at hk5
      · rename_i s b0 es0 tm
        obtain ⟨⟨cb, cd⟩, ec, ⟨na5, et5, hl⟩, hk6⟩ := elimF hk5
        simp only [List.tail_cons] at et5
        subst et5
        obtain ⟨a, vs, ea, ha, el, R6⟩ := R5.grow ec
        cases ea
        exact ⟨vs, ha, szlt (by omega), _, _, _, _, hk6, set_jk _ _, back (noAl_cons na5 rfl) R6⟩
      · exact hk5.elim
  · left
    have e0 : i = ds.length := by omega
    refine ⟨j2 (by omega), ?_⟩
    rw [e0, List.drop_length] at hf
    obtain ⟨⟨h1, _⟩, hq⟩ := hf
    have R3 := R'.jkσ hjk (noAl_cons na rfl) rfl
    have R4 := hp [.ow b (.list es)] [.ref D] _ _ _ _ rfl (fun s m i π => by
      simp only [List.mem_singleton] at m
      subst m
      exact fun z => nomatch z) R3
    exact w _ _ _ hq R4
def enumD : Nat → List D → List D
  | _, [] => []
  | k, d :: ds => .tuple [.int k, d] :: enumD (k + 1) ds
def kEnum (ke : KE) : KI := fun γ q => ke γ fun γ1 => match γ1.tm with
  | s :: tm => (frzSeq true s).elim False fun ds => q (enumD 0 ds) ⟨γ1.sl, .fz (.list ds) :: tm, γ1.n⟩ ∧ tm = γ.tm
  | _ => False
def zipD : List D → List D → List D
  | d :: ds, e :: es => .tuple [d, e] :: zipD ds es
  | _, _ => []
def kZip (ka kb : KE) : KI := fun γ q => ka γ fun γ1 => kb γ1 fun γ2 => match γ2.tm with
  | s2 :: .fz (.list ds) :: tm => (frzSeq true s2).elim False fun es => q (zipD ds es) ⟨γ2.sl, .fz (.list es) :: .fz (.list ds) :: tm, γ2.n⟩ ∧ tm = γ.tm
  | _ => False
/-- what is returned: new -/
def rtN (G : D → Prop) : Sl → Prop
  | .fz d => nolist d = true ∧ G d
  | .ow true d => G d
  | _ => False
def edT (G : D → Prop) : KEd := ⟨fun _ => G .none, fun s _ => rtN G s, fun _ => False, fun _ => False⟩
def edP (G : D → Prop) : KEd := ⟨fun γ => 0 ≤ γ.n ∧ G .none, fun s γ => 0 ≤ γ.n ∧ rtN G s, fun _ => False, fun _ => False⟩
theorem Rel.start {H : Hp} {S : List Addr} {vs : List V} {ds : List D} {N : List Str} (r : Reps H S vs ds) (pu : Option (Addr × Int)) (ok : ∀ p b, pu = some (p, b) → b ≤ 2 ^ 100) (n : Int) (hpu : ∀ p b, pu = some (p, b) → PuAt H p (b - n) ∧ p ∉ S) (us : List V) (ss : List Sl)
    (hu : (us = [] ∧ ss = []) ∨ ∃ p b, pu = some (p, b) ∧ us = [.ref p] ∧ ss = [.pu]) (hN : (us ++ vs).length ≤ N.length) :
    Rel ⟨H, fun a => ∃ b, pu = some (a, b), pu, ok, none, noReg⟩ ⟨ss ++ ds.map Sl.fz ++ List.replicate (N.length - (us ++ vs).length) .jk, [], n⟩ [] (L2.start N (us ++ vs)) H := by
  have jks : ∀ (k : Nat) {C : Cn} {Z : Reg}, Ents C Z H [] (List.replicate k none) (List.replicate k .jk) := fun k => by
    induction k with
    | zero => exact .nil
    | succ k ih => exact .cons (S := []) (.jk _) ih
  refine ⟨fun a => (∃ o, H a = some o) ∧ ∀ p b, pu = some (p, b) → a ≠ p, [], [], ⟨fun a o e m => ⟨.inl ⟨⟨o, e⟩, fun p b q z => m ⟨b, z ▸ q⟩⟩, e⟩, ?_, .nil, List.nodup_nil, fun a m => (nomatch m), fun p b q => ⟨(hpu p b q).1, fun z => z.elim (fun z => z.2 p b q rfl) id, fun m => (nomatch m)⟩, fun a z => z.elim (fun z => z.1) False.elim, fun _ _ z => z, fun k i π v e => by simp at e⟩⟩
  have tr := Reps.tr (Z := noReg) _ _ _ r
  have fz := Trs.fzs (C := ⟨H, fun a => ∃ b, pu = some (a, b), pu, ok, none, noReg⟩) (Z := fun a => (∃ o, H a = some o) ∧ ∀ p b, pu = some (p, b) → a ≠ p) (Trs.freeze (Z' := fun a => (∃ o, H a = some o) ∧ ∀ p b, pu = some (p, b) → a ≠ p) (fun _ z => z.elim) _ _ _ tr fun a m => ⟨by
    obtain ⟨xs, e⟩ := Reps.dom _ _ _ r a m
    exact ⟨_, e⟩, fun p b q z => (hpu p b q).2 (z ▸ m)⟩) rfl
  show Ents _ _ H [] (L2.start N (us ++ vs)) (ss ++ ds.map Sl.fz ++ List.replicate (N.length - (us ++ vs).length) .jk)
  unfold L2.start
  rw [List.map_append]
  have mid := Ents.append fz (jks (N.length - (us ++ vs).length))
  rcases hu with ⟨rfl, rfl⟩ | ⟨p, b, q, rfl, rfl⟩
  · simpa using mid
  · exact .cons (S := []) (.pu q) mid
theorem Rel.outN {C : Cn} {sl tm : List Sl} {s : Sl} {n : Int} {v : V} {Θ : List V} {σ : L2.St} {H : Hp} {G : D → Prop} (R : Rel C ⟨sl, s :: tm, n⟩ (v :: Θ) σ H) (h : rtN G s) (hM : ∀ a, C.M a → ∃ b, C.pu = some (a, b)) : ∃ d, G d ∧ New C.H0 H v d := by
  obtain ⟨Z, S1, S2, X⟩ := R
  obtain ⟨A, B, en, X1, f⟩ := RelX.popF (ss := [s]) (us := [v]) X rfl
  obtain ⟨A', e1, rfl⟩ : ∃ A', Ent C Z H A' (some v) s ∧ A = A' := by
    cases en with
    | cons e1 e2 =>
      cases e2
      exact ⟨_, e1, by simp⟩
  have new : ∀ a ∈ A, C.H0 a = none := fun a m => by
    cases q : C.H0 a with
    | none => rfl
    | some o =>
      exfalso
      by_cases hm : C.M a
      · obtain ⟨b, eb⟩ := hM a hm
        exact (f.ok a m).2.1 a b eb rfl
      · exact (f.ok a m).1 (X1.fr a o q hm).1
  cases e1 with
  | jk v => cases h
  | al v i π => cases h
  | pu q => cases h
  | io t q => cases h
  | dc _ _ => cases h
  | dt _ _ => cases h
  | sh _ _ => cases h
  | xv _ _ => cases h
  | ho _ _ _ => cases h
  | xw _ => cases h
  | ob _ _ _ => cases h
  | sp q t => cases h
  | fz t =>
    obtain ⟨hn, hG⟩ := h
    exact ⟨_, hG, [], Tr.repO _ _ _ (Tr.nolist (Z' := noReg) _ _ _ t hn).2, List.nodup_nil, fun a m => nomatch m⟩
  | ow t => exact ⟨_, h, A, Tr.repO _ _ _ t, (List.nodup_append.mp f.nd).1, new⟩
section
variable {P : Program} {w : World} {mg : Str → Option Value} {base : Heap} {kl : Nat} {f : Addr} {fd : FuncData} {ps : List Str}
/-- a def that changes nothing, by the values of its body -/
theorem okT {x qual : Str} {st : Stmt} {N : List Str} {W : Tw} {kb : KS} (F : Fun K x qual st f fd) (S : FnScope N ps (defScope st)) (hN : ps.length ≤ N.length) (har : ∀ ds G, W ds G → ds.length = ps.length)
    (hb : ∀ (cdv : Value) (A : Around) (outer : List Env) (s : Shared) (H : Hp) (E : XK), Bare (A.deeper (envOfC qual (defScope st) s.heap.objs.size f cdv)) → Room kl (A.deeper (envOfC qual (defScope st) s.heap.objs.size f cdv)) → ∃ t, PSs (cxOf CX0 P w K mg base N qual (defScope st) f cdv A outer s H E).nox (defBody st) t ∧ ∀ (C : Cn) (xc : XC C), SoS xc t kb)
    (val : ∀ ds G, W ds G → kb ⟨ds.map Sl.fz ++ List.replicate (N.length - ps.length) .jk, [], 0⟩ (edT G)) : FnG P w K mg base CX0 (kl + 1) f fd ps (spT W) := by
  refine okG F S (fun vs H Q E h => ?_) (fun cdv A outer s H vs Q E hg hr h => ?_)
  · obtain ⟨S, ds, Gq, r, hw, _⟩ := h
    rw [r.length]
    exact har _ _ hw
  · obtain ⟨t, hp, so⟩ := hb cdv A outer s H E hg hr
    obtain ⟨S, ds, Gq, r, hw, hk⟩ := h
    have el := r.length
    have ea := har _ _ hw
    refine ⟨t, hp, so ⟨H, fun a => ∃ b, (none : Option (Addr × Int)) = some (a, b), none, fun _ _ z => (nomatch z), none, noReg⟩ (noXC _) _ [] _ H _ (edT Gq) (by simpa using Rel.start (N := N) r none (fun _ _ z => nomatch z) 0 (fun _ _ z => nomatch z) [] [] (.inl ⟨rfl, rfl⟩) (by simp; omega)) (by rw [el, ea]; exact val ds Gq hw) ⟨fun γ' σ' H' hn R => ?_, fun s γ' v Θ' σ' H' hr R => ?_, fun _ _ _ z _ => z.elim, fun _ _ _ z _ => z.elim⟩⟩
    · obtain ⟨Z, S1, S2, X⟩ := R
      exact hk _ _ _ hn (fun a o e => (X.fr a o e (fun ⟨b, z⟩ => nomatch z)).2) ⟨[], .non, List.nodup_nil, fun a m => nomatch m⟩
    · obtain ⟨d, hG, nw⟩ := R.outN hr (fun a m => m)
      obtain ⟨Z, S1, S2, X⟩ := R
      exact hk _ _ _ hG (fun a o e => (X.fr a o e (fun ⟨b, z⟩ => nomatch z)).2) nw
/-- a def that draws from the purse, its first argument -/
theorem okP {x qual : Str} {st : Stmt} {N : List Str} {W : Tw} {kb : KS} {c : Int} (F : Fun K x qual st f fd) (S : FnScope N ps (defScope st)) (hN : ps.length ≤ N.length) (har : ∀ ds G, W ds G → ds.length + 1 = ps.length) (hc : 0 ≤ c)
    (hb : ∀ (cdv : Value) (A : Around) (outer : List Env) (s : Shared) (H : Hp) (E : XK), Bare (A.deeper (envOfC qual (defScope st) s.heap.objs.size f cdv)) → Room kl (A.deeper (envOfC qual (defScope st) s.heap.objs.size f cdv)) → ∃ t, PSs (cxOf CX0 P w K mg base N qual (defScope st) f cdv A outer s H E).nox (defBody st) t ∧ ∀ (C : Cn) (xc : XC C), SoS xc t kb)
    (val : ∀ ds G, W ds G → kb ⟨.pu :: (ds.map Sl.fz ++ List.replicate (N.length - ps.length) .jk), [], c⟩ (edP G)) : FnG P w K mg base CX0 (kl + 1) f fd ps (spP c W) := by
  refine okG F S (fun vs H Q E h => ?_) (fun cdv A outer s H vs Q E hg hr h => ?_)
  · obtain ⟨p, b, vs', S, ds, Gq, rfl, _, _, r, _, hw, _⟩ := h
    rw [List.length_cons, r.length]
    exact har _ _ hw
  · obtain ⟨t, hp, so⟩ := hb cdv A outer s H E hg hr
    obtain ⟨p, b, vs', S, ds, Gq, rfl, hpu, hb, r, np, hw, hk⟩ := h
    have el := r.length
    have ea := har _ _ hw
    have ok : ∀ q b', (some (p, b + c) : Option (Addr × Int)) = some (q, b') → b' ≤ 2 ^ 100 := fun q b' z => by cases z; omega
    have e0 : b + c - c = b := by omega
    refine ⟨t, hp, so ⟨H, fun a => ∃ b', (some (p, b + c) : Option (Addr × Int)) = some (a, b'), some (p, b + c), ok, none, noReg⟩ (noXC _) _ [] _ H _ (edP Gq) (Rel.start (N := N) r (some (p, b + c)) ok c (fun q b' z => by cases z; exact ⟨e0.symm ▸ hpu, np⟩) [.ref p] [.pu] (.inr ⟨p, b + c, rfl, rfl, rfl⟩) (by simp; omega)) ?_ ⟨fun γ' σ' H' hn R => ?_, fun s γ' v Θ' σ' H' hr R => ?_, fun _ _ _ z _ => z.elim, fun _ _ _ z _ => z.elim⟩⟩
    · have e1 : ([V.ref p] ++ vs').length = ps.length := by simp; omega
      rw [e1]
      exact val ds Gq hw
    · obtain ⟨Z, S1, S2, X⟩ := R
      exact hk _ _ _ hn.2 (fun a o e ne => (X.fr a o e (fun ⟨b, z⟩ => by cases z; exact ne rfl)).2) ((X.pu p _ rfl).1.le (by have := hn.1; omega)) ⟨[], .non, List.nodup_nil, fun a m => nomatch m⟩
    · obtain ⟨d, hG, nw⟩ := R.outN hr.2 (fun a m => m)
      obtain ⟨Z, S1, S2, X⟩ := R
      exact hk _ _ _ hG (fun a o e ne => (X.fr a o e (fun ⟨b, z⟩ => by cases z; exact ne rfl)).2) ((X.pu p _ rfl).1.le (by have := hr.1; dsimp only; omega)) nw
end
abbrev TwI := List D → (D → D → Prop) → Prop
def ownF (s : Option Sl) : Option (Sl × D) := match s with
  | some (.ow true d) => some (.ow true d, d)
  | some (.io d) => some (.io d, d)
  | _ => none
def kCallI (W : TwI) (n : Nat) (ka : KE) : KE := fun γ q => ka γ fun γ1 => (datN γ1.sl n γ1.tm).elim False fun x => match x.2 with
  | .al i [] :: r => (nolists x.1 = true ∧ noAl i r = true) ∧ (ownF (γ1.sl[i]?)).elim False fun s => W (s.2 :: x.1) fun d e => q ⟨γ1.sl.set i (reS s.1 true e), own d :: r, γ1.n⟩
  | _ => False
def ioD (γ : VSt) (f : D → Prop) : Prop := match γ.sl[0]? with
  | some (Sl.io e) => f e
  | _ => False
def edI (G : D → D → Prop) : KEd := ⟨fun γ => ioD γ fun e => G .none e, fun s γ => ioD γ fun e => rtN (fun d => G d e) s, fun _ => False, fun _ => False⟩
end
end G
namespace G
open PySem PySem.Spec PyProof.Rows L2
variable {C : Cn} {xc : XC C}
section
variable {t t1 t2 ta tb tc : TE} {k k1 k2 ka kb kc ko : KE} {n m : Nat} {c1 c2 : TT} {h1 h2 : KT} {K : PySem.W.Frag}
theorem sr_neD : SoR (rNeD K) (vEqD true) := fun H v1 v2 T1 T2 d1 d2 Q q r1 r2 hf w =>
  ⟨d1, d2, Rep.dp K _ _ _ r1 (nd_shaped hf.1), Rep.dp K _ _ _ r2 (nd_shaped hf.2.1), hf.1, hf.2.1, w _ _ (sca_bl _) (by simpa using hf.2.2)⟩
theorem cutD_to (ds : List D) (k : Nat) : cutD ds none (some (k : Int)) = ds.take k := by
  unfold cutD
  rw [HT.sIx_none, HT.sIx_nat]
  simp
theorem cutD_from (ds : List D) (k : Nat) : cutD ds (some (k : Int)) none = ds.drop k := by
  unfold cutD
  rw [HT.sIx_none, HT.sIx_nat]
  by_cases h : k ≤ ds.length
  · rw [Nat.min_eq_left h]
    exact List.take_of_length_le (by rw [List.length_drop]; omega)
  · rw [Nat.min_eq_right (by omega), List.drop_of_length_le (Nat.le_refl _), List.drop_of_length_le (by omega)]
    simp
theorem cutD_mid (ds : List D) (a b : Nat) : cutD ds (some (a : Int)) (some (b : Int)) = (ds.drop a).take (b - a) := by
  unfold cutD
  rw [HT.sIx_nat, HT.sIx_nat]
  by_cases h : a ≤ ds.length
  · rw [Nat.min_eq_left h]
    by_cases h2 : b ≤ ds.length
    · rw [Nat.min_eq_left h2]
    · rw [Nat.min_eq_right (by omega), List.take_of_length_le (by rw [List.length_drop]; omega), List.take_of_length_le (by rw [List.length_drop]; omega)]
  · rw [Nat.min_eq_right (show ds.length ≤ a by omega), List.drop_of_length_le (Nat.le_refl _), List.drop_of_length_le (show ds.length ≤ a by omega)]
    simp
/-- a loop by an invariant on what is done; N: whatever is wanted behind a turn -/
theorem forL_inv {g : KG} {kb : KS} {tm : List Sl} {e : KEd} {β : Type} (l : List β) (f : β → D) (P : List β → VSt → Prop)
    (step : ∀ pre x post γ (N : VSt → Prop), l = pre ++ x :: post → γ.tm = tm → P pre γ → (∀ γ2, γ2.tm = tm → P (pre ++ [x]) γ2 → N γ2) → g ⟨γ.sl, .fz (f x) :: γ.tm, γ.n⟩ fun γ1 => kb γ1 ⟨fun γ2 => γ2.tm = tm ∧ N γ2, e.rt, fun γ2 => γ2.tm = tm ∧ e.nx γ2, fun γ2 => γ2.tm = tm ∧ N γ2⟩)
    (fin : ∀ γ, γ.tm = tm → P l γ → e.nx γ) : ∀ γ, γ.tm = tm → P [] γ → forL g kb tm (l.map f) γ e := by
  have main : ∀ (post pre : List β) (γ : VSt), l = pre ++ post → γ.tm = tm → P pre γ → forL g kb tm (post.map f) γ e := by
    intro post
    induction post with
    | nil =>
      intro pre γ hl ht hp
      rw [List.append_nil] at hl
      subst hl
      exact fin γ ht hp
    | cons x post ih =>
      intro pre γ hl ht hp
      exact step pre x post γ (fun γ2 => forL g kb tm (post.map f) γ2 e) hl ht hp fun γ2 h2 h3 => ih (pre ++ [x]) γ2 (by rw [hl]; simp) h2 h3
  exact fun γ ht h => main l [] γ rfl ht h
theorem forL_ints {g : KG} {kb : KS} {tm : List Sl} {e : KEd} (l : List Int) (P : List Int → VSt → Prop)
    (step : ∀ pre x post γ (N : VSt → Prop), l = pre ++ x :: post → γ.tm = tm → P pre γ → (∀ γ2, γ2.tm = tm → P (pre ++ [x]) γ2 → N γ2) → g ⟨γ.sl, .fz (.int x) :: γ.tm, γ.n⟩ fun γ1 => kb γ1 ⟨fun γ2 => γ2.tm = tm ∧ N γ2, e.rt, fun γ2 => γ2.tm = tm ∧ e.nx γ2, fun γ2 => γ2.tm = tm ∧ N γ2⟩)
    (fin : ∀ γ, γ.tm = tm → P l γ → e.nx γ) (γ : VSt) (ht : γ.tm = tm) (h : P [] γ) : forL g kb tm (l.map PyData.int) γ e := forL_inv l PyData.int P step fin γ ht h
/-- a comprehension by an invariant: what is done, what is made, how many draws are left -/
theorem lc_inv {j : Nat} {kt : KT} {ke : KE} {β : Type} {q : VSt → Prop} {sl T : List Sl} (b : Bool) (l : List β) (f : β → D) (P : List β → List D → Int → Prop) (hj : (sl.set j .jk) = sl) (na : noAl j T = true)
    (len : ∀ pre acc n, P pre acc n → acc.length < 10000000)
    (step : ∀ pre x post acc n (Y X : VSt → Prop), l = pre ++ x :: post → P pre acc n → (∀ s c cd n', con s = some (c, cd) → (b && c) = b → P (pre ++ [x]) (acc ++ [cd]) n' → Y ⟨sl.set j (.fz (f x)), s :: .ow b (.list acc) :: T, n'⟩) → (∀ n', P (pre ++ [x]) acc n' → X ⟨sl.set j (.fz (f x)), .ow b (.list acc) :: T, n'⟩) →
      kt ⟨sl.set j (.fz (f x)), .ow b (.list acc) :: T, n⟩ fun c γ1 => γ1.tm = .ow b (.list acc) :: T ∧ if c = true then ke γ1 Y else X γ1)
    (fin : ∀ acc n, P l acc n → q ⟨sl, .ow b (.list acc) :: T, n⟩) : ∀ acc n, P [] acc n → lcL j kt ke (l.map f) ⟨sl, .ow b (.list acc) :: T, n⟩ q := by
  have main : ∀ (post pre : List β) (acc : List D) (n : Int), l = pre ++ post → P pre acc n → lcL j kt ke (post.map f) ⟨sl, .ow b (.list acc) :: T, n⟩ q := by
    intro post
    induction post with
    | nil =>
      intro pre acc n hl hp
      rw [List.append_nil] at hl
      subst hl
      exact fin acc n hp
    | cons x post ih =>
      intro pre acc n hl hp
      have hjj : (sl.set j (.fz (f x))).set j .jk = sl := by rw [List.set_set]; exact hj
      refine ⟨noAl_cons na rfl, step pre x post acc n _ _ hl hp (fun s c cd n' hc hb hP => ?_) (fun n' hP => ?_)⟩
      · show (con s).elim False _
        rw [hc]
        refine ⟨⟨na, rfl, len _ _ _ hp⟩, ?_⟩
        dsimp only
        rw [hjj, hb]
        exact ih (pre ++ [x]) _ n' (by rw [hl]; simp) hP
      · dsimp only
        rw [hjj]
        exact ih (pre ++ [x]) _ n' (by rw [hl]; simp) hP
  exact fun acc n h => main l [] acc n rfl h
/-- a comprehension over ints that gives ints -/
theorem lc_ints' {j : Nat} {ke : KE} {q : VSt → Prop} {sl T : List Sl} {n : Int} (l : List Int) (h : Int → Int) (hj : (sl.set j .jk) = sl) (na : noAl j T = true) (len : l.length < 10000000)
    (step : ∀ x ∈ l, ∀ acc (Y : VSt → Prop), Y ⟨sl.set j (.fz (.int x)), .fz (.int (h x)) :: .ow true (.list acc) :: T, n⟩ → ke ⟨sl.set j (.fz (.int x)), .ow true (.list acc) :: T, n⟩ Y)
    (fin : q ⟨sl, .ow true (dI (l.map h)) :: T, n⟩) : lcL j kYes ke (l.map PyData.int) ⟨sl, .ow true (.list []) :: T, n⟩ q := by
  refine lc_inv (j := j) true l PyData.int (fun pre acc n' => acc = (pre.map h).map PyData.int ∧ n' = n ∧ ∃ post, l = pre ++ post) hj na (fun pre acc n' hp => ?_) (fun pre x post acc n' Y X hl hp hY hX => ?_) (fun acc n' hp => ?_) [] n ⟨rfl, rfl, l, rfl⟩
  · obtain ⟨rfl, _, post, rfl⟩ := hp
    rw [List.length_map, List.length_map]
    rw [List.length_append] at len
    omega
  · obtain ⟨rfl, rfl, _⟩ := hp
    refine ⟨rfl, ?_⟩
    rw [if_pos rfl]
    refine step x (by rw [hl]; simp) _ _ (hY _ true (.int (h x)) n' rfl rfl ⟨by simp, rfl, post, by rw [hl]; simp⟩)
  · obtain ⟨rfl, rfl, _⟩ := hp
    exact fin
theorem edT_rt {G : D → Prop} {s : Sl} {γ : VSt} : (edT G).rt s γ = rtN G s := rfl
theorem edP_rt {G : D → Prop} {s : Sl} {γ : VSt} : (edP G).rt s γ = (0 ≤ γ.n ∧ rtN G s) := rfl
theorem edT_nx {G : D → Prop} {γ : VSt} : (edT G).nx γ = G .none := rfl
theorem edP_nx {G : D → Prop} {γ : VSt} : (edP G).nx γ = (0 ≤ γ.n ∧ G .none) := rfl
theorem rtN_fz {G : D → Prop} {d : D} : rtN G (.fz d) = (nolist d = true ∧ G d) := rfl
theorem rtN_ow {G : D → Prop} {d : D} : rtN G (.ow true d) = G d := rfl
theorem rtN_own {G : D → Prop} {d : D} : rtN G (own d) = G d := by
  unfold own
  cases h : nolist d with
  | true => rw [if_pos rfl, rtN_fz, h]; simp
  | false => rw [if_neg (by simp), rtN_ow]
theorem own_int {i : Int} : own (.int i) = .fz (.int i) := rfl
theorem own_bool {b : Bool} : own (.bool b) = .fz (.bool b) := rfl
theorem own_str {x : Str} : own (.str x) = .fz (.str x) := rfl
theorem own_none : own .none = .fz .none := rfl
theorem own_list {ds : List D} : own (.list ds) = .ow true (.list ds) := rfl
theorem own_tup {ds : List D} : own (.tuple ds) = if nolists ds = true then .fz (.tuple ds) else .ow true (.tuple ds) := rfl
theorem mkS_lt {ds : List D} : mkS true true ds = .ow true (.list ds) := rfl
theorem mkS_lf {ds : List D} : mkS true false ds = .ow false (.list ds) := rfl
theorem mkS_tt {ds : List D} : mkS false true ds = own (.tuple ds) := rfl
theorem mkS_tf {ds : List D} : mkS false false ds = .fz (.tuple ds) := rfl
theorem con_own {d : D} : con (own d) = some (true, d) := by
  unfold own
  cases h : nolist d with
  | true => rw [if_pos rfl]; show some (nolist d, d) = _; rw [h]
  | false => rw [if_neg (by simp)]; rfl
theorem okS_own {d : D} : okS (own d) = true := by
  unfold own
  split <;> rfl
theorem look_own {sl : List Sl} {d : D} : look sl (own d) = some d := by
  unfold own
  split <;> rfl
theorem okS_fz {d : D} : okS (.fz d) = true := rfl
theorem okS_ow {b : Bool} {d : D} : okS (.ow b d) = true := rfl
theorem okS_pu : okS .pu = true := rfl
theorem okS_al {i : Nat} {π : List Nat} : okS (.al i π) = false := rfl
theorem noAl_nil {i : Nat} : noAl i [] = true := rfl
theorem noAl_fz {i : Nat} {d : D} {tm : List Sl} : noAl i (.fz d :: tm) = noAl i tm := by simp [noAl]
theorem noAl_ow {i : Nat} {b : Bool} {d : D} {tm : List Sl} : noAl i (.ow b d :: tm) = noAl i tm := by simp [noAl]
theorem noAl_pu {i : Nat} {tm : List Sl} : noAl i (.pu :: tm) = noAl i tm := by simp [noAl]
theorem noAl_al {i j : Nat} {π : List Nat} {tm : List Sl} : noAl i (.al j π :: tm) = ((j != i) && noAl i tm) := by simp [noAl]
theorem noAl_own {i : Nat} {d : D} {tm : List Sl} : noAl i (own d :: tm) = noAl i tm := by
  unfold own
  split <;> simp [noAl]
theorem con_fz {d : D} : con (.fz d) = some (nolist d, d) := rfl
theorem con_ow {b : Bool} {d : D} : con (.ow b d) = some (b, d) := rfl
theorem look_fz {sl : List Sl} {d : D} : look sl (.fz d) = some d := rfl
theorem look_ow {sl : List Sl} {b : Bool} {d : D} : look sl (.ow b d) = some d := rfl
theorem look_al {sl : List Sl} {i : Nat} {π : List Nat} : look sl (.al i π) = (sl[i]?).bind fun s => (datS s).bind fun d => atP d π := rfl
theorem datS_fz {d : D} : datS (.fz d) = some d := rfl
theorem datS_ow {b : Bool} {d : D} : datS (.ow b d) = some d := rfl
theorem datS_own {d : D} : datS (own d) = some d := by
  unfold own
  split <;> rfl
theorem subS_fz {d e : D} {k : Nat} : subS (.fz e) k d = .fz d := rfl
theorem subS_ow {d e : D} {k : Nat} : subS (.ow true e) k d = own d := rfl
theorem subS_of {d e : D} {k : Nat} : subS (.ow false e) k d = .fz d := rfl
theorem subS_al {d : D} {i k : Nat} {π : List Nat} : subS (.al i π) k d = if nolist d = true then .fz d else .al i (π ++ [k]) := rfl
theorem ixD_0 {d : D} {ds : List D} {f : Nat → D → Prop} : ixD (d :: ds) 0 f = f 0 d := by
  unfold ixD ixN
  simp
theorem ixD_1 {d e : D} {ds : List D} {f : Nat → D → Prop} : ixD (d :: e :: ds) 1 f = f 1 e := by
  unfold ixD ixN
  simp
  rw [if_pos (by omega)]
  exact Iff.rfl
theorem ixD_2 {d e g : D} {ds : List D} {f : Nat → D → Prop} : ixD (d :: e :: g :: ds) 2 f = f 2 g := by
  unfold ixD ixN
  simp
  rw [if_pos (by omega)]
  exact Iff.rfl
theorem ixD_any {ds : List D} {i : Int} {f : Nat → D → Prop} (h0 : 0 ≤ i) (h1 : i < ds.length) (h : ∀ x, ds[i.toNat]? = some x → f i.toNat x) : ixD ds i f := by
  unfold ixD
  have e1 : ixN ds.length i = some i.toNat := by
    unfold ixN
    rw [if_pos h0, if_pos h1]
  have e2 : ds[i.toNat]? = some ds[i.toNat] := List.getElem?_eq_getElem (by omega)
  rw [e1]
  show (ds[i.toNat]?).elim False (f i.toNat)
  rw [e2]
  exact h _ e2
theorem look_mkL {sl : List Sl} {b : Bool} {ds : List D} : look sl (mkS true b ds) = some (.list ds) := by
  cases b <;> rfl
theorem okS_mkL {b : Bool} {ds : List D} : okS (mkS true b ds) = true := by
  cases b <;> rfl
end
end G
namespace G
open PySem PySem.Spec PyProof.Rows L2
variable {C : Cn} {xc : XC C}
section
variable {t t1 t2 ta tb tc : TE} {k k1 k2 ka kb kc ko : KE} {n m : Nat} {K : PySem.W.Frag}
/-- the tree that is given -/
def giv : Sl → Option D
  | .ow true d => some d
  | .fz d => if nolist d = true then some d else none
  | _ => none
def kCallV (W : Tw) (n : Nat) (ka : KE) : KE := fun γ q => ka γ fun γ1 => match γ1.tm with
  | s :: tm => (giv s).elim False fun d0 => (datN γ1.sl n tm).elim False fun x => W (x.1 ++ [d0]) fun d => q ⟨γ1.sl, own d :: x.2, γ1.n⟩
  | _ => False
end
end G
namespace G
open PySem PySem.Spec PyProof.Rows L2
variable {C : Cn} {xc : XC C}
section
variable {t t1 t2 ta tb tc : TE} {k k1 k2 ka kb kc ko : KE} {n m : Nat} {K : PySem.W.Frag}
/-- how many bits -/
def vBits : D → (D → Prop) → Prop := fun d q => match d with | .int i => q (.int (Builtin.Int.intBits i : Nat)) | _ => False
theorem so_bits (ha : SoE xc ta ka) : SoE xc (tBits ta) (kUn vBits ka) := so_un (r := fun x H Q => ∃ i, x = .int i ∧ Q (.int (Builtin.Int.intBits i : Nat)) H) (fun H v1 T1 d1 Q q r1 hf w => by
  unfold vBits at hf
  split at hf
  · cases r1
    exact ⟨_, rfl, w _ _ (sca_int _) hf⟩
  · exact hf.elim) ha
/-- range(a, b, -1) -/
def rgD (a b : Int) : List Int := (List.range (a - b).toNat).map fun i => a - (i : Nat)
theorem rgD_len (a b : Int) : (rgD a b).length = (a - b).toNat := by unfold rgD; rw [List.length_map, List.length_range]
def kRngD (ka kb kc : KE) : KI := fun γ q => ka γ fun γ1 => kb γ1 fun γ2 => kc γ2 fun γ3 => popI γ3 fun c γ4 => popI γ4 fun j γ5 => popI γ5 fun i γ6 => (c = -1 ∧ -1000000000000 ≤ i ∧ i ≤ 1000000000000 ∧ -1000000000000 ≤ j ∧ j ≤ 1000000000000) ∧ q ((rgD i j).map PyData.int) γ6 ∧ γ6.tm = γ.tm
theorem itD_rangeD {C : Cn} {tm : List Sl} {Ψ : List V} (a b : Int) : ItD C (Itc a (-1) (a - b).toNat) ((rgD a b).map PyData.int) tm Ψ := fun E Φ i sl n σ H ee R => by
  refine ⟨fun d e => ?_, fun hi => ?_⟩
  · rw [List.getElem?_map] at e
    have hi : i < (a - b).toNat := by
      rcases Nat.lt_or_ge i (a - b).toNat with z | z
      · exact z
      · rw [List.getElem?_eq_none (by rw [rgD_len]; omega)] at e
        cases e
    have er : (rgD a b)[i]? = some (a - i) := by
      unfold rgD
      rw [List.getElem?_map, List.getElem?_range hi]
      rfl
    rw [er] at e
    cases e
    refine ⟨hi, fun x H3 hy => ?_⟩
    obtain ⟨rfl, rfl⟩ := hy
    have : a + (i : Nat) * (-1) = a - i := by omega
    rw [this]
    exact R.push fun Z => .int _
  · rw [List.length_map, rgD_len] at hi
    exact hi
theorem so_rngD (h : SoE xc ta ka) (h' : SoE xc tb kb) (h'' : SoE xc tc kc) : SoI xc (iRng3 (tCons ta (tCons tb (tCons tc tNil)))) (kRngD ka kb kc) := fun γ Θ σ H Rr q R hk w => h γ Θ σ H _ _ R hk fun γ1 v H1 hk1 R1 => h' γ1 _ σ H1 _ _ R1 hk1 fun γ2 u H2 hk2 R2 => h'' γ2 _ σ H2 _ _ R2 hk2 fun γ3 x H3 hk3 R3 => by
  obtain ⟨c, γ4, rfl, hf, R4⟩ := popI_ok R3 hk3
  obtain ⟨j, γ5, rfl, hf2, R5⟩ := popI_ok R4 hf
  obtain ⟨i, γ6, rfl, ⟨⟨rfl, b1, b2, b3, b4⟩, hq, et⟩, R6⟩ := popI_ok R5 hf2
  have e : (2 : Int) ^ 62 = 4611686018427387904 := by decide
  exact ⟨i, j, -1, (i - j).toNat, rfl, RgC.neg (by omega) (by omega) (by omega) (by omega), w _ _ γ6 Θ H3 hq (popD_refl et) (itD_rangeD i j) R6⟩
/-- the last item, all but the last one -/
theorem cutD_last (ds : List D) : cutD ds (some (-1)) none = ds.drop (ds.length - 1) := by
  unfold cutD
  have e1 : HT.sIx ds.length 0 (some (-1)) = ds.length - 1 := by
    show (if (-1 : Int) < 0 then ((-1 : Int) + (ds.length : Int)).toNat else min (-1 : Int).toNat ds.length) = _
    rw [if_pos (by decide)]
    omega
  rw [e1, HT.sIx_none]
  exact List.take_of_length_le (by rw [List.length_drop]; exact Nat.le_refl _)
theorem cutD_init (ds : List D) : cutD ds none (some (-1)) = ds.dropLast := by
  unfold cutD
  have e1 : HT.sIx ds.length ds.length (some (-1)) = ds.length - 1 := by
    show (if (-1 : Int) < 0 then ((-1 : Int) + (ds.length : Int)).toNat else min (-1 : Int).toNat ds.length) = _
    rw [if_pos (by decide)]
    omega
  rw [e1, HT.sIx_none, List.drop_zero, List.dropLast_eq_take]
  congr 1
theorem cutD_lastI (ns : List Int) : cutD (ns.map PyData.int) (some (-1)) none = (ns.drop (ns.length - 1)).map PyData.int := by
  rw [cutD_last, List.length_map, List.map_drop]
theorem cutD_initI (ns : List Int) : cutD (ns.map PyData.int) none (some (-1)) = ns.dropLast.map PyData.int := by
  rw [cutD_init, List.map_dropLast]
theorem cutD_toN {ns : List Int} {j : Nat} : cutD (ns.map PyData.int) none (some (j : Int)) = (ns.take j).map PyData.int := by
  rw [cutD_to, List.map_take]
/-- in a list of ints -/
theorem inV_intsD (t : Int) (ns : List Int) : inV (.int t) ((ns.map PyData.int).map vOf) = decide (t ∈ ns) := by
  have : (ns.map PyData.int).map vOf = ns.map V.int := by
    rw [List.map_map]
    rfl
  rw [this, inV_ints]
theorem allflat_ints (ns : List Int) : (ns.map PyData.int).all flatD = true := by
  rw [List.all_map, List.all_eq_true]
  intro x _
  rfl
theorem eqv_il (xs ys : List Int) : PyData.eqv (.list (xs.map PyData.int)) (.list (ys.map PyData.int)) = decide (xs = ys) := eqv_ints xs ys
theorem eqv_il0 (xs : List Int) : PyData.eqv (.list (xs.map PyData.int)) (.list []) = decide (xs = []) := eqv_ints xs []
theorem reS_io {e d : D} {b : Bool} : reS (.io e) b d = .io d := rfl
theorem reS_ow {e d : D} {c b : Bool} : reS (.ow c e) b d = .ow b d := rfl
theorem putS_set {sl : List Sl} {i : Nat} {b : Bool} {d : D} : putS sl i b d = sl.set i (reS ((sl[i]?).getD .jk) b d) := rfl
theorem datS_io {d : D} : datS (.io d) = some d := rfl
theorem ownF_ow {d : D} : ownF (some (.ow true d)) = some (.ow true d, d) := rfl
theorem ownF_io {d : D} : ownF (some (.io d)) = some (.io d, d) := rfl
theorem edI_rt {G : D → D → Prop} {s : Sl} {γ : VSt} : (edI G).rt s γ = ioD γ fun e => rtN (fun d => G d e) s := rfl
theorem edI_nx {G : D → D → Prop} {γ : VSt} : (edI G).nx γ = ioD γ fun e => G .none e := rfl
theorem ioD_c {e : D} {sl tm : List Sl} {n : Int} {f : D → Prop} : ioD ⟨.io e :: sl, tm, n⟩ f = f e := rfl
theorem giv_ow {d : D} : giv (.ow true d) = some d := rfl
theorem giv_fz {d : D} : giv (.fz d) = if nolist d = true then some d else none := rfl
theorem giv_own {d : D} : giv (own d) = some d := by
  unfold own
  cases h : nolist d with
  | true => rw [if_pos rfl]; show (if nolist d = true then some d else none) = _; rw [h]; rfl
  | false => rw [if_neg (by simp)]; rfl
theorem nolists_app : ∀ (a b : List D), nolists (a ++ b) = (nolists a && nolists b)
  | [], b => by simp [nolists]
  | d :: a, b => by simp [nolists, nolists_app a b, Bool.and_assoc]
def kLit (d : D) : KE := fun γ q => q ⟨γ.sl, own d :: γ.tm, γ.n⟩
def kLits (ds : List D) : KE := fun γ q => q ⟨γ.sl, (ds.map own).reverse ++ γ.tm, γ.n⟩
theorem so_lit_c {v : V} {d : D} (h : Sca v d) (hn : nolist d = true) : SoE xc (tC v) (kLit d) := fun γ Θ σ H Q q R hk w => by
  unfold kLit at hk
  have e : own d = .fz d := if_pos hn
  rw [e] at hk
  exact w _ v H hk (R.push fun Z => h H Z)
theorem so_lits_nil : SoA xc 0 tNil (kLits []) := fun γ Θ σ H Q q R hk w => w γ [] H rfl hk R
theorem so_lits_cons {ts : TA} {d : D} {ds : List D} (h : SoE xc t (kLit d)) (hs : SoA xc n ts (kLits ds)) : SoA xc (n + 1) (tCons t ts) (kLits (d :: ds)) := fun γ Θ σ H Q q R hk w => by
  refine so_cons h hs γ Θ σ H Q q R ?_ w
  show q ⟨γ.sl, (ds.map own).reverse ++ own d :: γ.tm, γ.n⟩
  have e : (((d :: ds).map own).reverse ++ γ.tm : List Sl) = (ds.map own).reverse ++ own d :: γ.tm := by simp
  rw [← e]
  exact hk
theorem popC_own (ds : List D) (tm : List Sl) : popC ds.length ((ds.map own).reverse ++ tm) = some ((true, ds), tm) := by
  have main : ∀ (es : List D), popC es.length ((es.map own) ++ tm) = some ((true, es.reverse), tm) := by
    intro es
    induction es with
    | nil => rfl
    | cons e es ih =>
      show popC (es.length + 1) (own e :: (es.map own ++ tm)) = _
      simp only [popC, con_own, Option.bind_some, ih]
      simp
  have := main ds.reverse
  rw [List.length_reverse, List.map_reverse, List.reverse_reverse] at this
  exact this
theorem so_lit_lst {ts : TA} {ds : List D} (h : SoA xc ds.length ts (kLits ds)) (hn : ds.length ≤ 10000000 := by decide) : SoE xc (tLst ts) (kLit (.list ds)) := fun γ Θ σ H Q q R hk w => by
  refine so_lst h hn γ Θ σ H Q q R ?_ w
  show (popC ds.length ((ds.map own).reverse ++ γ.tm)).elim False _
  rw [popC_own]
  exact hk
theorem so_lit_tup {ts : TA} {ds : List D} (h : SoA xc ds.length ts (kLits ds)) (hn : ds.length ≤ 10000000 := by decide) : SoE xc (tTup ts) (kLit (.tuple ds)) := fun γ Θ σ H Q q R hk w => by
  refine so_tup h hn γ Θ σ H Q q R ?_ w
  show (popC ds.length ((ds.map own).reverse ++ γ.tm)).elim False _
  rw [popC_own]
  exact hk
end
end G
namespace G
open PySem PySem.Spec PyProof.Rows L2
variable {C : Cn} {xc : XC C}
section
variable {κ : Type} [DecidableEq κ]
def valM {α : Type} (m : List (κ × α)) (k : κ) : Option α := (m.find? fun kv => decide (kv.1 = k)).map (·.2)
def putM {α : Type} (m : List (κ × α)) (k : κ) (d : α) : List (κ × α) := if (m.any fun kv => decide (kv.1 = k)) = true then m.map (fun kv => if kv.1 = k then (kv.1, d) else kv) else m ++ [(k, d)]
variable {α : Type} {m : List (κ × α)} {k j : κ} {d : α}
theorem valM_nil : valM ([] : List (κ × α)) k = none := rfl
theorem valM_cons {p : κ × α} : valM (p :: m) k = if p.1 = k then some p.2 else valM m k := by
  unfold valM
  rw [List.find?_cons]
  by_cases h : p.1 = k
  · simp [h]
  · simp [h]
theorem any_valM : (m.any fun kv => decide (kv.1 = k)) = (valM m k).isSome := by
  induction m with
  | nil => rfl
  | cons p m ih =>
    rw [List.any_cons, ih, valM_cons]
    by_cases h : p.1 = k
    · simp [h]
    · simp [h]
theorem putM_new (h : valM m k = none) : putM m k d = m ++ [(k, d)] := by
  unfold putM
  rw [any_valM, h]
  rfl
theorem valM_none_mem : valM m k = none ↔ ∀ p ∈ m, p.1 ≠ k := by
  induction m with
  | nil => simp [valM_nil]
  | cons p m ih =>
    rw [valM_cons]
    by_cases hp : p.1 = k
    · simp [hp]
    · simp [hp, ih]
end
section
variable {κ : Type} [DecidableEq κ] {H : Hp} {Z : Reg} {kvs : List (κ × V)} {m : List (κ × D)} {k : κ} {v : V} {d : D}
theorem DVs.length (h : DVs H Z kvs m) : kvs.length = m.length := by
  induction h with
  | nil => rfl
  | cons _ _ ih => rw [List.length_cons, List.length_cons, ih]
theorem DVs.val (h : DVs H Z kvs m) (k : κ) : (valV kvs k = none ∧ valM m k = none) ∨ ∃ v d, valV kvs k = some v ∧ valM m k = some d ∧ Tr H Z [] v d := by
  induction h with
  | nil => exact .inl ⟨rfl, rfl⟩
  | @cons k' v d kvs m t _ ih =>
    by_cases hk : k' = k
    · exact .inr ⟨v, d, valV_pos hk, by rw [valM_cons, if_pos hk], t⟩
    · rw [valV_neg hk, valM_cons, if_neg hk]
      exact ih
theorem DVs.app (h : DVs H Z kvs m) (t : Tr H Z [] v d) : DVs H Z (kvs ++ [(k, v)]) (m ++ [(k, d)]) := by
  induction h with
  | nil => exact .cons t .nil
  | cons t' _ ih => exact .cons t' ih
theorem DVs.map (h : DVs H Z kvs m) (t : Tr H Z [] v d) : DVs H Z (kvs.map fun kv => if kv.1 = k then (kv.1, v) else kv) (m.map fun kv => if kv.1 = k then (kv.1, d) else kv) := by
  induction h with
  | nil => exact .nil
  | @cons k' v' d' kvs m t' _ ih =>
    rw [List.map_cons, List.map_cons]
    by_cases hk : k' = k
    · simp only [hk, if_true]
      exact .cons t ih
    · simp only [hk, if_false]
      exact .cons t' ih
theorem DVs.put (h : DVs H Z kvs m) (t : Tr H Z [] v d) : DVs H Z (putK kvs k v) (putM m k d) := by
  unfold putK putM
  rw [valV_any, any_valM]
  rcases h.val k with ⟨e1, e2⟩ | ⟨v', d', e1, e2, _⟩
  · rw [e1, e2]
    exact h.app t
  · rw [e1, e2]
    exact h.map t
end
def keyD : D → Option Key
  | .int i => some (.inl i)
  | .str x => some (.inr x)
  | _ => none
def keysD : List D → Option (List Key)
  | [] => some []
  | d :: ds => (keyD d).bind fun k => (keysD ds).map (k :: ·)
section
variable {H : Hp} {Z : Reg} {S : List Addr}
theorem key_of {v : V} {y : D} {k : Key} (t : Tr H Z S v y) (e : keyD y = some k) : v = kV k := by
  cases t with
  | int i => cases e; rfl
  | str x => cases e; rfl
  | non => cases e
  | bl b => cases e
  | lst h t => cases e
  | lstZ z h t => cases e
  | tup h t => cases e
  | box h t => cases e
  | boxZ z h t => cases e
theorem keys_of : ∀ {ys : List D} {vs : List V} {S : List Addr} {ks : List Key}, Trs H Z S vs ys → keysD ys = some ks → vs = ks.map kV
  | [], _, _, ks, h, e => by
    cases h
    cases e
    rfl
  | y :: ys, _, _, ks, h, e => by
    cases h with
    | cons t ts =>
      unfold keysD at e
      cases h1 : keyD y with
      | none => rw [h1] at e; cases e
      | some k =>
        rw [h1] at e
        cases h2 : keysD ys with
        | none => rw [h2] at e; cases e
        | some ks' =>
          rw [h2] at e
          cases e
          rw [List.map_cons, key_of t h1, keys_of ts h2]
end
/-- the pairs of a dict that is a tree -/
def boxM : D → Option (List (Key × D))
  | .dict [(.list ys, .list ds)] => if ys.length = ds.length then (keysD ys).map fun ks => ks.zip ds else none
  | _ => none
theorem keysD_dOf : ∀ ks : List Key, keysD (ks.map dOf) = some ks
  | [] => rfl
  | .inl i :: ks => by rw [List.map_cons]; simp only [keysD, dOf, keyD, Option.bind_some, keysD_dOf ks, Option.map_some]
  | .inr x :: ks => by rw [List.map_cons]; simp only [keysD, dOf, keyD, Option.bind_some, keysD_dOf ks, Option.map_some]
theorem boxM_dictD (m : List (Key × D)) : boxM (dictD m) = some m := by
  show (if _ then _ else _) = _
  rw [if_pos (by simp), show (m.map fun kv => dOf kv.1) = (m.map (·.1)).map dOf by rw [List.map_map]; rfl, keysD_dOf]
  simp only [Option.map_some]
  congr 1
  induction m with
  | nil => rfl
  | cons x xs ih => simp [ih]
theorem Trs.consE {H : Hp} {Z : Reg} {v : V} {vs : List V} {d : D} {ds : List D} (h : Trs H Z [] (v :: vs) (d :: ds)) : Tr H Z [] v d ∧ Trs H Z [] vs ds := by
  generalize hS : ([] : List Addr) = S0 at h
  cases h with
  | @cons S T _ _ _ _ t ts =>
    obtain ⟨h1, h2⟩ := List.append_eq_nil_iff.mp hS.symm
    subst h1 h2
    exact ⟨t, ts⟩
theorem boxM_tr {H : Hp} {Z : Reg} {v : V} {d : D} {m : List (Key × D)} (t : Tr H Z [] v d) (e : boxM d = some m) : ∃ a kvs, v = .ref a ∧ H a = some (.dK kvs) ∧ DVs H Z kvs m := by
  cases t with
  | @boxZ a t vs ds hz b ts =>
    cases b with
    | ins _ _ => cases e
    | @dK ks vs e1 l1 =>
      simp only [boxM, List.length_map] at e
      split at e
      rotate_left
      · cases e
      rename_i hl
      rw [keysD_dOf] at e
      simp only [Option.map_some, Option.some.injEq] at e
      subst e
      refine ⟨a, _, rfl, e1, ?_⟩
      clear e1
      induction ks generalizing vs ds with
      | nil => exact .nil
      | cons k ks ih =>
        match vs, ds, ts, l1, hl with
        | v :: vs, d :: ds, ts, l1, hl =>
          obtain ⟨t, ts⟩ := ts.consE
          exact .cons t (ih ts (by simpa using l1) (by simpa using hl))
  | _ => cases e
/-- what a dict says of a key -/
def dgS (s : Sl) (y : D) : Option (Option D) := match s with
  | .dc m => (keyD y).map fun k => valM m k
  | .dt m => match y with
    | .tuple ys => (keysD ys).map fun ks => valM m ks
    | _ => none
  | .fz d => (boxM d).bind fun m => (keyD y).map fun k => valM m k
  | _ => none
/-- the dict behind d[y] = d -/
def dpS (s : Sl) (y d : D) : Option Sl := match s with
  | .dc m => (keyD y).map fun k => .dc (putM m k d)
  | .dt m => match y with
    | .tuple ys => (keysD ys).map fun ks => .dt (putM m ks d)
    | _ => none
  | _ => none
def dlS : Sl → Nat
  | .dc m => m.length
  | .dt m => m.length
  | _ => 0
def isDc : Option Sl → Prop
  | some (.fz d) => (boxM d).isSome = true
  | some (.dc _) => True
  | some (.dt _) => True
  | _ => False
section
variable {C : Cn} {Z : Reg} {S1 S2 : List Addr} {γ : VSt} {Θ : List V} {σ : L2.St} {H H' : Hp} {sl tm : List Sl} {n n' : Int} {v : V} {s : Sl} {y d : D} {i : Nat}
theorem Rel.isDc (R : Rel C γ Θ σ H) (h : isDc γ.sl[i]?) : ∃ a, σ[i]? = some (some (.ref a)) := by
  obtain ⟨Z, S1, S2, X⟩ := R
  cases e : γ.sl[i]? with
  | none => rw [e] at h; exact h.elim
  | some s =>
    rw [e] at h
    obtain ⟨v, T, R, ev, en, _⟩ := X.es.at e
    cases en with
    | dc e t => exact ⟨_, ev⟩
    | dt e t => exact ⟨_, ev⟩
    | @fz v d t =>
      obtain ⟨m, em⟩ := Option.isSome_iff_exists.mp h
      obtain ⟨a, kvs, rfl, _⟩ := boxM_tr t em
      exact ⟨_, ev⟩
    | _ => exact h.elim
theorem Rel.dget {r : Option D} (R : Rel C ⟨sl, .fz y :: tm, n⟩ (v :: Θ) σ H) (e : sl[i]? = some s) (h : dgS s y = some r) : ∃ a o, σ[i]? = some (some (.ref a)) ∧ DGet H a v o ∧ o.isSome = r.isSome ∧ Rel C ⟨sl, tm, n⟩ Θ σ H ∧ ∀ d, r = some d → ∃ u, o = some u ∧ Rel C ⟨sl, .fz d :: tm, n⟩ (u :: Θ) σ H := by
  have R0 := R.pop
  obtain ⟨Z, S1, S2, X⟩ := R
  have et := X.et
  dsimp only at et
  obtain ⟨T, t⟩ : ∃ T, Tr H Z T v y := by
    cases et with
    | cons e1 e2 =>
      cases e1 with
      | fz t => exact ⟨_, t⟩
  obtain ⟨Z2, A1, A2, X2⟩ := R0
  obtain ⟨w, T2, Rr, ev, en, _⟩ := X2.es.at e
  have fin : ∀ {o : Option V}, ((o = none ∧ r = none) ∨ ∃ u d, o = some u ∧ r = some d ∧ Tr H Z2 [] u d) → o.isSome = r.isSome ∧ Rel C ⟨sl, tm, n⟩ Θ σ H ∧ ∀ d, r = some d → ∃ u, o = some u ∧ Rel C ⟨sl, .fz d :: tm, n⟩ (u :: Θ) σ H := fun {o} q => by
    refine ⟨?_, ⟨_, _, _, X2⟩, fun d ed => ?_⟩
    · rcases q with ⟨rfl, rfl⟩ | ⟨u, d, rfl, rfl, _⟩ <;> rfl
    · rcases q with ⟨rfl, rfl⟩ | ⟨u, d', rfl, rfl, t⟩
      · cases ed
      · cases ed
        exact ⟨u, rfl, Z2, _, _, X2.pushE (Z' := Z2) (.fz t) List.nodup_nil (fun a m => nomatch m) (fun i π z => nomatch z)⟩
  cases en with
  | @dc a kvs m ha dv =>
    cases hk : keyD y with
    | none => simp only [dgS, hk] at h; cases h
    | some k =>
      simp only [dgS, hk, Option.map_some, Option.some.injEq] at h
      subst h
      have ek := key_of t hk
      subst ek
      exact ⟨a, valV kvs k, ev, .inl ⟨kvs, k, .inl ha, rfl, rfl⟩, fin (dv.val k)⟩
  | @dt a kvs m ha dv =>
    cases t with
    | @tup b vs _ ys hb ts =>
      cases hk : keysD ys with
      | none => simp only [dgS, hk] at h; cases h
      | some ks =>
        simp only [dgS, hk, Option.map_some, Option.some.injEq] at h
        subst h
        have ek := keys_of ts hk
        subst ek
        exact ⟨a, valV kvs ks, ev, .inr ⟨kvs, ks, b, .inl ha, rfl, hb, rfl⟩, fin (dv.val ks)⟩
    | _ => cases h
  | @fz u d tu =>
    cases em : boxM d with
    | none => simp only [dgS, em] at h; cases h
    | some m =>
      cases hk : keyD y with
      | none => simp only [dgS, em, hk, Option.bind_some, Option.map_none] at h; cases h
      | some k =>
        simp only [dgS, em, hk, Option.bind_some, Option.map_some, Option.some.injEq] at h
        subst h
        obtain ⟨a, kvs, rfl, ha, dv⟩ := boxM_tr tu em
        have ek := key_of t hk
        subst ek
        exact ⟨a, valV kvs k, ev, .inl ⟨kvs, k, .inl ha, rfl, rfl⟩, fin (dv.val k)⟩
  | _ => cases h
/-- a dict is written -/
theorem RelX.dcSet {a : Addr} {o o' : HO} (X : RelX C Z S1 S2 ⟨sl, tm, n⟩ Θ σ H) (e : sl[i]? = some s) (ev : σ[i]? = some (some (.ref a))) (en : ∀ T, Ent C Z H T (some (.ref a)) s → T = [a]) (ha : H a = some o) (no : ∀ vs, o ≠ .tup vs ∧ o ≠ .lst vs) (na : noAl i tm = true) (s' : Sl)
    (en' : Ent C Z (upd H a o') [a] (some (.ref a)) s') : Rel C ⟨sl.set i s', tm, n⟩ Θ σ (upd H a o') := by
  obtain ⟨v, T, Rr, ev2, en1, pm, k⟩ := X.es.at e
  have ev3 : v = some (.ref a) := by rw [ev] at ev2; cases ev2; rfl
  subst ev3
  have eT := en _ en1
  subst eT
  have ndS := (List.nodup_append.mp X.nd).1
  have aS : a ∈ S1 := pm.mem_iff.mpr (by simp)
  have kne : ∀ x, x ≠ a → ∀ o, H x = some o → upd H a o' x = some o := fun x hx o e => by rw [upd_ne hx]; exact e
  have kt : ∀ t vs, H t = some (.tup vs) → upd H a o' t = some (.tup vs) := fun t vs et => kne t (fun z => by subst z; rw [ha] at et; cases et; exact (no _).1 rfl) _ et
  have zne : ∀ x, C.tz Z x → x ≠ a := fun x z q => X.nz a (List.mem_append_left _ aS) (q ▸ z)
  have kz0 : ∀ x, C.tz Z x → ∀ o, H x = some o → upd H a o' x = some o := fun x z => kne x (zne x z)
  have kz : ∀ x, Z x → ∀ o, H x = some o → upd H a o' x = some o := fun x z => kz0 x (.inl z)
  have rne : ∀ x ∈ Rr, x ≠ a := fun x m q => by
    have := pm.nodup_iff.mp ndS
    subst q
    exact (List.nodup_append.mp this).2.2 x (by simp) x m rfl
  have s2ne : ∀ x ∈ S2, x ≠ a := fun x m q => (List.nodup_append.mp X.nd).2.2 a aS x m q.symm
  obtain ⟨S', es', pm'⟩ := k (upd H a o') Z [a] (some (.ref a)) s' kt (fun _ z => z) kz (fun x m => kne x (rne x m)) en'
  have eσ : σ.set i (some (.ref a)) = σ := by
    refine List.ext_getElem? fun j => ?_
    by_cases hj : i = j
    · subst hj
      rw [List.getElem?_set_self (List.getElem?_eq_some_iff.mp ev).1, ev]
    · rw [List.getElem?_set_ne hj]
  rw [eσ] at es'
  have pmS : (S' ++ S2).Perm (S1 ++ S2) := List.Perm.append_right S2 (pm'.trans pm.symm)
  refine ⟨Z, S', S2, fun x ox ex mx => ⟨(X.fr x ox ex mx).1, kz0 x (X.fr x ox ex mx).1 _ (X.fr x ox ex mx).2⟩, es', X.et.mono kt (fun _ z => z) kz (fun x m => kne x (s2ne x m)), pmS.nodup_iff.mpr X.nd, fun x m => X.nz x (pmS.mem_iff.mp m), fun p b q => ⟨?_, (X.pu p b q).2.1, fun m => (X.pu p b q).2.2 (pmS.mem_iff.mp m)⟩, fun x z => ?_, X.dj, fun j i' π v e' ev' => ?_⟩
  · exact (X.pu p b q).1.mono (kne p fun z => (X.pu p b q).2.2 (by rw [z]; exact List.mem_append_left _ aS))
  · obtain ⟨ox, ex⟩ := X.ex x z
    exact ⟨ox, kz0 x z _ ex⟩
  · obtain ⟨s0, d', e1, w', g1, g2, g3, g4, wk⟩ := X.al j i' π v e' ev'
    have hj : i ≠ i' := al_set na e'
    refine ⟨s0, d', e1, w', (List.getElem?_set_ne hj).trans g1, g2, g3, g4, ?_⟩
    rw [show (⟨sl, tm, n⟩ : VSt).sl = sl from rfl] at g1
    obtain ⟨S3, es3, pm3⟩ := k H Z [] (some (.ref a)) .jk (fun _ _ h => h) (fun _ z => z) (fun _ _ _ h => h) (fun _ _ _ h => h) (.jk _)
    rw [eσ] at es3
    obtain ⟨v0, T0, R0, ev0, en0, pm0, k0⟩ := es3.at ((List.getElem?_set_ne hj).trans g1)
    obtain ⟨w2, Tw, rfl, t0, sbw⟩ := en0.tr g2
    have : w2 = w' := by rw [g4] at ev0; cases ev0; rfl
    subst this
    refine (Tr.part t0 g3 wk).2 _ kt fun x q => kne x ?_
    rcases q with q | q
    · exact zne x (.inl q)
    · exact rne x (by simpa using pm3.mem_iff.mp (pm0.mem_iff.mpr (List.mem_append_left _ (sbw x q))))
theorem Rel.dput {u : V} {Θ : List V} {s' : Sl} (R : Rel C ⟨sl, .fz y :: .fz d :: tm, n⟩ (v :: u :: Θ) σ H) (e : sl[i]? = some s) (h : dpS s y d = some s') (hl : dlS s < 10000000) (na : noAl i tm = true) : ∃ a H', σ[i]? = some (some (.ref a)) ∧ DPut H a v u H' ∧ Rel C ⟨sl.set i s', tm, n⟩ Θ σ H' := by
  obtain ⟨Z0, A1, A2, X0⟩ := R
  have et0 := X0.et
  dsimp only at et0
  obtain ⟨T0, t⟩ : ∃ T, Tr H Z0 T v y := by
    cases et0 with
    | cons e1 e2 =>
      cases e1 with
      | fz t => exact ⟨_, t⟩
  have R1 := (Rel.pop ⟨Z0, A1, A2, X0⟩ : Rel C ⟨sl, .fz d :: tm, n⟩ (u :: Θ) σ H)
  obtain ⟨Z, B1, B2, X1⟩ := R1
  obtain ⟨fr, es, et, nd, nz, pu, ex, dj, al⟩ := X1
  dsimp only at es et al pu
  cases et with
  | @cons S T _ _ _ _ e1 e2 =>
    cases e1 with
    | fz tu =>
      have X2 : RelX C Z B1 T ⟨sl, tm, n⟩ Θ σ H := ⟨fr, es, e2, by simpa using nd, fun a m => nz a (by simpa using m), fun p b q => ⟨(pu p b q).1, (pu p b q).2.1, fun m => (pu p b q).2.2 (by simpa using m)⟩, ex, dj, fun k j π u e ev => al (k + 1) j π u (by simpa using e) (by simpa using ev)⟩
      obtain ⟨w, T2, Rr, ev, en, pm, _⟩ := es.at e
      cases en with
      | @dc a kvs m ha dv =>
        cases hk : keyD y with
        | none => simp only [dpS, hk] at h; cases h
        | some k =>
          simp only [dpS, hk, Option.map_some, Option.some.injEq] at h
          subst h
          have ek := key_of t hk
          subst ek
          have hlen : kvs.length < sizeLine := by rw [dv.length]; exact szlt (Nat.le_of_lt hl)
          have aS : a ∈ B1 := pm.mem_iff.mpr (by simp)
          have kt : ∀ t vs, H t = some (.tup vs) → upd H a (.dK (putK kvs k u)) t = some (.tup vs) := fun t vs et => by
            rw [upd_ne (show t ≠ a from fun z => by subst z; rw [ha] at et; cases et)]
            exact et
          have kz : ∀ x, Z x → ∀ o, H x = some o → upd H a (.dK (putK kvs k u)) x = some o := fun x z o e => by
            rw [upd_ne (show x ≠ a from fun q => X2.nz a (List.mem_append_left _ aS) (.inl (q ▸ z)))]
            exact e
          exact ⟨a, _, ev, .inl ⟨kvs, k, ha, rfl, hlen, rfl⟩, X2.dcSet e ev (fun T q => by cases q; rfl) ha (fun vs => ⟨(fun z => nomatch z), (fun z => nomatch z)⟩) na _ (.dc upd_same ((dv.put tu).mono kt (fun _ z => z) kz))⟩
      | @dt a kvs m ha dv =>
        cases t with
        | @tup b vs _ ys hb ts =>
          cases hk : keysD ys with
          | none => simp only [dpS, hk] at h; cases h
          | some ks =>
            simp only [dpS, hk, Option.map_some, Option.some.injEq] at h
            subst h
            have ek := keys_of ts hk
            subst ek
            have hlen : kvs.length < sizeLine := by rw [dv.length]; exact szlt (Nat.le_of_lt hl)
            have aS : a ∈ B1 := pm.mem_iff.mpr (by simp)
            have kt : ∀ t vs, H t = some (.tup vs) → upd H a (.dT (putK kvs ks u)) t = some (.tup vs) := fun t vs et => by
              rw [upd_ne (show t ≠ a from fun z => by subst z; rw [ha] at et; cases et)]
              exact et
            have kz : ∀ x, Z x → ∀ o, H x = some o → upd H a (.dT (putK kvs ks u)) x = some o := fun x z o e => by
              rw [upd_ne (show x ≠ a from fun q => X2.nz a (List.mem_append_left _ aS) (.inl (q ▸ z)))]
              exact e
            exact ⟨a, _, ev, .inr ⟨kvs, ks, b, ha, rfl, hb, hlen, rfl⟩, X2.dcSet e ev (fun T q => by cases q; rfl) ha (fun vs => ⟨(fun z => nomatch z), (fun z => nomatch z)⟩) na _ (.dt upd_same ((dv.put tu).mono kt (fun _ z => z) kz))⟩
        | _ => cases h
      | _ => cases h
theorem Rel.dnew {p : Addr} {o : HO} (R : Rel C ⟨sl, tm, n⟩ Θ σ H) (hp : H p = none) (en : ∀ Z, Ent C Z (upd H p o) [p] (some (.ref p)) s) (na : ∀ i π, s ≠ .al i π) : Rel C ⟨sl, s :: tm, n⟩ (.ref p :: Θ) σ (upd H p o) := by
  have np : ∀ a, (∃ o, H a = some o) → a ≠ p := fun a ⟨o, e⟩ z => by rw [z, hp] at e; cases e
  obtain ⟨Z, S1, S2, X⟩ := R
  have sm := same_upd (o := o) hp
  have h1 : RelX C Z S1 S2 ⟨sl, tm, n⟩ Θ σ (upd H p o) := by
    refine ⟨fun a o e m => ⟨(X.fr a o e m).1, sm a o (X.fr a o e m).2⟩, X.es.mono (fun t vs e => sm t _ e) (fun _ z => z) (fun a _ o e => sm a o e) (fun a _ o e => sm a o e), X.et.mono (fun t vs e => sm t _ e) (fun _ z => z) (fun a _ o e => sm a o e) (fun a _ o e => sm a o e), X.nd, X.nz, fun q b e => ⟨(X.pu q b e).1.mono (sm q), (X.pu q b e).2⟩, fun a z => ?_, X.dj, fun k j π u e ev => ?_⟩
    · obtain ⟨o, e⟩ := X.ex a z
      exact ⟨o, sm a o e⟩
    · obtain ⟨s, d', e', w, g1, g2, g3, g4, wk⟩ := X.al k j π u e ev
      obtain ⟨w', T', ew, t, sub⟩ := X.slot g1 g2
      rw [g4] at ew
      cases ew
      exact ⟨s, d', e', w, g1, g2, g3, g4, (Tr.part t g3 wk).2 _ (fun t vs e => sm t _ e) fun a _ o e => sm a o e⟩
  refine ⟨Z, S1, _, h1.pushE (Z' := Z) (en Z) (by simp) (fun a m => ?_) na⟩
  cases List.mem_singleton.mp m
  refine ⟨fun q => ?_, fun z => np _ (X.ex _ z) rfl, fun q b e z => ?_⟩
  · rcases List.mem_append.mp q with q | q
    · exact np _ (X.es.dom _ q) rfl
    · exact np _ (X.et.dom _ q) rfl
  · obtain ⟨x, y, w, e2, _⟩ := (X.pu q b e).1
    exact np _ ⟨_, e2⟩ z.symm
end
section
variable {t ta tb : TE} {k ka kb : KE}
def kDNew : KE := fun γ q => q ⟨γ.sl, .dc [] :: γ.tm, γ.n⟩
def kDNewT : KE := fun γ q => q ⟨γ.sl, .dt [] :: γ.tm, γ.n⟩
theorem so_dnewT : SoE xc tDNewT kDNewT := fun γ Θ σ H Q q R hk w => fun p hp => w _ _ _ hk (R.dnew hp (fun Z => .dt upd_same .nil) fun i π z => nomatch z)
theorem okS_dc {m : List (Key × D)} : okS (.dc m) = true := rfl
theorem okS_dt {m : List (List Key × D)} : okS (.dt m) = true := rfl
theorem noAl_dc {i : Nat} {m : List (Key × D)} {tm : List Sl} : noAl i (.dc m :: tm) = noAl i tm := by simp [noAl]
theorem noAl_dt {i : Nat} {m : List (List Key × D)} {tm : List Sl} : noAl i (.dt m :: tm) = noAl i tm := by simp [noAl]
def topK (γ : VSt) (q : D → VSt → Prop) : Prop := match γ.tm with
  | .fz y :: tm => q y ⟨γ.sl, tm, γ.n⟩
  | _ => False
/-- d[y] -/
def kDGet (i : Nat) (ky : KE) : KE := fun γ q => isDc γ.sl[i]? ∧ ky γ fun γ1 => topK γ1 fun y γ2 => (γ2.sl[i]?).elim False fun s => (dgS s y).elim False fun r => ∃ d, r = some d ∧ q ⟨γ2.sl, .fz d :: γ2.tm, γ2.n⟩
theorem so_dget {i : Nat} (h : SoE xc t k) : SoE xc (tDGet (tVar i) t) (kDGet i k) := fun γ Θ σ H Q q R hk w => by
  obtain ⟨hd, hk⟩ := hk
  obtain ⟨a, ea⟩ := R.isDc hd
  refine ⟨_, ea, h γ Θ σ H _ _ R hk fun γ1 v H1 hk1 R1 => ?_⟩
  obtain ⟨sl, tm, n⟩ := γ1
  unfold topK at hk1
  dsimp only at hk1
  split at hk1
  · rename_i y tm
    obtain ⟨s, es, hk2⟩ := elimF hk1
    obtain ⟨r, ed, d, er, hq⟩ := elimF hk2
    obtain ⟨a', o, e1, g, _, _, up⟩ := R1.dget es ed
    obtain ⟨u, rfl, R2⟩ := up d er
    rw [ea] at e1
    cases e1
    exact ⟨a, u, rfl, g, w _ _ _ hq R2⟩
  · exact hk1.elim
/-- y in d -/
def kDIn (neg : Bool) (ky : KE) (i : Nat) : KE := fun γ q => ky γ fun γ1 => topK γ1 fun y γ2 => (γ2.sl[i]?).elim False fun s => (dgS s y).elim False fun r => q ⟨γ2.sl, .fz (.bool (neg != r.isSome)) :: γ2.tm, γ2.n⟩
theorem din_core {C : Cn} {γ1 : VSt} {v : V} {Θ : List V} {σ : L2.St} {H1 : Hp} {i : Nat} {neg : Bool} {q : VSt → Prop} (R1 : Rel C γ1 (v :: Θ) σ H1) (hk1 : topK γ1 fun y γ2 => (γ2.sl[i]?).elim False fun s => (dgS s y).elim False fun r => q ⟨γ2.sl, .fz (.bool (neg != r.isSome)) :: γ2.tm, γ2.n⟩) :
    ∃ a o γ2, σ[i]? = some (some (.ref a)) ∧ DGet H1 a v o ∧ q γ2 ∧ Rel C γ2 (.bl (neg != o.isSome) :: Θ) σ H1 := by
  obtain ⟨sl, tm, n⟩ := γ1
  unfold topK at hk1
  dsimp only at hk1
  split at hk1
  · rename_i y tm
    obtain ⟨s, es, hk2⟩ := elimF hk1
    obtain ⟨r, er, hq⟩ := elimF hk2
    obtain ⟨a, o, e1, g, eo, R2, _⟩ := R1.dget es er
    rw [← eo] at hq
    exact ⟨a, o, _, e1, g, hq, R2.push fun Z => .bl _⟩
  · exact hk1.elim
theorem so_dnotin {i : Nat} (h : SoE xc t k) : SoE xc (tDNotIn t (tVar i)) (kDIn true k i) := fun γ Θ σ H Q q R hk w => h γ Θ σ H _ _ R hk fun γ1 v H1 hk1 R1 => by
  obtain ⟨a, o, γ2, e1, g, hq, R2⟩ := din_core R1 hk1
  refine ⟨_, e1, a, o, rfl, g, w _ _ _ hq ?_⟩
  have : (true != o.isSome) = !o.isSome := by cases o <;> rfl
  rw [← this]
  exact R2
/-- d[y] = v -/
def kDPut (i : Nat) (kv ky : KE) : KS := fun γ e => kv γ fun γ1 => match γ1.tm with
  | .fz d :: _ => isDc γ1.sl[i]? ∧ ky γ1 fun γ2 => match γ2.tm with
    | .fz y :: .fz d :: tm => (γ2.sl[i]?).elim False fun s => (dpS s y d).elim False fun s' => if noAl i tm = true then dlS s < 10000000 ∧ e.nx ⟨γ2.sl.set i s', tm, γ2.n⟩ else False
    | _ => False
  | _ => False
theorem so_dput {i : Nat} (hv : SoE xc ta ka) (hy : SoE xc tb kb) : SoS xc (sDPut (tVar i) tb ta) (kDPut i ka kb) := fun γ Θ σ H De e R hk w => hv γ Θ σ H _ _ R hk fun γ1 u H1 hk1 R1 => by
  obtain ⟨sl, tm, n⟩ := γ1
  dsimp only at hk1
  split at hk1
  · obtain ⟨hd, hk1⟩ := hk1
    obtain ⟨a, ea⟩ := R1.isDc hd
    refine ⟨_, ea, hy _ _ σ H1 _ _ R1 hk1 fun γ2 v H2 hk2 R2 => ?_⟩
    obtain ⟨sl, tm, n⟩ := γ2
    dsimp only at hk2
    split at hk2
    · rename_i y d tm
      obtain ⟨s, es, hk3⟩ := elimF hk2
      obtain ⟨s', es', hk4⟩ := elimF hk3
      split at hk4
      rotate_left
      · exact hk4.elim
      rename_i na
      obtain ⟨hl, hq⟩ := hk4
      obtain ⟨a', H3, e1, dp, R3⟩ := R2.dput es es' hl na
      rw [ea] at e1
      cases e1
      exact ⟨a, H3, rfl, dp, w.nx _ _ _ hq R3⟩
    · exact hk2.elim
  · exact hk1.elim
/-- a, b, c = x, y, z -/
def kPar3 (i j l : Nat) (ka : KE) : KS := fun γ e => ka γ fun γ1 => match γ1.tm with
  | s3 :: s2 :: s1 :: tm => (okS s3 = true ∧ okS s2 = true ∧ okS s1 = true ∧ noAl i tm = true ∧ noAl j tm = true ∧ noAl l tm = true) ∧ e.nx ⟨((γ1.sl.set i s1).set j s2).set l s3, tm, γ1.n⟩
  | _ => False
theorem noAl_ok {s : Sl} {tm : List Sl} {i : Nat} (h : okS s = true) (na : noAl i tm = true) : noAl i (s :: tm) = true := by
  unfold noAl at na ⊢
  rw [List.all_cons, na, Bool.and_true]
  cases s <;> first | rfl | cases h
theorem so_par3 {i j l : Nat} {ts : TA} (hij : i ≠ j) (hil : i ≠ l) (hjl : j ≠ l) (a : SoA xc 3 ts ka) : SoS xc (tPar3 i j l ts) (kPar3 i j l ka) := fun γ Θ σ H De e R hk w => a γ Θ σ H _ _ R hk fun γ1 vs H1 el hk1 R1 => by
  obtain ⟨sl, tm, n⟩ := γ1
  dsimp only at hk1
  match vs, el with
  | [v, u, x], _ =>
    split at hk1
    · rename_i s3 s2 s1 tm
      obtain ⟨⟨q1, q2, q3, q4, q5, q6⟩, hq⟩ := hk1
      have R2 : Rel C ⟨sl, s3 :: s2 :: s1 :: tm, n⟩ (x :: u :: v :: Θ) σ H1 := R1
      have R3 := ((R2.set (i := l) (okS_ne q1) (noAl_ok q2 (noAl_ok q3 q6))).set (i := j) (okS_ne q2) (noAl_ok q3 q5)).set (i := i) (okS_ne q3) q4
      have e1 : ∀ {α : Type} (L : List α) (a b c : α), ((L.set l a).set j b).set i c = ((L.set i c).set j b).set l a := fun L a b c => by
        rw [List.set_comm _ _ (Ne.symm hjl), List.set_comm _ _ (Ne.symm hil), List.set_comm _ _ (Ne.symm hij)]
      rw [e1, e1] at R3
      exact ⟨v, u, x, rfl, w.nx _ _ _ hq R3⟩
    · exact hk1.elim
end
end G
namespace G
open PySem PySem.Spec PyProof.Rows L2
variable {C : Cn} {xc : XC C}
section
variable {ts : TA} {ka : KE} {n : Nat}
/-- the name i, read at depth j of the stack, is given away there -/
def kSink (j i : Nat) (ka : KE) : KE := fun γ q => ka γ fun γ1 => match γ1.sl[i]? with
  | some (.ow b d) => γ1.tm[j]? = some (.al i []) ∧ noAl i (γ1.tm.set j .jk) = true ∧ q ⟨γ1.sl.set i .jk, γ1.tm.set j (.ow b d), γ1.n⟩
  | some (.fz d) => γ1.tm[j]? = some (.fz d) ∧ q γ1
  | _ => False
end
end G
namespace G
open PySem PySem.Spec PyProof.Rows L2
variable {C : Cn} {xc : XC C}
/-- a dict's entries, whatever its keys are -/
def DSz (h : Heap) (a : Addr) (n : Nat) : Prop := ∃ o es ep, h.get? a = some o ∧ o.ExactDict ∧ o.data = .dict es ep ∧ es.size = n
section
variable {prog : Program} {w : World} {A : Around} {E : Value → Shared → Prop} {s : Shared} {a : Addr} {n : Nat}
theorem meets_lenD (a : Addr) (hd : (a == sysModules) = false) : MeetsIn prog w (Builtin.«dict.__len__» ⟨[.ref a], []⟩) fun _ R s => ∃ n, DSz s.heap a n ∧ R (.ok (.ret (.int n s.toks))) { s with toks := s.toks + 1 } :=
  .of_wp fun A R s ⟨n, ⟨o, es, ep, e1, _, e2, e3⟩, h⟩ => by
    show wpAny _ _ (dictSize a >>= fun _ => _) _ _ s
    unfold dictSize
    refine wpAny_bind (wpAny_bind ?_)
    refine wpAny_dictEntries e1 e2 ?_
    refine wpAny_pure ?_
    refine wpAny_bind ?_
    refine wpAny_pendingCount_other hd ?_
    refine wpAny_ret_mkInt ?_
    rw [Nat.add_zero, e3]
    exact h
theorem DSz.ty (m : DSz s.heap a n) : s.TypeIs (.ref a) "dict" :=
  let ⟨o, _, _, e1, e2, _⟩ := m
  ⟨o, e1, e2.1⟩
theorem body_lenD {Q : Value → Shared → Prop} (hd : (a == sysModules) = false) (m : DSz s.heap a n) (hn : (n : Int) < 2 ^ 63) (h : Q (.int n (s.toks + 1)) { s with toks := s.toks + 1 + 1 }) :
    wpAny (model prog w) A (Builtin.«len» ⟨[.ref a], []⟩) (fun f s' => ∃ r, f = .done (.ret r) ∧ Q r s') E s := by
  unfold Builtin.«len»
  refine wpAny_bind (m := oneArg "len" _) ?_
  refine wpAny_pure ?_
  refine wpAny_bind (m := callSpecial? (.ref a) (Str.ofString "__len__")) ?_
  refine wpAny_callSpecial?_slot (name := Str.ofString "__len__") m.ty PySem.F.slot_dict_len ?_
  refine call_meetsIn PySem.F.slot_dict_len m.ty PySem.F.entry_dict_len ?_ (meets_lenD a hd) ⟨n, m, ?_⟩
  · exact PySem.F.args_dict_len_1 _
  show wpAny _ _ _ _ _ { s with toks := s.toks + 1 }
  refine wpAny_bind ?_
  refine wpAny_holding (wpAny_pure ?_)
  refine wpAny_bind ?_
  refine wpAny_letGo ?_
  show wpAny _ _ (if (n : Int) < 0 then _ else _) _ _ _
  rw [if_neg (by omega)]
  show wpAny _ _ (if (n : Int) ≥ 2 ^ 63 then _ else _) _ _ _
  rw [if_neg (by omega)]
  refine wpAny_bind ?_
  refine wpAny_mkInt ?_
  exact wpAny_pure ⟨_, rfl, h⟩
end
theorem dsz_dk {X : Cx} {pins : List (Addr × Obj)} {σ : L2.St} {H : Hp} {s : Shared} {a : Addr} {kvs : List (Key × V)} (I : Inv X pins σ H s) (e : H a = some (.dK kvs)) : DSz s.heap a kvs.length ∧ kvs.length ≤ sizeLine ∧ (a == sysModules) = false := by
  obtain ⟨z, hd, vs, rel, o, es, ep, e1, e2, e3, _, hp, _⟩ := dk_of I.hok e
  refine ⟨⟨o, es, ep, e1, e2, e3, ?_⟩, z, hd⟩
  rw [rel.length, ← hp.length]
  simp
theorem dsz_dt {X : Cx} {pins : List (Addr × Obj)} {σ : L2.St} {H : Hp} {s : Shared} {a : Addr} {kvs : List (List Key × V)} (I : Inv X pins σ H s) (e : H a = some (.dT kvs)) : DSz s.heap a kvs.length ∧ kvs.length ≤ sizeLine ∧ (a == sysModules) = false := by
  obtain ⟨z, hd, xs, rel, o, es, ep, e1, e2, e3, he, _⟩ := dt_of I.hok e
  refine ⟨⟨o, es, ep, e1, e2, e3, ?_⟩, z, hd⟩
  rw [size_of_entries he]
  exact (Paired.length rel).symm
def rLenD : List V → Hp → VK → Prop := fun xs H Q => ∃ a n, xs = [.ref a] ∧ ((∃ kvs : List (Key × V), H a = some (.dK kvs) ∧ kvs.length = n) ∨ ∃ kvs : List (List Key × V), H a = some (.dT kvs) ∧ kvs.length = n) ∧ Q (.int n) H
theorem call_lenDT {X : Cx} : CallR X (.builtin "len") rLenD := by
  intro pins s σ H xs us Q I r h
  obtain ⟨a, n, rfl, hq, q⟩ := h
  obtain ⟨u, rfl, rx⟩ := vals1 r
  cases rx
  have hn := line63
  obtain ⟨dz, z, hd⟩ : DSz s.heap a n ∧ n ≤ sizeLine ∧ (a == sysModules) = false := by
    rcases hq with ⟨kvs, e, rfl⟩ | ⟨kvs, e, rfl⟩
    · exact dsz_dk I e
    · exact dsz_dt I e
  refine Calls.call_function_entry kind_len plain_len entry_len (args_len1 _) ?_
  refine body_lenD hd dz (by omega) ?_
  exact ⟨.int n, H, I.tok _, ⟨s.toks + 1, rfl⟩, q⟩
section
variable {C : Cn} {Z : Reg} {S1 S2 : List Addr} {γ : VSt} {Θ : List V} {σ : L2.St} {H : Hp} {i : Nat}
def kLenD (i : Nat) : KE := fun γ q => match γ.sl[i]? with
  | some (.dc m) => q ⟨γ.sl, .fz (.int m.length) :: γ.tm, γ.n⟩
  | some (.dt m) => q ⟨γ.sl, .fz (.int m.length) :: γ.tm, γ.n⟩
  | _ => False
theorem so_lenD {i : Nat} : SoE xc (tCB rLenD (tCons (tVar i) tNil)) (kLenD i) := fun γ Θ σ H Q q R hk w => by
  have R0 := R
  obtain ⟨Z, S1, S2, X⟩ := R
  unfold kLenD at hk
  cases e : γ.sl[i]? with
  | none => rw [e] at hk; exact hk.elim
  | some s =>
    rw [e] at hk
    obtain ⟨v, T, R, ev, en, _⟩ := X.es.at e
    cases en with
    | dc ha dv => exact ⟨_, ev, _, _, rfl, .inl ⟨_, ha, dv.length⟩, w _ _ _ hk (R0.push fun Z => .int _)⟩
    | dt ha dv => exact ⟨_, ev, _, _, rfl, .inr ⟨_, ha, dv.length⟩, w _ _ _ hk (R0.push fun Z => .int _)⟩
    | _ => exact hk.elim
end
end G
namespace G
open PySem PySem.Spec PyProof.Rows L2
variable {C : Cn} {xc : XC C}
section
variable {C : Cn} {sl tm : List Sl} {n : Int} {v : V} {Θ : List V} {σ : L2.St} {H : Hp} {ds : List D}
/-- a whole list that is given away becomes a tuple -/
theorem Rel.tupO (R : Rel C ⟨sl, .ow true (.list ds) :: tm, n⟩ (v :: Θ) σ H) : ∃ a vs, v = .ref a ∧ H a = some (.lst vs) ∧ ∀ p, H p = none → Rel C ⟨sl, own (.tuple ds) :: tm, n⟩ (.ref p :: Θ) σ (upd H p (.tup vs)) := by
  have ⟨Z, S1, S2, X⟩ := R
  obtain ⟨A, B, es, r, f⟩ := RelX.popF (ss := [.ow true (.list ds)]) (us := [v]) X rfl
  cases es with
  | cons e1 e2 =>
    cases e2
    cases e1 with
    | ow t =>
      cases t with
      | @lst a vs S' _ ha ts =>
        refine ⟨a, vs, rfl, ha, fun p hp => ?_⟩
        have sm := same_upd (o := .tup vs) hp
        obtain ⟨Z', S1', S2', X'⟩ := R.same sm
        obtain ⟨A', B', es', r', f'⟩ := RelX.popF (ss := [.ow true (.list ds)]) (us := [.ref a]) X' rfl
        cases es' with
        | cons e1 e2 =>
          cases e2
          cases e1 with
          | ow t' =>
            cases t' with
            | @lst _ vs' S'' _ ha' ts' =>
              have := sm _ _ ha
              rw [ha'] at this
              cases this
              have en : Ent C Z' (upd H p (.tup vs)) S'' (some (.ref p)) (.ow true (.tuple ds)) := .ow (.tup upd_same ts')
              have R2 := r'.pushF f' (A' := S'') (Dr := [a]) (by simpa using (List.perm_append_comm (l₁ := [a]) (l₂ := S''))) en (fun i π z => nomatch z)
              unfold own
              cases hn : nolist (.tuple ds) with
              | false => exact ⟨_, _, _, R2⟩
              | true =>
                rw [nolist] at hn
                have q := Trs.nolist (Z' := Z') _ _ _ ts' hn
                exact ⟨_, _, _, r'.pushF f' (A' := []) (Dr := [a] ++ S'') (by simp) (.fz (.tup upd_same q.2)) (fun i π z => nomatch z)⟩
            | lstZ h0 _ _ => exact h0.elim
      | lstZ h0 _ _ => exact h0.elim
theorem Rel.tupS {Z : Reg} {S1 S2 : List Addr} {us : List V} {p : Addr} (h : RelX C Z S1 S2 ⟨sl, tm, n⟩ Θ σ H) (t : Trs H Z [] us ds) (hp : H p = none) : Rel C ⟨sl, .fz (.tuple ds) :: tm, n⟩ (.ref p :: Θ) σ (upd H p (.tup us)) := by
  have sm := same_upd (o := .tup us) hp
  have R1 : Rel C ⟨sl, .fz (.list []) :: tm, n⟩ (.ref p :: Θ) σ H → False → False := fun _ z => z
  have h1 : RelX C Z S1 S2 ⟨sl, tm, n⟩ Θ σ (upd H p (.tup us)) := by
    refine ⟨fun a o e m => ⟨(h.fr a o e m).1, sm a o (h.fr a o e m).2⟩, h.es.mono (fun t vs e => sm t _ e) (fun _ z => z) (fun a _ o e => sm a o e) (fun a _ o e => sm a o e), h.et.mono (fun t vs e => sm t _ e) (fun _ z => z) (fun a _ o e => sm a o e) (fun a _ o e => sm a o e), h.nd, h.nz, fun q b e => ⟨(h.pu q b e).1.mono (sm q), (h.pu q b e).2⟩, fun a z => ?_, h.dj, fun k j π u e ev => ?_⟩
    · obtain ⟨o, e⟩ := h.ex a z
      exact ⟨o, sm a o e⟩
    · obtain ⟨s, d', e', w, g1, g2, g3, g4, wk⟩ := h.al k j π u e ev
      obtain ⟨w', T', ew, t, sub⟩ := h.slot g1 g2
      rw [g4] at ew
      cases ew
      exact ⟨s, d', e', w, g1, g2, g3, g4, (Tr.part t g3 wk).2 _ (fun t vs e => sm t _ e) fun a _ o e => sm a o e⟩
  have t' : Trs (upd H p (.tup us)) Z [] us ds := Trs.mono (fun t vs e => sm t _ e) (fun _ z => z) (fun a _ o e => sm a o e) _ _ _ t fun a m => nomatch m
  exact ⟨_, _, _, h1.pushE (Z' := Z) (.fz (.tup upd_same t')) List.nodup_nil (fun a m => nomatch m) (fun i π z => nomatch z)⟩
end
section
variable {K : PySem.W.Frag} {ka : KE}
def kTupOf (ka : KE) : KE := fun γ q => ka γ fun γ1 => match γ1.tm with
  | .ow true (.list ds) :: tm => q ⟨γ1.sl, own (.tuple ds) :: tm, γ1.n⟩
  | s :: tm => (shr γ1.sl s true).elim False fun ds => q ⟨γ1.sl, .fz (.tuple ds) :: tm, γ1.n⟩
  | _ => False
theorem so_tupOf {ts : TA} (h : SoA xc 1 ts ka) : SoE xc (tCB (fun xs H Q => ∃ p ys, xs = [.ref p] ∧ ((SqL K H p ys ∧ ∀ l, H l = none → Q (.ref l) (upd H l (.tup ys))) ∨ (SqT K H p ys ∧ Q (.ref p) H))) ts) (kTupOf ka) := fun γ Θ σ H Q q R hk w => h γ Θ σ H _ _ R hk fun γ1 vs H1 el hk1 R1 => by
  match vs, el, R1 with
  | [v], _, R1 =>
    obtain ⟨sl, tm, j⟩ := γ1
    dsimp only at hk1
    split at hk1
    · rename_i ds tm
      obtain ⟨a, us, rfl, ha, k⟩ := Rel.tupO R1
      exact ⟨a, us, rfl, .inl ⟨SqL.of ha, fun p hp => w _ _ _ hk1 (k p hp)⟩⟩
    · rename_i s tm _
      obtain ⟨ds, e, hq⟩ := elimF hk1
      obtain ⟨a, us, Z, S1, S2, rfl, ha, X, ts⟩ := Rel.shr R1 (l := true) e
      exact ⟨a, us, rfl, .inl ⟨SqL.of ha, fun p hp => w _ _ _ hq (Rel.tupS X ts hp)⟩⟩
    · exact hk1.elim
theorem keysD_ints : ∀ ns : List Int, keysD (ns.map PyData.int) = some (ns.map Sum.inl)
  | [] => rfl
  | n :: ns => by
    rw [List.map_cons, keysD, keysD_ints ns]
    rfl
end
end G
namespace G
open PySem PySem.Spec PyProof.Rows L2
variable {C : Cn} {xc : XC C}
abbrev tame (d : D) : Prop := SeqAt.shaped d = true ∧ d.depth ≤ 60
def rInD (K : PySem.W.Frag) (neg : Bool) : R2 := fun x y H Q => ∃ d es, Dp K H x d ∧ (Dp K H y (.list es) ∨ Dp K H y (.tuple es)) ∧ tame d ∧ PyData.canLayAll0 es = true ∧ Q (.bl (neg ^^ es.any fun e => PyData.eqv e d)) H
section
variable {X : Cx}
theorem room_tame {A : Around} {d : D} {n : Nat} (h : tame d) (hu : A.units + 64 < cLine) : A.units + 1 + min n d.depth < cLine := by
  have := Nat.min_le_right n d.depth
  have := h.2
  omega
theorem op_inD (hu : X.A.units + 64 < cLine) : OpR X (compareOp .In) (rInD X.K false) := by
  intro pins s σ H x y v u Q I rx ry h
  obtain ⟨d, es, hd, he, t, hl, q⟩ := h
  obtain ⟨as, r1⟩ := Dp.reads I d x v hd rx
  have fin : EP X pins σ Q (.bool (es.any fun e => PyData.eqv e d)) s := ⟨.bl _, H, I, rfl, by simpa using q⟩
  rcases he with he | he
  · obtain ⟨bs, r2⟩ := Dp.reads I _ y u he ry
    exact SeqAt.in_list_reads r2 r1 hl (SeqAt.canLay_of_shaped t.1) (room_tame t hu) fin
  · obtain ⟨bs, r2⟩ := Dp.reads I _ y u he ry
    exact SeqAt.in_tuple_reads r2 r1 hl (SeqAt.canLay_of_shaped t.1) (room_tame t hu) fin
def rIndexD (K : PySem.W.Frag) : V → List V → Hp → VK → Prop := fun x xs H Q => ∃ (es : List D) (y : V) (d : D) (j : Nat), xs = [y] ∧ Dp K H x (.list es) ∧ Dp K H y d ∧ tame d ∧ PyData.canLayAll0 es = true ∧
  (∃ e, es[j]? = some e ∧ PyData.eqv e d = true) ∧ (∀ (m : Nat) (e : D), m < j → es[m]? = some e → PyData.eqv e d = false) ∧ j < 10000000 ∧ Q (.int (j : Nat)) H
theorem mt_indexD (hu : X.A.units + 64 < cLine) : MtR X "list.index" (rIndexD X.K) := by
  intro pins s σ H x xs v us Q I rx rxs h
  obtain ⟨es, y, d, j, rfl, hx, hy, t, hl, ⟨e, hj, he⟩, hno, hj2, q⟩ := h
  cases rxs with
  | cons ry rt =>
    rename_i uy ut
    cases rt
    obtain ⟨as, r1⟩ := Dp.reads I d y uy hy ry
    obtain ⟨bs, r2⟩ := Dp.reads I _ x v hx rx
    cases r2 with
    | @list a o its n _ bs' h1 h2 h3 h4 =>
      obtain ⟨cls, dd, data, sl⟩ := o
      simp only at h2 h3
      subst h2 h3
      have hm := SeqAt.readsAll_map es _ _ hl h4
      have at_ : ∀ m : Nat, ∀ hm2 : m < its.size, es[m]? = some (SeqAt.readOf s.heap its[m]) := fun m hm2 => by
        rw [← hm, List.getElem?_map, Array.getElem?_toList, Array.getElem?_eq_getElem hm2]
        rfl
      have hlen : es.length = its.size := by rw [← hm, List.length_map, Array.length_toList]
      have hjl : j < its.size := by
        have := (List.getElem?_eq_some_iff.mp hj).1
        omega
      refine call_meets PySem.F.slot_list_index ⟨_, h1, rfl⟩ PySem.F.entry_list_index ?_
        (SeqAt.list_indexAt a its n dd sl uy (fun z => PyData.eqv (SeqAt.readOf s.heap z) d) j hjl (by omega) ?_ fun m hm2 hmj => ?_) ⟨h1, fun z hz => SeqAt.items_eqAt h4 r1 hl (SeqAt.canLay_of_shaped t.1) (room_tame t hu) z hz, ?_⟩
      · exact PySem.F.args_list_index_2 _ _
      · have := at_ j hjl
        rw [hj] at this
        cases this
        exact he
      · exact hno m _ hmj (at_ m hm2)
      · exact ⟨.int (j : Nat), H, I.tok _, ⟨_, rfl⟩, q⟩
end
def vInD (neg : Bool) : D → D → (D → Prop) → Prop := fun d1 d2 q => match d2 with
  | .list es => tame d1 ∧ PyData.canLayAll0 es = true ∧ q (.bool (neg ^^ es.any fun e => PyData.eqv e d1))
  | .tuple es => tame d1 ∧ PyData.canLayAll0 es = true ∧ q (.bool (neg ^^ es.any fun e => PyData.eqv e d1))
  | _ => False
theorem sr_inD {K : PySem.W.Frag} {neg : Bool} : SoR (rInD K neg) (vInD neg) := fun H v1 v2 T1 T2 d1 d2 Q q r1 r2 hf w => by
  unfold vInD at hf
  split at hf
  · exact ⟨d1, _, Rep.dp K _ _ _ r1 (nd_shaped hf.1.1), .inl (Rep.dp K _ _ _ r2 (by rw [PyData.hasDict]; exact nd_lays _ hf.2.1)), hf.1, hf.2.1, w _ _ (sca_bl _) hf.2.2⟩
  · exact ⟨d1, _, Rep.dp K _ _ _ r1 (nd_shaped hf.1.1), .inr (Rep.dp K _ _ _ r2 (by rw [PyData.hasDict]; exact nd_lays _ hf.2.1)), hf.1, hf.2.1, w _ _ (sca_bl _) hf.2.2⟩
  · exact hf.elim
def vIdxD : List D → (D → Prop) → Prop := fun ds q => match ds with
  | [.list es, d] => ∃ j : Nat, tame d ∧ PyData.canLayAll0 es = true ∧ (∃ e, es[j]? = some e ∧ PyData.eqv e d = true) ∧ (∀ (m : Nat) (e : D), m < j → es[m]? = some e → PyData.eqv e d = false) ∧ j < 10000000 ∧ q (.int (j : Nat))
  | _ => False
theorem sm_indexD {K : PySem.W.Frag} : SoM 1 (rIndexD K) vIdxD := fun H vs T ds Q q r el hf w => by
  unfold vIdxD at hf
  split at hf
  · obtain ⟨j, t, hl, h1, h2, h3, hg⟩ := hf
    obtain ⟨v, u, T1, T2, rfl, r1, r2⟩ := r.c2
    exact ⟨_, u, _, j, rfl, Rep.dp K _ _ _ r1 (by rw [PyData.hasDict]; exact nd_lays _ hl), Rep.dp K _ _ _ r2 (nd_shaped t.1), t, hl, h1, h2, h3, w _ _ (sca_int _) hg⟩
  · exact hf.elim
end G
namespace G
open PySem PySem.Spec PyProof.Rows L2
variable {C : Cn} {xc : XC C}
theorem vals_ints : ∀ {ns : List Int} {us : List Value}, Vals (ns.map V.int) us → IntsAre us ns
  | [], _, h => by cases h; exact .nil
  | n :: ns, _, h => by
    cases h with
    | cons r t =>
      obtain ⟨k, rfl⟩ := r
      exact .cons n k (vals_ints t)
section
variable {K : PySem.W.Frag} {t : TE} {k : KE}
/-- len(set(..)) of numbers -/
def kLenSet (ke : KE) : KE := fun γ q => ke γ fun γ1 => (datN γ1.sl 1 γ1.tm).elim False fun x => match x.1 with
  | [.list es] => (intsOf es).elim False fun ns => ns.length ≤ 4000 ∧ ∀ out : List Int, out.Nodup → (∀ k, k ∈ out ↔ k ∈ ns) → q ⟨γ1.sl, .fz (.int (out.length : Nat)) :: x.2, γ1.n⟩
  | _ => False
end
section
variable {ta tb : TE} {ka kb : KE}
/-- a list of numbers, so many times -/
def kRepN (ka kb : KE) : KE := fun γ q => ka γ fun γ1 => kb γ1 fun γ2 => match γ2.tm with
  | .fz (.int j) :: s :: tm => (shr γ2.sl s true).elim False fun ds => (intsOf ds).elim False fun ns => (-1000000 ≤ j ∧ j ≤ 1000000 ∧ ns.length ≤ 1) ∧ q ⟨γ2.sl, .ow true (dI (List.replicate j.toNat ns).flatten) :: tm, γ2.n⟩
  | _ => False
theorem flat_map (ns : List Int) : ∀ m : Nat, (List.replicate m (ns.map V.int)).flatten = (List.replicate m ns).flatten.map V.int
  | 0 => rfl
  | m + 1 => by
    rw [List.replicate_succ, List.replicate_succ, List.flatten_cons, List.flatten_cons, List.map_append, flat_map ns m]
theorem so_repN (a : SoE xc ta ka) (b : SoE xc tb kb) : SoE xc (tOp rRep ta tb) (kRepN ka kb) := fun γ Θ σ H Q q R hk w => a γ Θ σ H _ _ R hk fun γ1 v1 H1 hk1 R1 => b γ1 _ σ H1 _ _ R1 hk1 fun γ2 v2 H2 hk2 R2 => by
  obtain ⟨sl, tm, n⟩ := γ2
  dsimp only at hk2
  split at hk2
  · rename_i j s tm
    obtain ⟨ds, e1, hk3⟩ := elimF hk2
    obtain ⟨ns, e2, ⟨h1, h2, h3⟩, hq⟩ := elimF hk3
    obtain rfl := intsOf_eq e2
    obtain ⟨T, r, _⟩ := R2.read (d := .int j) rfl
    cases r
    obtain ⟨a', us, Z, S1, S2, rfl, ha, X, ts⟩ := Rel.shr R2.pop e1
    have eu : us = ns.map V.int := by
      obtain ⟨T', rp, _⟩ := Trs.rep _ _ _ ts
      exact rp.intsInv.2
    subst eu
    refine ⟨a', j, ns.map V.int, rfl, rfl, ha, by omega, by omega, ?_, fun p hp => ?_⟩
    · rw [List.length_map]
      have := Nat.mul_le_mul h3 (show j.toNat ≤ 1000000 by omega)
      have := sizeLine_eq
      omega
    · rw [flat_map]
      exact w _ _ _ hq (Rel.ints ⟨Z, S1, S2, X⟩ hp _)
  · exact hk2.elim
end
end G
namespace G
open PySem PySem.Spec PyProof.Rows L2
variable {C : Cn} {xc : XC C}
def kCallTM (W : Tw) (ix : List Nat) (n : Nat) (ka kb : KE) : KE := fun γ q => ka γ fun γ1 => kb γ1 fun γ2 => (datN γ2.sl n γ2.tm).elim False fun x => W (ix.filterMap fun i => x.1[i]?) fun d => q ⟨γ2.sl, own d :: x.2, γ2.n⟩
end G
namespace G
open PySem PySem.Spec PyProof.Rows L2
variable {C : Cn} {xc : XC C}
section
variable {ka : KE}
def kDivmod (ka : KE) : KE := fun γ q => ka γ fun γ1 => (datN γ1.sl 2 γ1.tm).elim False fun x => match x.1 with
  | [.int i, .int j] => CDiv i j ∧ q ⟨γ1.sl, .fz (.tuple [.int (i / j), .int (i % j)]) :: x.2, γ1.n⟩
  | _ => False
theorem so_divmod {ts : TA} (h : SoA xc 2 ts ka) : SoE xc (tCB (fun xs H Q => ∃ i j, xs = [.int i, .int j] ∧ CDiv i j ∧ ∀ p, H p = none → Q (.ref p) (upd H p (.tup [.int (i / j), .int (i % j)]))) ts) (kDivmod ka) := fun γ Θ σ H Q q R hk w => h γ Θ σ H _ _ R hk fun γ1 vs H1 el hk1 R1 => by
  obtain ⟨⟨ds, rr⟩, e, hf⟩ := elimF hk1
  obtain ⟨R3, T, rp, _⟩ := Rel.pops (Θ := Θ) R1 el e
  dsimp only at hf
  split at hf
  · rename_i i j
    obtain ⟨hc, hq⟩ := hf
    obtain ⟨v, u, T1, T2, rfl, r1, r2⟩ := rp.c2
    cases r1
    cases r2
    refine ⟨i, j, rfl, hc, fun p hp => ?_⟩
    have nw : New H1 (upd H1 p (.tup [.int (i / j), .int (i % j)])) (.ref p) (.tuple [.int (i / j), .int (i % j)]) := ⟨[], .tup upd_same (.cons (S := []) (.int _) (.cons (S := []) (.int _) .nil)), List.nodup_nil, fun _ z => nomatch z⟩
    have R4 := R3.newR (same_upd (o := .tup [.int (i / j), .int (i % j)]) hp) nw
    exact w _ _ _ hq R4
  · exact hf.elim
end
end G
namespace G
open PySem PySem.Spec PyProof.Rows L2 PySem.W
variable {C : Cn} {xc : XC C}
section
variable {K : PySem.W.Frag} {ts tk : TA} {ka kb : KE}
def kMaxDef (ka kb : KE) : KE := fun γ q => ka γ fun γ1 => kb γ1 fun γ2 => (datN γ2.sl 2 γ2.tm).elim False fun x => match x.1 with
  | [.list es, .int i] => (intsOf es).elim False fun ns => (ns = [] → q ⟨γ2.sl, .fz (.int i) :: x.2, γ2.n⟩) ∧ ∀ m, m ∈ ns → (∀ y, y ∈ ns → y ≤ m) → q ⟨γ2.sl, .fz (.int m) :: x.2, γ2.n⟩
  | _ => False
/-- repr([..]) of things that go on to be held -/
def kReprL (n : Nat) (ka : KE) : KE := fun γ q => ka γ fun γ1 => (datN γ1.sl n γ1.tm).elim False fun x => vRepr [.list x.1] fun d => q ⟨γ1.sl, .fz d :: x.2, γ1.n⟩
end
end G
namespace G
open PySem PySem.Spec PyProof.Rows L2
variable {C : Cn} {xc : XC C}
def lcL2 (i j : Nat) (kt : KT) (ke : KE) : List D → VSt → (VSt → Prop) → Prop
  | [], γ, q => q γ
  | .tuple [d1, d2] :: ds, γ, q => (noAl i γ.tm = true ∧ noAl j γ.tm = true) ∧ kt ⟨(γ.sl.set i (.fz d1)).set j (.fz d2), γ.tm, γ.n⟩ fun b γ1 => γ1.tm = γ.tm ∧ if b = true then ke γ1 fun γ2 => match γ2.tm with
      | s :: .ow b0 (.list es) :: tm => (con s).elim False fun c => ((noAl i tm = true ∧ noAl j tm = true) ∧ tm = γ.tm.tail ∧ es.length < 10000000) ∧ lcL2 i j kt ke ds ⟨(γ2.sl.set j .jk).set i .jk, .ow (b0 && c.1) (.list (es ++ [c.2])) :: tm, γ2.n⟩ q
      | _ => False
    else lcL2 i j kt ke ds ⟨(γ1.sl.set j .jk).set i .jk, γ1.tm, γ1.n⟩ q
  | _ :: _, _, _ => False
def kLc2 (ki : KI) (i j : Nat) (kt : KT) (ke : KE) : KE := fun γ q => ki γ fun ds γ1 => (noAl i γ1.tm = true ∧ noAl j γ1.tm = true) ∧ lcL2 i j kt ke ds ⟨(γ1.sl.set j .jk).set i .jk, .ow true (.list []) :: γ1.tm, γ1.n⟩ fun γ2 => match γ2.tm with
  | s :: tm => (okS s = true ∧ tm = γ1.tm) ∧ q ⟨γ2.sl, s :: γ.tm, γ2.n⟩
  | _ => False
end G
namespace G
open PySem PySem.Spec PyProof.Rows L2
variable {C : Cn} {xc : XC C}
def chgS : Sl → List Nat → Option (D × (D → Sl))
  | .ow true (.tuple ds), [k] => (ds[k]?).map fun d => (d, fun e => .ow true (.tuple (ds.set k e)))
  | .ow true (.list ds), [k] => (ds[k]?).map fun d => (d, fun e => .ow true (.list (ds.set k e)))
  | .sh d, [k] => if k < 3 then some (d, fun e => .sh e) else none
  | _, _ => none
section
variable {C : Cn} {Z : Reg} {H : Hp} {T0 : List Addr} {w0 v : V} {s : Sl} {d : D} {g : D → Sl} {π : List Nat}
theorem Ent.uniq {A B : List Addr} (h : Ent C Z H A (some w0) s) (k : Ent C Z H B (some w0) s) (e : chgS s π = some (d, g)) : A = B := by
  cases h with
  | ow t => cases k with
    | ow t' => exact repU _ _ _ _ (Tr.repO _ _ _ t) (Tr.repO _ _ _ t')
  | @sh a u S d0 ha t => cases k with
    | @sh _ u' S' _ ha' t' =>
      rw [ha] at ha'
      cases ha'
      exact repU _ _ _ _ (Tr.repO _ _ _ t) (Tr.repO _ _ _ t')
  | jk _ => cases e
  | fz _ => cases e
  | sp _ _ => cases e
  | al _ _ _ => cases e
  | pu _ => cases e
  | io _ _ => cases e
  | dc _ _ => cases e
  | dt _ _ => cases e
  | xv _ _ => cases e
  | ho _ _ _ => cases e
  | xw _ => cases e
  | ob _ _ _ => cases e
def kCallIA (W : TwI) (n : Nat) (ka : KE) : KE := fun γ q => ka γ fun γ1 => (datN γ1.sl n γ1.tm).elim False fun x => match x.2 with
  | .al i π :: r => (nolists x.1 = true ∧ noAl i r = true) ∧ ((γ1.sl[i]?).bind fun s => chgS s π).elim False fun s => W (s.1 :: x.1) fun d e => q ⟨γ1.sl.set i (s.2 e), own d :: r, γ1.n⟩
  | _ => False
end
def itL : Sl → Option (List Sl)
  | .fz (.list ds) => some (ds.map .fz)
  | .ow true (.list ds) => some (ds.map own)
  | _ => none
def kgUnl (n : Nat) (a : KG) : KG := fun γ q => match γ.tm with
  | s :: tm => (itL s).elim False fun ss => ss.length = n ∧ a ⟨γ.sl, ss ++ tm, γ.n⟩ q
  | _ => False
/-- a, b = thrice(purse, frozen, owned) -/
def kThr (ka : KE) (i j : Nat) : KS := fun γ e => ka γ fun γ1 => match γ1.tm with
  | .ow true (.tuple gs) :: .fz (.tuple ts) :: .pu :: r => (1 ≤ γ1.n ∧ ts.length = 3 ∧ gs.length = 3 ∧ i ≠ j ∧ noAl i r = true ∧ noAl j r = true) ∧
      e.nx ⟨(γ1.sl.set i (.fz (.tuple ts))).set j (.ow true (.tuple gs)), r, γ1.n - 1⟩ ∧
      e.nx ⟨(γ1.sl.set i (.fz (.tuple [ts.getD 1 .none, ts.getD 1 .none, ts.getD 1 .none]))).set j (.sh (gs.getD 1 .none)), r, γ1.n - 1⟩
  | _ => False
/-- what is made is frozen -/
def kFz (ke : KE) : KE := fun γ q => ke γ fun γ1 => match γ1.tm with
  | .fz d :: r => q ⟨γ1.sl, .fz d :: r, γ1.n⟩
  | .ow _ d :: r => q ⟨γ1.sl, .fz d :: r, γ1.n⟩
  | _ => False
def kCallW (ka : KE) : KE := fun γ q => ka γ fun γ1 => match γ1.tm with
  | .fz d2 :: .fz (.tuple [.int n, .list es]) :: r => (intsOf es).elim False fun gs => (n ≤ 6 ∧ gs.length ≤ 8 → q ⟨γ1.sl, .fz (dE (n, gs)) :: r, γ1.n⟩) ∧ (¬ (n ≤ 6 ∧ gs.length ≤ 8) → q ⟨γ1.sl, .fz d2 :: r, γ1.n⟩)
  | _ => False
theorem datS_sh {d : D} : datS (.sh d) = some (.tuple [d, d, d]) := rfl
theorem chg_sh {d : D} {k : Nat} : chgS (.sh d) [k] = if k < 3 then some (d, fun e => .sh e) else none := rfl
theorem chg_tup {ds : List D} {k : Nat} : chgS (.ow true (.tuple ds)) [k] = (ds[k]?).map fun d => (d, fun e => .ow true (.tuple (ds.set k e))) := rfl
theorem chg_lst {ds : List D} {k : Nat} : chgS (.ow true (.list ds)) [k] = (ds[k]?).map fun d => (d, fun e => .ow true (.list (ds.set k e))) := rfl
end G
namespace G
open PySem PySem.Spec PyProof.Rows L2
end G
namespace G
open PySem PySem.Spec PyProof.Rows L2
variable {C : Cn} {xc : XC C}
def vLenS : List D → (D → Prop) → Prop := fun ds q => match ds with
  | [.str z] => z.length ≤ 10000000 ∧ q (.int z.length)
  | _ => False
def vCatS : D → D → (D → Prop) → Prop := fun d1 d2 q => match d1, d2 with
  | .str a, .str b => a.length + b.length ≤ 10000000 ∧ q (.str (a ++ b))
  | _, _ => False
/-- texts out of data -/
def strsOf : List D → Option (List Str)
  | [] => some []
  | .str s :: ds => (strsOf ds).bind fun r => some (s :: r)
  | _ :: _ => none
theorem strsOf_map (ss : List Str) : strsOf (ss.map PyData.str) = some ss := by
  induction ss with
  | nil => rfl
  | cons n ns ih => simp [strsOf, ih]
/-- a.join(a list of texts) -/
def kJoin (a : Str) (ke : KE) : KE := fun γ q => ke γ fun γ1 => (datN γ1.sl 1 γ1.tm).elim False fun x => match x.1 with
  | [.list ds] => (strsOf ds).elim False fun ys => (ys.map (·.length)).sum + ys.length * a.length ≤ 16777216 ∧ q ⟨γ1.sl, .fz (.str (Txt.join a ys)) :: x.2, γ1.n⟩
  | _ => False
end G
namespace G
open PySem PySem.Spec PyProof.Rows L2
theorem FnG.imp {P : Program} {w : World} {K : PySem.W.Frag} {mg : Str → Option Value} {base : Heap} {CX : CXT} {k : Nat} {f : Addr} {fd : FuncData} {ps : List Str} {sp sp' : Sp} (F : FnG P w K mg base CX k f fd ps sp) (h : ∀ vs H Q E, sp' vs H Q E → sp vs H Q E) : FnG P w K mg base CX k f fd ps sp' :=
  ⟨fun vs H Q E q => F.len vs H Q E (h _ _ _ _ q), fun A o s H args us vs Q E hg hr e0 bt r q => F.run A o s H args us vs Q E hg hr e0 bt r (h _ _ _ _ q)⟩
end G
namespace G
open PySem PySem.Spec PyProof.Rows L2
variable {C : Cn} {xc : XC C}
section
variable {Z : Reg} {S1 S2 : List Addr} {Θ : List V} {σ : L2.St} {H H' : Hp} {sl tm : List Sl} {n n' : Int} {v : V} {s : Sl} {d : D} {i : Nat}
/-- the heap grows: the same regions -/
theorem RelX.heapX (h0 : RelX C Z S1 S2 ⟨sl, tm, n⟩ Θ σ H) (k : ∀ a o, H a = some o → (∀ p b, C.pu = some (p, b) → a ≠ p) → H' a = some o) (kp : ∀ p b, C.pu = some (p, b) → PuAt H' p (b - n')) : RelX C Z S1 S2 ⟨sl, tm, n'⟩ Θ σ H' := by
  have kt : ∀ t vs, H t = some (.tup vs) → H' t = some (.tup vs) := fun t vs e => k t _ e fun p b q z => by
    subst z
    obtain ⟨x, y, z, e2, _⟩ := (h0.pu t b q).1
    rw [e] at e2
    cases e2
  have kz0 : ∀ a, C.tz Z a → ∀ o, H a = some o → H' a = some o := fun a z o e => k a o e fun p b q y => (h0.pu p b q).2.1 (y ▸ z)
  have kz : ∀ a, Z a → ∀ o, H a = some o → H' a = some o := fun a z => kz0 a (.inl z)
  have ks : ∀ a ∈ S1 ++ S2, ∀ o, H a = some o → H' a = some o := fun a m o e => k a o e fun p b q y => (h0.pu p b q).2.2 (y ▸ m)
  exact ⟨fun a o e m => ⟨(h0.fr a o e m).1, kz0 a (h0.fr a o e m).1 o (h0.fr a o e m).2⟩, h0.es.mono kt (fun _ z => z) kz fun a m => ks a (List.mem_append_left _ m), h0.et.mono kt (fun _ z => z) kz fun a m => ks a (List.mem_append_right _ m), h0.nd, h0.nz, fun p b q => ⟨kp p b q, (h0.pu p b q).2⟩, fun a z => by
      obtain ⟨o, e⟩ := h0.ex a z
      exact ⟨o, kz0 a z o e⟩, h0.dj, fun j i π v e ev => by
      obtain ⟨s, d', e', w, e1, e2, e3, e4, wk⟩ := h0.al j i π v e ev
      obtain ⟨w', T', ew, t, sub⟩ := h0.slot e1 e2
      rw [e4] at ew
      cases ew
      exact ⟨s, d', e', w, e1, e2, e3, e4, (Tr.part t e3 wk).2 H' kt fun a z => z.elim (kz a) fun m => ks a (List.mem_append_left _ (sub a m))⟩⟩
theorem RelX.sameX (h0 : RelX C Z S1 S2 ⟨sl, tm, n⟩ Θ σ H) (k : Same H H') : RelX C Z S1 S2 ⟨sl, tm, n⟩ Θ σ H' :=
  h0.heapX (fun a o e _ => k a o e) fun p b q => (h0.pu p b q).1.mono (k p)
/-- what is new lies nowhere -/
theorem RelX.fresh (h0 : RelX C Z S1 S2 ⟨sl, tm, n⟩ Θ σ H) {a : Addr} (e : H a = none) : a ∉ S1 ++ S2 ∧ ¬ C.tz Z a ∧ ∀ p b, C.pu = some (p, b) → a ≠ p := by
  refine ⟨fun z => ?_, fun z => ?_, fun p b q z => ?_⟩
  · rcases List.mem_append.mp z with z | z
    · obtain ⟨xs, e1⟩ := h0.es.dom a z
      rw [e] at e1
      cases e1
    · obtain ⟨xs, e1⟩ := h0.et.dom a z
      rw [e] at e1
      cases e1
  · obtain ⟨o, e1⟩ := h0.ex a z
    rw [e] at e1
    cases e1
  · obtain ⟨x, y, w, e1, _⟩ := (h0.pu p b q).1
    rw [← z, e] at e1
    cases e1
end
abbrev TwX := List D → (D → Prop) → (Addr → D → Prop) → Prop
abbrev XH := Addr → D → VSt → Prop
section
variable {ts : TA} {ka : KE} {n : Nat} {W : Tw} {WX : TwX} {X : List D → Addr → D → Prop} {ix : List Nat}
/-- any arguments -/
def kCallX (x : XH) (W : TwX) (n : Nat) (ka : KE) : KE := fun γ q => ka γ fun γ1 => (datN γ1.sl n γ1.tm).elim False fun y => W y.1 (fun d => q ⟨γ1.sl, own d :: y.2, γ1.n⟩) fun c d => x c d ⟨γ1.sl, y.2, γ1.n⟩
def kCallXK (x : XH) (W : TwX) (ix : List Nat) (n : Nat) (ka : KE) : KE := fun γ q => ka γ fun γ1 => (datN γ1.sl n γ1.tm).elim False fun y => W (ix.filterMap fun i => y.1[i]?) (fun d => q ⟨γ1.sl, own d :: y.2, γ1.n⟩) fun c d => x c d ⟨γ1.sl, y.2, γ1.n⟩
def kRaise (x : XH) (c : Addr) (ka : KE) : KS := fun γ _ => ka γ fun γ1 => match γ1.tm with
  | .ow true d :: tm => nolist d = false ∧ x c d ⟨γ1.sl, tm, γ1.n⟩
  | .fz d :: tm => nolist d = true ∧ x c d ⟨γ1.sl, tm, γ1.n⟩
  | _ => False
end
def hdE (i : Nat) (e : KEd) : KEd := ⟨fun γ => noAl i γ.tm = true ∧ e.nx ⟨γ.sl.set i .jk, γ.tm, γ.n⟩, e.rt, fun γ => noAl i γ.tm = true ∧ e.bk ⟨γ.sl.set i .jk, γ.tm, γ.n⟩, fun γ => noAl i γ.tm = true ∧ e.ct ⟨γ.sl.set i .jk, γ.tm, γ.n⟩⟩
def hdX (K : PySem.W.Frag) (i : Nat) (e : KEd) : List (Value × (Addr → Addr → Addr → KS)) → XH
  | [] => fun _ _ _ => False
  | (c, h) :: r => fun cls d γ => ∃ b, PySem.W.exmOne K (.ref cls) c = some b ∧ (b = true → noAl i γ.tm = true ∧ ∀ a dd, h a cls dd ⟨γ.sl.set i (.xv a dd d), [], γ.n⟩ (hdE i e)) ∧ (b = false → hdX K i e r cls d γ)
def kTry (K : PySem.W.Frag) (i : Nat) (kb : XH → KS) (hs : List (Value × (Addr → Addr → Addr → KS))) : KS := fun γ e => γ.tm = [] ∧ kb (hdX K i e hs) γ e
/-- e.value in a clause: taken out -/
def kXval (c a dd : Addr) (cls : Addr) (i : Nat) : KE := fun γ q => cls = c ∧ noAl i γ.tm = true ∧ match γ.sl[i]? with
  | some (.xv a' dd' d) => (a' = a ∧ dd' = dd) ∧ q ⟨γ.sl.set i (.xw a dd), own d :: γ.tm, γ.n⟩
  | _ => False
end G
namespace G
open PySem PySem.Spec PyProof.Rows L2
variable {C : Cn} {xc : XC C}
section
variable {t ta tb : TE} {ko ka kb : KE}
def kIns (ko ki ke : KE) : KE := fun γ q => ko γ fun γ1 => isLst γ1 ∧ ki γ1 fun γ2 => ke γ2 fun γ3 => match γ3.tm with
  | .fz (.int y) :: .fz (.int k) :: .al i π :: tm => noAl i tm = true ∧ wrL γ3.sl i π fun b d es => ((b = true ∨ π = []) ∧ ioOk γ3.sl i b) ∧ (nolists es = true ∧ es.length < 10000000 ∧ 0 ≤ k ∧ k < 10000000) ∧ q ⟨putS γ3.sl i b (setP d π (.list (es.take k.toNat ++ [.int y] ++ es.drop k.toNat))), .fz .none :: tm, γ3.n⟩
  | _ => False
end
end G
namespace PySem
open Sem (wp)
open AutoSeq1 (wpAny_loadPart')
open PySem.W (KdxIt kdx_alive)
section
variable {prog : Program} {w : World} {A : Around} {E : Value → Shared → Prop} {s : Shared}
/-- a zip, whatever became of the tuple that it gave out -/
def ZipAny (h : Heap) (z TI TO : Addr) : Prop := IsZip h z TI TO .none ∨ ∃ (T : Addr) (f : Bool), IsZipHeld h z TI TO T f
theorem ZipAny.at {h h' : Heap} {z TI TO : Addr} (x : ZipAny h z TI TO) (k : ∀ o, h.get? z = some o → h'.get? z = some o) : ZipAny h' z TI TO := by
  rcases x with x | ⟨T, f, x⟩
  · exact .inl (k _ x)
  · exact .inr ⟨T, f, k _ x⟩
end
end PySem
namespace L2
open PySem PySem.Spec PyProof.Rows
end L2
namespace G
open PySem PySem.Spec PyProof.Rows L2
variable {C : Cn} {xc : XC C}
section
variable {K : PySem.W.Frag} {ta tb : TE} {ka kb : KE}
def kEz (ka kb : KE) : KI := fun γ q => kZip ka kb γ fun ds γ1 => q (enumD 0 ds) γ1
end
end G
namespace G
open PySem PySem.Spec PyProof.Rows L2
variable {C : Cn} {xc : XC C}
section
variable {X : Cx}
def rSumT (K : PySem.W.Frag) : List V → Hp → VK → Prop := fun vs H Q => ∃ (a : Addr) (ns : List Int), vs = [V.ref a] ∧ SqT K H a (ns.map V.int) ∧ Q (.int ns.sum) H
theorem cr_sumT (hc : X.calm = true) : CallR X (.builtin "sum") (rSumT X.K) := by
  intro pins s σ H vs us Q I r h
  obtain ⟨a, ns, rfl, hs, q⟩ := h
  obtain ⟨its, rv, hl, _⟩ := I.tuple hs
  rw [Vals.ref1 r]
  obtain ⟨xs, e⟩ := rv.ints.allInts.items
  have hn : numsOf (intItems xs).toList = ns := by rw [← e]; exact rv.ints.numsOf
  rw [nums_intItems] at hn
  have ht : s.heap.IsTuple a (intItems xs) := by rw [← e]; exact hl
  refine PySem.W.ktm_sumG (I.ok.hd hc) ht fun h' tk t' hk => ?_
  rw [preSum_eq, List.take_of_length_le (by simp), hn]
  exact ⟨.int _, H, I.kept hk, ⟨_, rfl⟩, q⟩
end
def vSumT : List D → (D → Prop) → Prop := fun ds q => match ds with
  | [.tuple es] => (intsOf es).elim False fun ns => q (.int ns.sum)
  | _ => False
theorem sc_sumT {K : PySem.W.Frag} : SoC 1 (rSumT K) vSumT := fun H vs T ds Q q r el hf w => by
  unfold vSumT at hf
  split at hf
  · obtain ⟨bs, e, hg⟩ := elimF hf
    obtain rfl := intsOf_eq e
    obtain ⟨v, T1, rfl, r1⟩ := r.c1
    cases r1 with
    | tup e rs =>
      rw [rs.intsInv.2] at e
      exact ⟨_, bs, rfl, SqT.of e, w _ _ (sca_int _) hg⟩
  · exact hf.elim
end G
namespace G
open PySem PySem.Spec PyProof.Rows L2
variable {C : Cn} {xc : XC C}
/-- tuple(xs) of a name whose list stays its own -/
def kTupV (i : Nat) : KE := fun γ q => match γ.sl[i]? with
  | some (.ow false (.list ds)) => q ⟨γ.sl, .fz (.tuple ds) :: γ.tm, γ.n⟩
  | _ => False
end G
namespace G
open PySem PySem.Spec PyProof.Rows L2
def vMaxL : List D → (D → Prop) → Prop := fun ds q => match ds with
  | [.list es] => (intsOf es).elim False fun ns => 0 < ns.length ∧ ∀ m, m ∈ ns → (∀ y, y ∈ ns → y ≤ m) → q (.int m)
  | _ => False
end G
namespace G
open PySem PySem.Spec PyProof.Rows L2
variable {C : Cn} {xc : XC C}
section
variable {K : PySem.W.Frag}
/-- xs[k] of names: the item goes out of the list -/
def kIxTake (r k : Nat) : KE := fun γ q => match γ.sl[r]?, γ.sl[k]? with
  | some (.ow true (.list ds)), some (.fz (.int i)) => (noAl r γ.tm = true ∧ 0 ≤ i ∧ i < ds.length) ∧ (ds[i.toNat]?).elim False fun d => q ⟨γ.sl.set r (.ho ds i.toNat), own d :: γ.tm, γ.n⟩
  | _, _ => False
/-- xs[k] = e of names: the place that was left is filled -/
def kgFill (r k : Nat) : KG := fun γ q => match γ.tm, γ.sl[r]?, γ.sl[k]? with
  | s :: tm, some (.ho ds i), some (.fz (.int j)) => (con s).elim False fun c => (c.1 = true ∧ noAl r (s :: tm) = true ∧ j = (i : Int) ∧ i < ds.length) ∧ q ⟨γ.sl.set r (.ow true (.list (ds.set i c.2))), tm, γ.n⟩
  | _, _, _ => False
/-- list(t) of a whole tuple that is given away -/
def kListMv (ka : KE) : KE := fun γ q => ka γ fun γ1 => match γ1.tm with
  | .ow true (.tuple ds) :: tm => q ⟨γ1.sl, .ow true (.list ds) :: tm, γ1.n⟩
  | _ => False
end
end G
namespace G
open PySem PySem.Spec PyProof.Rows L2
section
variable {C : Cn} {Z : Reg} {S1 S2 A : List Addr} {γ : VSt} {Θ : List V} {σ : L2.St} {H H' : Hp} {sl tm : List Sl} {n n' : Int} {v : V} {s : Sl} {d : D} {i : Nat}
/-- a temp that may be frozen -/
def fzD : Sl → Option D
  | .fz d => some d
  | .ow _ d => some d
  | _ => none
def fzA : Nat → List Sl → Option (List D × List Sl)
  | 0, tm => some ([], tm)
  | _ + 1, [] => none
  | n + 1, s :: tm => (fzD s).bind fun d => (fzA n tm).bind fun x => some (x.1 ++ [d], x.2)
end
section
variable {C : Cn} {xc : XC C} {k n : Nat} {ka kb : KE}
def kCallS (W : Tw) (n : Nat) (ka : KE) : KE := fun γ q => ka γ fun γ1 => (fzA n γ1.tm).elim False fun x => W x.1 fun d => q ⟨γ1.sl, .fz d :: x.2, γ1.n⟩
def kCallSK (W : Tw) (ix : List Nat) (n : Nat) (ka : KE) : KE := fun γ q => ka γ fun γ1 => (fzA n γ1.tm).elim False fun x => W (ix.filterMap fun i => x.1[i]?) fun d => q ⟨γ1.sl, .fz d :: x.2, γ1.n⟩
def kCallPS (c : Int) (W : Tw) (n : Nat) (ka : KE) : KE := fun γ q => ka γ fun γ1 => (fzA n γ1.tm).elim False fun x => match x.2 with
  | .pu :: r => (0 ≤ c ∧ c ≤ γ1.n) ∧ W x.1 fun d => q ⟨γ1.sl, .fz d :: r, γ1.n - c⟩
  | _ => False
end
/-- the end of a def whose result may share -/
def rtS (G : D → Prop) : Sl → Prop
  | .fz d => G d
  | .ow _ d => G d
  | _ => False
end G
namespace PySem
open Sem (wp)
end PySem
namespace G
open PySem PySem.Spec PyProof.Rows L2
def v4I (g : Int → Int → Int → Int → Int) : List D → (D → Prop) → Prop := fun ds q => match ds with
  | [.int i, .int j, .int k, .int l] => q (.int (g i j k l))
  | _ => False
end G
namespace G
open PySem PySem.Spec PyProof.Rows L2
section
variable {P : Program} {w : World} {H : Hp} {h : Heap}
mutual
/-- a tree reads as its data -/
theorem Rep.reads (ok : HOk P w H h) : ∀ (d : D) (S : List Addr) (v : V) (u : Value), Rep H S v d → RelV v u → d.hasDict = false → ∃ as, Reads h u d as
  | .none, _, _, _, r, q, _ => by cases r; cases q; exact ⟨_, .none⟩
  | .bool b, _, _, _, r, q, _ => by cases r; cases q; exact ⟨_, .bool b⟩
  | .int i, _, _, _, r, q, _ => by cases r; obtain ⟨t, rfl⟩ := q; exact ⟨_, .int i t⟩
  | .str x, _, _, _, r, q, _ => by cases r; obtain ⟨t, rfl⟩ := q; exact ⟨_, .str x t⟩
  | .list ds, _, _, _, r, q, nd => by
    cases r with
    | lst e rs =>
      cases q
      obtain ⟨z, its, n, rv, ho⟩ := ok _ _ e
      obtain ⟨as, ra⟩ := Reps.readsA ok ds _ _ its rs rv (by simpa [PyData.hasDict] using nd)
      exact ⟨_, .list ho rfl rfl ra⟩
  | .tuple ds, _, _, _, r, q, nd => by
    cases r with
    | tup e rs =>
      cases q
      obtain ⟨z, its, rv, ob, ho, hc, n, hd⟩ := ok _ _ e
      obtain ⟨as, ra⟩ := Reps.readsA ok ds _ _ its rs rv (by simpa [PyData.hasDict] using nd)
      exact ⟨_, .tuple ho hc hd ra⟩
  | .dict _, _, _, _, _, _, nd => by simp [PyData.hasDict] at nd
theorem Reps.readsA (ok : HOk P w H h) : ∀ (ds : List D) (S : List Addr) (vs : List V) (us : List Value), Reps H S vs ds → Vals vs us → PyData.hasDictAll ds = false → ∃ as, ReadsAll h us ds as
  | [], _, _, _, r, q, _ => by cases r; cases q; exact ⟨_, .nil⟩
  | d :: ds, _, _, _, r, q, nd => by
    have nd' : d.hasDict = false ∧ PyData.hasDictAll ds = false := by simpa [PyData.hasDictAll] using nd
    cases r with
    | cons r1 r2 =>
      cases q with
      | cons q1 q2 =>
        obtain ⟨as, h1⟩ := Rep.reads ok d _ _ _ r1 q1 nd'.1
        obtain ⟨bs, h2⟩ := Reps.readsA ok ds _ _ _ r2 q2 nd'.2
        exact ⟨_, .cons h1 h2⟩
end
end
/-- what may be sorted -/
structure SortOk (ds : List D) : Prop where
  len : ds.length ≤ 10000000
  al : PySem.W.AllAlike ds
  so : PySem.W.Sortable ds
  dp : ∀ d ∈ ds, d.depth ≤ 50
def sortD (ds : List D) : List D := ds.mergeSort (PySem.W.dataLe false id)
section
variable {C : Cn} {xc : XC C} {K : PySem.W.Frag} {ts : TA} {ka kb : KE} {n : Nat}
def kSortD (ka : KE) : KE := fun γ q => ka γ fun γ1 => match γ1.tm with
  | s :: tm => (shr γ1.sl s true).elim False fun ds => SortOk ds ∧ q ⟨γ1.sl, newL (sortD ds) :: tm, γ1.n⟩
  | [] => False
/-- a comprehension by an invariant, items frozen or owned -/
theorem lc_invB {j : Nat} {kt : KT} {ke : KE} {β : Type} {q : VSt → Prop} {sl T : List Sl} (l : List β) (f : β → D) (P : List β → List D → Int → Prop) (hj : (sl.set j .jk) = sl) (na : noAl j T = true)
    (len : ∀ pre acc n, P pre acc n → acc.length < 10000000)
    (step : ∀ b pre x post acc n (Y X : VSt → Prop), l = pre ++ x :: post → P pre acc n → (∀ s c cd n', con s = some (c, cd) → P (pre ++ [x]) (acc ++ [cd]) n' → Y ⟨sl.set j (.fz (f x)), s :: .ow b (.list acc) :: T, n'⟩) → (∀ n', P (pre ++ [x]) acc n' → X ⟨sl.set j (.fz (f x)), .ow b (.list acc) :: T, n'⟩) →
      kt ⟨sl.set j (.fz (f x)), .ow b (.list acc) :: T, n⟩ fun c γ1 => γ1.tm = .ow b (.list acc) :: T ∧ if c = true then ke γ1 Y else X γ1)
    (fin : ∀ b acc n, P l acc n → q ⟨sl, .ow b (.list acc) :: T, n⟩) : ∀ b acc n, P [] acc n → lcL j kt ke (l.map f) ⟨sl, .ow b (.list acc) :: T, n⟩ q := by
  have main : ∀ (post pre : List β) (b : Bool) (acc : List D) (n : Int), l = pre ++ post → P pre acc n → lcL j kt ke (post.map f) ⟨sl, .ow b (.list acc) :: T, n⟩ q := by
    intro post
    induction post with
    | nil =>
      intro pre b acc n hl hp
      rw [List.append_nil] at hl
      subst hl
      exact fin b acc n hp
    | cons x post ih =>
      intro pre b acc n hl hp
      have hjj : (sl.set j (.fz (f x))).set j .jk = sl := by rw [List.set_set]; exact hj
      refine ⟨noAl_cons na rfl, step b pre x post acc n _ _ hl hp (fun s c cd n' hc hP => ?_) (fun n' hP => ?_)⟩
      · show (con s).elim False _
        rw [hc]
        refine ⟨⟨na, rfl, len _ _ _ hp⟩, ?_⟩
        dsimp only
        rw [hjj]
        exact ih (pre ++ [x]) _ _ n' (by rw [hl]; simp) hP
      · dsimp only
        rw [hjj]
        exact ih (pre ++ [x]) b _ n' (by rw [hl]; simp) hP
  exact fun b acc n h => main l [] b acc n rfl h
/-- what is given an owned tree, and tells True -/
def kCallE (ka : KE) : KE := fun γ q => ka γ fun γ1 => match γ1.tm with
  | .ow true d :: tm => Sh 20 5000000 d ∧ nl d ≤ 40000 ∧ q ⟨γ1.sl, .fz (.bool true) :: tm, γ1.n⟩
  | .fz d :: tm => nolist d = true ∧ Sh 20 5000000 d ∧ nl d ≤ 40000 ∧ q ⟨γ1.sl, .fz (.bool true) :: tm, γ1.n⟩
  | _ => False
end
end G
namespace G
open PySem PySem.Spec PyProof.Rows L2
section
variable {K : PySem.W.Frag} {C : Cn} {xc : XC C}
/-- xs[c] of a name whose spine is owned: a frozen item -/
def kIxF (r : Nat) (c : Int) : KE := fun γ q => match γ.sl[r]? with
  | some (.ow false (.list ds)) => ixD ds c fun _ d => q ⟨γ.sl, .fz d :: γ.tm, γ.n⟩
  | _ => False
/-- o[-1] = e -/
def kgSubN (ko ki : KE) : KG := fun γ q => ko γ fun γ1 => ki γ1 fun γ2 => match γ2.tm with
  | .fz (.int kk) :: .al i π :: s :: tm => (con s).elim False fun c => noAl i tm = true ∧ wrL γ2.sl i π fun b d es => (((b && c.1) = true ∨ π = []) ∧ ioOk γ2.sl i (b && c.1)) ∧ (kk < 0 ∧ 0 ≤ kk + es.length) ∧ q ⟨putS γ2.sl i (b && c.1) (setP d π (.list (es.set (kk + es.length).toNat c.2))), tm, γ2.n⟩
  | _ => False
/-- a list of ints, some times -/
def kRepM (ka kb : KE) : KE := fun γ q => ka γ fun γ1 => kb γ1 fun γ2 => match γ2.tm with
  | .fz (.int j) :: s :: tm => (shr γ2.sl s true).elim False fun ds => (intsOf ds).elim False fun ns => (-1000000 ≤ j ∧ j ≤ 1000 ∧ ns.length ≤ 1000) ∧ q ⟨γ2.sl, .ow true (dI (List.replicate j.toNat ns).flatten) :: tm, γ2.n⟩
  | _ => False
theorem so_repM {ta tb : TE} {ka kb : KE} (a : SoE xc ta ka) (b : SoE xc tb kb) : SoE xc (tOp rRep ta tb) (kRepM ka kb) := fun γ Θ σ H Q q R hk w => a γ Θ σ H _ _ R hk fun γ1 v1 H1 hk1 R1 => b γ1 _ σ H1 _ _ R1 hk1 fun γ2 v2 H2 hk2 R2 => by
  obtain ⟨sl, tm, n⟩ := γ2
  dsimp only at hk2
  split at hk2
  · rename_i j s tm
    obtain ⟨ds, e1, hk3⟩ := elimF hk2
    obtain ⟨ns, e2, ⟨h1, h2, h3⟩, hq⟩ := elimF hk3
    obtain rfl := intsOf_eq e2
    obtain ⟨T, r, _⟩ := R2.read (d := .int j) rfl
    cases r
    obtain ⟨a', us, Z, S1, S2, rfl, ha, X, ts⟩ := Rel.shr R2.pop e1
    have eu : us = ns.map V.int := by
      obtain ⟨T', rp, _⟩ := Trs.rep _ _ _ ts
      exact rp.intsInv.2
    subst eu
    refine ⟨a', j, ns.map V.int, rfl, rfl, ha, by omega, by omega, ?_, fun p hp => ?_⟩
    · rw [List.length_map]
      have := Nat.mul_le_mul h3 (show j.toNat ≤ 1000 by omega)
      have := sizeLine_eq
      omega
    · rw [flat_map]
      exact w _ _ _ hq (Rel.ints ⟨Z, S1, S2, X⟩ hp _)
  · exact hk2.elim
end
end G
namespace G
open PySem PySem.Spec PyProof.Rows L2
end G
namespace G
open PySem PySem.Spec PyProof.Rows L2
variable {C : Cn} {xc : XC C}
theorem Trs.rev {H : Hp} {Z : Reg} : ∀ {ds : List D} {S : List Addr} {vs : List V}, Trs H Z S vs ds → ∃ S', S'.Perm S ∧ Trs H Z S' vs.reverse ds.reverse
  | [], _, _, h => by
    cases h
    exact ⟨_, .refl _, .nil⟩
  | d :: ds, _, _, h => by
    cases h with
    | @cons A B _ _ _ _ h1 h2 =>
      obtain ⟨S', p, q⟩ := Trs.rev h2
      have := Trs.append q (.cons h1 .nil)
      rw [List.append_nil] at this
      rw [List.reverse_cons, List.reverse_cons]
      exact ⟨_, List.perm_append_comm.trans (List.Perm.append_left A p), this⟩
section
variable {t : TE} {ko : KE}
def kClear (ko : KE) : KE := fun γ q => ko γ fun γ1 => isLst γ1 ∧ match γ1.tm with
  | .al i π :: tm => noAl i tm = true ∧ wrL γ1.sl i π fun b d _ => ((b = true ∨ π = []) ∧ ioOk γ1.sl i b) ∧ q ⟨putS γ1.sl i b (setP d π (.list [])), .fz .none :: tm, γ1.n⟩
  | _ => False
def kReverse (ko : KE) : KE := fun γ q => ko γ fun γ1 => isLst γ1 ∧ match γ1.tm with
  | .al i π :: tm => noAl i tm = true ∧ wrL γ1.sl i π fun b d es => ((b = true ∨ π = []) ∧ ioOk γ1.sl i b) ∧ q ⟨putS γ1.sl i b (setP d π (.list es.reverse)), .fz .none :: tm, γ1.n⟩
  | _ => False
end
end G
namespace G
open PySem PySem.Spec PyProof.Rows L2
variable {C : Cn} {xc : XC C}
section
variable {K : PySem.W.Frag} {ka : KE} {ta : TE}
def kSlT (ka : KE) (lo hi : KO) : KE := fun γ q => ka γ fun γ1 => lo γ1 fun a γ2 => hi γ2 fun b γ3 => match γ3.tm with
  | s :: tm => (shr γ3.sl s false).elim False fun ds => ¬ (HT.sIx ds.length 0 a = 0 ∧ HT.sIx ds.length ds.length b = ds.length) ∧ q ⟨γ3.sl, .fz (.tuple (cutD ds a b)) :: tm, γ3.n⟩
  | _ => False
end
end G
namespace G
open PySem PySem.Spec PyProof.Rows L2
/-- an instance as a tree -/
abbrev objD (C : Addr) (ns : List Str) (ds : List D) : D := .dict [(.tuple (.int C :: ns.map PyData.str), .list ds)]
variable {C : Cn} {xc : XC C}
section
variable {Z : Reg} {S1 S2 : List Addr} {γ : VSt} {Θ : List V} {σ : L2.St} {H H' : Hp} {sl tm : List Sl} {n n' : Int} {v : V} {s : Sl} {d : D} {i : Nat}
theorem Bx.obj {a C0 : Addr} {ns : List Str} {vs : List V} (h : Bx H a (.tuple (.int C0 :: ns.map PyData.str)) vs) : ∃ dx, H a = some (.ins C0 dx (ns.zip vs)) ∧ ns.length = vs.length := by
  generalize ht : PyData.tuple (.int C0 :: ns.map PyData.str) = t at h
  cases h with
  | @ins C1 dx ms _ e l =>
    simp only [PyData.tuple.injEq, List.cons.injEq, PyData.int.injEq] at ht
    obtain ⟨h1, h2⟩ := ht
    have h3 : C0 = C1 := Int.ofNat_inj.mp h1
    have h4 : ∀ {a b : List Str}, a.map PyData.str = b.map PyData.str → a = b := fun {a b} h => (List.map_inj_right fun x y z => by injection z).mp h
    have := h4 h2
    subst this h3
    exact ⟨dx, e, l⟩
  | dK _ _ => cases ht
end
/-- an instance of the class -/
def isC (C0 : Addr) : D → Bool
  | .dict [(.tuple (.int c :: _), .list _)] => decide (c = (C0 : Int))
  | _ => false
def isStr (f : Str) : D → Bool
  | .str g => g == f
  | _ => false
/-- which of its fields has the name, and what stands there -/
def fldD (f : Str) : D → Option (Nat × D)
  | .dict [(.tuple (_ :: ns), .list ds)] => (ns.findIdx? (isStr f)).bind fun k => (ds[k]?).map fun d => (k, d)
  | _ => none
def noFld (f : Str) : D → Bool
  | .dict [(.tuple (_ :: ns), .list _)] => (ns.findIdx? (isStr f)).isNone
  | _ => false
def notOw : Sl → Bool
  | .ow _ _ => false
  | _ => true
theorem findIdx_str (f : Str) : ∀ ns : List Str, (ns.map PyData.str).findIdx? (isStr f) = ns.idxOf? f
  | [] => rfl
  | n :: ns => by
    rw [List.map_cons, List.findIdx?_cons, List.idxOf?_cons, findIdx_str f ns]
    rfl
theorem isC_of {C0 : Addr} {H : Hp} {a : Addr} {t : D} {vs : List V} {ds : List D} (b : Bx H a t vs) (h : isC C0 (.dict [(t, .list ds)]) = true) : ∃ ns : List Str, t = .tuple (.int C0 :: ns.map PyData.str) := by
  cases b with
  | @ins C1 dx ns vs e l =>
    have := of_decide_eq_true h
    have e1 : C1 = C0 := Int.ofNat_inj.mp this
    subst e1
    exact ⟨ns, rfl⟩
  | dK e l => exact nomatch h
/-- e.f -/
def kFld (C0 : Addr) (f : Str) (ke : KE) : KE := fun γ q => ke γ fun γ1 => match γ1.tm with
  | s :: tm => (look γ1.sl s).elim False fun d => if isC C0 d && notOw s then (fldD f d).elim False fun kd => q ⟨γ1.sl, subS s kd.1 kd.2 :: tm, γ1.n⟩ else False
  | [] => False
section
variable {t ta : TE} {ke ko ka : KE} {K : PySem.W.Frag} {C0 : Addr} {f m : Str} {n : Nat} {ts : TA} {W : Tw}
/-- an instance of the class stands on the stack, without a field of the name -/
def isOb (C0 : Addr) (m : Str) (γ : VSt) : Prop := match γ.tm with
  | s :: _ => (look γ.sl s).elim False fun d => (isC C0 d && noFld m d) = true
  | [] => False
/-- o.m(..), a def that changes nothing -/
def kMeth (C0 : Addr) (m : Str) (W : Tw) (n : Nat) (ko ka : KE) : KE := fun γ q => ko γ fun γ1 => isOb C0 m γ1 ∧ ka γ1 fun γ2 => (datN γ2.sl (n + 1) γ2.tm).elim False fun x => W x.1 fun d => q ⟨γ2.sl, own d :: x.2, γ2.n⟩
/-- e.f, a property -/
def kProp (C0 : Addr) (f : Str) (W : Tw) (ko : KE) : KE := fun γ q => ko γ fun γ1 => isOb C0 f γ1 ∧ (datN γ1.sl 1 γ1.tm).elim False fun x => W x.1 fun d => q ⟨γ1.sl, own d :: x.2, γ1.n⟩
/-- C(..) -/
def kMake (C0 : Addr) (W : TwI) (n : Nat) (ka : KE) : KE := fun γ q => ka γ fun γ1 => (datN γ1.sl n γ1.tm).elim False fun x => W (objD C0 [] [] :: x.1) fun r e => r = .none ∧ q ⟨γ1.sl, own e :: x.2, γ1.n⟩
end
end G
namespace G
open PySem PySem.Spec PyProof.Rows L2
variable {C : Cn} {xc : XC C}
/-- the instance with the field written -/
def putOD (f : Str) (x : D) : D → D
  | .dict [(.tuple (c :: ns), .list ds)] => match ns.findIdx? (isStr f) with
    | none => .dict [(.tuple (c :: (ns ++ [.str f])), .list (ds ++ [x]))]
    | some k => .dict [(.tuple (c :: ns), .list (ds.set k x))]
  | d => d
def cntF : D → Nat
  | .dict [(.tuple ns, _)] => ns.length
  | _ => 0
/-- self.f = e: a name that holds an instance of its own -/
def kFldPut (C0 : Addr) (i : Nat) (f : Str) (kv : KE) : KS := fun γ e => kv γ fun γ1 => match γ1.tm with
  | s :: tm => (con s).elim False fun c => if c.1 && noAl i tm then match γ1.sl[i]? with
    | some (.io d) => if isC C0 d && decide (cntF d < 900) then e.nx ⟨γ1.sl.set i (.io (putOD f c.2 d)), tm, γ1.n⟩ else False
    | some (.ow true d) => if isC C0 d && decide (cntF d < 900) then e.nx ⟨γ1.sl.set i (.ow true (putOD f c.2 d)), tm, γ1.n⟩ else False
    | _ => False
    else False
  | [] => False
end G
namespace G
open PySem PySem.Spec PyProof.Rows L2
end G
namespace G
open PySem PySem.Spec PyProof.Rows L2
variable {C : Cn} {xc : XC C}
section
variable {K : PySem.W.Frag} {t ta tb tk tv : TE} {k ko ka kb kk kv : KE}
theorem datS_dc {m : List (Key × D)} : datS (.dc m) = some (dictD m) := rfl
theorem look_dc {sl : List Sl} {m : List (Key × D)} : look sl (.dc m) = none := rfl
/-- the type's facts -/
def KitT (K : PySem.W.Frag) (nm : String) : Prop := ∀ {H : Hp} {S : List Addr} {v : V} {d : D}, Rep H S v d → PySem.W.kitOne K (.type (tyN d)) (.type nm) = some (decide (tyN d = nm))
theorem kitT_list : KitT K "list" := fun {H S v d} r => by
  rw [kit_list r]
  cases d <;> rfl
theorem kitT_tuple : KitT K "tuple" := fun {H S v d} r => by
  rw [kit_tuple r]
  cases d <;> rfl
theorem ty_str_tuple : decide (("str" : String) = "tuple") = false := by decide +kernel
theorem ty_str_list : decide (("str" : String) = "list") = false := by decide +kernel
theorem ty_tuple_str : decide (("tuple" : String) = "str") = false := by decide +kernel
theorem ty_tuple_list : decide (("tuple" : String) = "list") = false := by decide +kernel
theorem ty_list_str : decide (("list" : String) = "str") = false := by decide +kernel
theorem ty_list_tuple : decide (("list" : String) = "tuple") = false := by decide +kernel
theorem ty_int_str : decide (("int" : String) = "str") = false := by decide +kernel
theorem ty_int_tuple : decide (("int" : String) = "tuple") = false := by decide +kernel
theorem ty_int_list : decide (("int" : String) = "list") = false := by decide +kernel
theorem ty_bool_str : decide (("bool" : String) = "str") = false := by decide +kernel
theorem ty_bool_tuple : decide (("bool" : String) = "tuple") = false := by decide +kernel
theorem ty_bool_list : decide (("bool" : String) = "list") = false := by decide +kernel
theorem ty_NoneType_str : decide (("NoneType" : String) = "str") = false := by decide +kernel
theorem ty_NoneType_tuple : decide (("NoneType" : String) = "tuple") = false := by decide +kernel
theorem ty_NoneType_list : decide (("NoneType" : String) = "list") = false := by decide +kernel
theorem ty_dict_str : decide (("dict" : String) = "str") = false := by decide +kernel
theorem ty_dict_tuple : decide (("dict" : String) = "tuple") = false := by decide +kernel
theorem ty_dict_list : decide (("dict" : String) = "list") = false := by decide +kernel
def kIs (nm : String) (ka : KE) : KE := fun γ q => ka γ fun γ1 => (datN γ1.sl 1 γ1.tm).elim False fun x => isObj (x.1.getD 0 .none) = false ∧ q ⟨γ1.sl, .fz (.bool (decide (tyN (x.1.getD 0 .none) = nm))) :: x.2, γ1.n⟩
theorem so_is {nm : String} (hk : KitT K nm) (h : SoE xc t k) : SoE xc (tCB (rIsi K) (tCons t (tCons (tC (.ty nm)) tNil))) (kIs nm k) := fun γ Θ σ H Q q R hk1 w => h γ Θ σ H _ _ R hk1 fun γ1 v H1 hk2 R1 => by
  obtain ⟨⟨ds, rr⟩, e, ho, hq⟩ := elimF hk2
  obtain ⟨R2, T, rp, _⟩ := Rel.pops (vs := [v]) (Θ := Θ) R1 rfl e
  cases rp with
  | cons r r' =>
    cases r'
    exact ⟨v, _, _, _, _, rfl, .ty _, tyx r ho, hk r, w _ _ _ hq (R2.push fun Z => .bl _)⟩
def kRev (ka : KE) : KE := fun γ q => ka γ fun γ1 => match γ1.tm with
  | s :: tm => (shr γ1.sl s true).elim False fun ds => q ⟨γ1.sl, newL ds.reverse :: tm, γ1.n⟩
  | _ => False
theorem Trs.flatV {H : Hp} {Z : Reg} : ∀ {ds : List D}, ds.all flatD = true → Trs H Z [] (ds.map vOf) ds
  | [], _ => .nil
  | d :: ds, f => by
    rw [List.all_cons, Bool.and_eq_true] at f
    refine .cons (S := []) ?_ (Trs.flatV f.2)
    cases d <;> first | exact .non | exact .bl _ | exact .int _ | exact .str _ | exact nomatch f.1
def kExt (ko ke : KE) : KE := fun γ q => ko γ fun γ1 => isLst γ1 ∧ ke γ1 fun γ2 => match γ2.tm with
  | s :: .al i π :: tm => (look γ2.sl s).elim False fun y => match y with
    | .list ys => (ys.all flatD = true ∧ noAl i tm = true) ∧ wrL γ2.sl i π fun b d es => ((b = true ∨ π = []) ∧ ioOk γ2.sl i b) ∧ es.length + ys.length < 10000000 ∧ q ⟨putS γ2.sl i b (setP d π (.list (es ++ ys))), .fz .none :: tm, γ2.n⟩
    | _ => False
  | _ => False
def signsD (x : Str) : List D := x.cps.toList.map fun c => .str ⟨#[c]⟩
def kItS (ke : KE) : KI := fun γ q => ke γ fun γ1 => match γ1.tm with
  | .fz (.str x) :: tm => q (signsD x) ⟨γ1.sl, tm, γ1.n⟩ ∧ tm = γ.tm
  | _ => False
/-- one sign in a text -/
def vInS (neg : Bool) : D → D → (D → Prop) → Prop := fun d1 d2 q => match d1, d2 with
  | .str x, .str y => ∃ c, x = ⟨#[c]⟩ ∧ q (.bool (neg ^^ decide (c ∈ y.cps.toList)))
  | _, _ => False
def dcL (j : Nat) (kk kv : KE) : List D → VSt → (VSt → Prop) → Prop
  | [], γ, q => q γ
  | d :: ds, γ, q => noAl j γ.tm = true ∧ kk ⟨γ.sl.set j (.fz d), γ.tm, γ.n⟩ fun γ1 => kv γ1 fun γ2 => match γ2.tm with
      | .fz c :: .fz y :: .dc m :: tm => (keyD y).elim False fun ky => (flatD c = true ∧ noAl j tm = true ∧ tm = γ.tm.tail ∧ m.length < 10000000) ∧ dcL j kk kv ds ⟨γ2.sl.set j .jk, .dc (putM m ky c) :: tm, γ2.n⟩ q
      | _ => False
def kDc (ki : KI) (j : Nat) (kk kv : KE) : KE := fun γ q => ki γ fun ds γ1 => noAl j γ1.tm = true ∧ dcL j kk kv ds ⟨γ1.sl.set j .jk, .dc [] :: γ1.tm, γ1.n⟩ fun γ2 => match γ2.tm with
  | .dc m :: tm => tm = γ1.tm ∧ q ⟨γ2.sl, .dc m :: γ.tm, γ2.n⟩
  | _ => False
end
end G
namespace G
open PySem PySem.Spec PyProof.Rows L2
section
variable {P : Program} {w : World} {K : PySem.W.Frag} {mg : Str → Option Value} {base : Heap} {CX : CXT} {k : Nat} {f : Addr} {fd : FuncData} {ps : List Str} {sp : Sp}
theorem fn_none (h : ∀ vs H Q E, ¬ sp vs H Q E) : FnG P w K mg base CX k f fd ps sp := ⟨fun vs H Q E q => (h _ _ _ _ q).elim, fun _ _ _ _ _ _ _ _ _ _ _ _ _ _ q => (h _ _ _ _ q).elim⟩
end
theorem noT {W : Tw} (h : ∀ ds Gq, ¬ W ds Gq) : ∀ vs H Q E, ¬ spT W vs H Q E := fun _ _ _ _ ⟨_, _, _, _, w, _⟩ => h _ _ w
section
variable {C : Cn} {xc : XC C} {K : PySem.W.Frag} {t ta tb : TE} {ts tk : TA} {k ka kb ko : KE} {n : Nat} {C0 : Addr} {m : Str} {W : Tw}
/-- an instance of the class -/
theorem Rep.ins {H : Hp} {T : List Addr} {v : V} {d : D} (r : Rep H T v d) (h : isC C0 d = true) : ∃ a dx fs, v = .ref a ∧ H a = some (.ins C0 dx fs) := by
  cases r with
  | box b _ =>
    obtain ⟨ns, rfl⟩ := isC_of b h
    obtain ⟨dx, e, _⟩ := b.obj
    exact ⟨_, dx, _, rfl, e⟩
  | _ => exact nomatch h
def kLenO (C0 : Addr) (W : Tw) (ko : KE) : KE := fun γ q => ko γ fun γ1 => (datN γ1.sl 1 γ1.tm).elim False fun x => isC C0 (x.1.getD 0 .none) = true ∧ W x.1 fun d => match d with
  | .int n => (0 ≤ n ∧ n ≤ 1000000000000) ∧ q ⟨γ1.sl, .fz (.int n) :: x.2, γ1.n⟩
  | _ => False
def kEqO (C0 : Addr) (W : Tw) (neg : Bool) (ka kb : KE) : KE := fun γ q => ka γ fun γ1 => kb γ1 fun γ2 => (datN γ2.sl 2 γ2.tm).elim False fun x => (isC C0 (x.1.getD 0 .none) && isC C0 (x.1.getD 1 .none)) = true ∧ W x.1 fun d => match d with
  | .bool b => q ⟨γ2.sl, .fz (.bool (neg ^^ b)) :: x.2, γ2.n⟩
  | _ => False
/-- isinstance(o, C): it is one -/
def kIsC (C0 : Addr) (ko : KE) : KE := fun γ q => ko γ fun γ1 => (datN γ1.sl 1 γ1.tm).elim False fun x => isC C0 (x.1.getD 0 .none) = true ∧ q ⟨γ1.sl, .fz (.bool true) :: x.2, γ1.n⟩
/-- o.m(..), what comes may share lists with the arguments -/
def kMethS (C0 : Addr) (m : Str) (W : Tw) (n : Nat) (ko ka : KE) : KE := fun γ q => ko γ fun γ1 => isOb C0 m γ1 ∧ ka γ1 fun γ2 => (fzA (n + 1) γ2.tm).elim False fun x => W x.1 fun d => q ⟨γ2.sl, .fz d :: x.2, γ2.n⟩
/-- o.m(k = .., ..) -/
def kMethK (C0 : Addr) (m : Str) (W : Tw) (ix : List Nat) (n : Nat) (ko ka : KE) : KE := fun γ q => ko γ fun γ1 => isOb C0 m γ1 ∧ ka γ1 fun γ2 => (datN γ2.sl (n + 1) γ2.tm).elim False fun x => W (ix.filterMap fun i => x.1[i]?) fun d => q ⟨γ2.sl, own d :: x.2, γ2.n⟩
/-- C(k = .., ..) -/
def kMakeK (C0 : Addr) (W : TwI) (ix : List Nat) (n : Nat) (ka : KE) : KE := fun γ q => ka γ fun γ1 => (datN γ1.sl n γ1.tm).elim False fun x => W (objD C0 [] [] :: (ix.filterMap fun i => x.1[i]?)) fun r e => r = .none ∧ q ⟨γ1.sl, own e :: x.2, γ1.n⟩
end
end G
namespace G
open PySem PySem.Spec PyProof.Rows L2
/-- a book, by its rows -/
abbrev bookD (C : Addr) (rs : List D) : D := objD C [("kept" : Str)] [.list rs]
theorem isC_obj {C : Addr} {ns : List Str} {ds : List D} : isC C (objD C ns ds) = true := decide_eq_true rfl
theorem isObj_obj {C : Addr} {ns : List Str} {ds : List D} : isObj (objD C ns ds) = true := rfl
theorem own_obj {C : Addr} {ns : List Str} {ds : List D} : own (objD C ns ds) = .ow true (objD C ns ds) := rfl
theorem cntF_obj {C : Addr} {ns : List Str} {ds : List D} : cntF (objD C ns ds) = ns.length + 1 := by simp [cntF]
theorem fld_kept {C : Addr} {rs : List D} : fldD "kept" (bookD C rs) = some (0, .list rs) := by
  have e : isStr "kept" (.str "kept") = true := by decide +kernel
  simp [fldD, List.findIdx?_cons, e]
theorem nof_book {C : Addr} {rs : List D} {m : Str} (h : (("kept" : Str) == m) = false) : noFld m (bookD C rs) = true := by
  have e : isStr m (.str "kept") = false := h
  simp [noFld, List.findIdx?_cons, e]
theorem nof_book_names {C : Addr} {rs : List D} : noFld "names" (bookD C rs) = true := nof_book (by decide +kernel)
theorem nof_book_words {C : Addr} {rs : List D} : noFld "words" (bookD C rs) = true := nof_book (by decide +kernel)
theorem nof_book_effects_held {C : Addr} {rs : List D} : noFld "effects_held" (bookD C rs) = true := nof_book (by decide +kernel)
theorem nof_book_effect {C : Addr} {rs : List D} : noFld "effect" (bookD C rs) = true := nof_book (by decide +kernel)
theorem nof_book_with_word {C : Addr} {rs : List D} : noFld "with_word" (bookD C rs) = true := nof_book (by decide +kernel)
theorem nof_book_without {C : Addr} {rs : List D} : noFld "without" (bookD C rs) = true := nof_book (by decide +kernel)
theorem put_kept {C : Addr} {x : D} : putOD "kept" x (objD C [] []) = objD C [("kept" : Str)] [x] := rfl
theorem put_kept2 {C : Addr} {x y : D} : putOD "kept" x (objD C [("kept" : Str)] [y]) = objD C [("kept" : Str)] [x] := by
  have e : isStr "kept" (.str "kept") = true := by decide +kernel
  simp [putOD, List.findIdx?_cons, e]
end G
namespace L2
open PySem PySem.Spec PyProof.Rows
end L2
namespace G
open PySem PySem.Spec PyProof.Rows L2
variable {C : Cn} {xc : XC C}
section
variable {t ta tb : TE} {k ka kb : KE} {sl tm : List Sl} {n : Int} {v u : V} {Θ : List V} {σ : L2.St} {H : Hp} {y d x : D}
/-- e[y], e a dict that is frozen -/
def kDGetE (ka kb : KE) : KE := fun γ q => ka γ fun γ1 => kb γ1 fun γ2 => match γ2.tm with
  | .fz y :: .fz d :: tm => (boxM d).elim False fun m => (keyD y).elim False fun ky => ∃ x, valM m ky = some x ∧ q ⟨γ2.sl, .fz x :: tm, γ2.n⟩
  | _ => False
end
end G
namespace G
open PySem PySem.Spec PyProof.Rows L2
/-- the texts of a list, each once, in order -/
def mtStep (σ : List Str) (v : Str) : List Str := if v ∈ σ then σ else σ ++ [v]
def mtS (xs : List Str) : List Str := xs.foldl mtStep []
section
variable {C : Cn} {xc : XC C} {K : PySem.W.Frag} {t : TE} {k : KE} {lo hi : TO} {kl kh : KO}
def kLenSetT (ke : KE) : KE := fun γ q => ke γ fun γ1 => (datN γ1.sl 1 γ1.tm).elim False fun x => match x.1 with
  | [.list es] => (strsOf es).elim False fun xs => xs.length ≤ 4000 ∧ q ⟨γ1.sl, .fz (.int (mtS xs).length) :: x.2, γ1.n⟩
  | _ => False
/-- x[lo:hi] of a text -/
def kSlS (ka : KE) (lo hi : KO) : KE := fun γ q => ka γ fun γ1 => lo γ1 fun a γ2 => hi γ2 fun b γ3 => match γ3.tm with
  | .fz (.str z) :: tm => z.length ≤ 10000000 ∧ q ⟨γ3.sl, .fz (.str (cutS z a b)) :: tm, γ3.n⟩
  | _ => False
end
end G
namespace G
open PySem PySem.Spec PyProof.Rows L2
variable {C : Cn} {xc : XC C}
/-- f(o, [0]) of the def that spoils what it is given: what is left of it -/
def kSpoilK (m o : Nat) : KS := fun γ e => match γ.sl[o]? with
  | some (.ow true d) => (noAl o γ.tm = true ∧ d.depth < m ∧ wd d ≤ 10000000) ∧ e.nx ⟨γ.sl.set o (own (spD d 0).1), γ.tm, γ.n⟩
  | _ => False
end G
namespace G
open PySem PySem.Spec PyProof.Rows L2
variable {C : Cn} {xc : XC C}
/-- [r[0] for r in h] -/
def kFirsts (h r : Nat) : KE := fun γ q => match γ.sl[h]? with
  | some (.ow _ (.list ds)) => r < γ.sl.length ∧ ∃ ps : List (D × List D), ds = ps.map (fun p => PyData.tuple (p.1 :: p.2)) ∧ (∀ p ∈ ps, nolist p.1 = true) ∧ ps.length < 10000000 ∧ q ⟨γ.sl, .ow true (.list (ps.map (·.1))) :: γ.tm, γ.n⟩
  | _ => False
/-- [r[0] for r in h[:s]] -/
def kFirstsTo (h s r : Nat) : KE := fun γ q => match γ.sl[h]?, γ.sl[s]? with
  | some (.ow _ (.list ds)), some (.fz (.int i)) => r < γ.sl.length ∧ ∃ ps : List (D × List D), ds = ps.map (fun p => PyData.tuple (p.1 :: p.2)) ∧ (∀ p ∈ ps, nolist p.1 = true) ∧ ps.length < 10000000 ∧ q ⟨γ.sl, .ow true (.list (cutD (ps.map (·.1)) none (some i))) :: γ.tm, γ.n⟩
  | _, _ => False
end G
namespace G
open PySem PySem.Spec PyProof.Rows L2
variable {C : Cn} {xc : XC C}
section
variable {t ta tb : TE} {ko ka kb : KE}
def kInsD (ko ki ke : KE) : KE := fun γ q => ko γ fun γ1 => isLst γ1 ∧ ki γ1 fun γ2 => ke γ2 fun γ3 => match γ3.tm with
  | s :: .fz (.int k) :: .al i π :: tm => (con s).elim False fun c => noAl i tm = true ∧ wrL γ3.sl i π fun b d es => (((b && c.1) = true ∨ π = []) ∧ ioOk γ3.sl i (b && c.1)) ∧ (es.length < 10000000 ∧ 0 ≤ k ∧ k < 10000000) ∧ q ⟨putS γ3.sl i (b && c.1) (setP d π (.list (es.take k.toNat ++ [c.2] ++ es.drop k.toNat))), .fz .none :: tm, γ3.n⟩
  | _ => False
end
end G
namespace G
open PySem PySem.Spec PyProof.Rows L2
variable {C : Cn} {xc : XC C}
/-- [*e, (x, y)] -/
def kStar2 (i j : Nat) (ke : KE) : KE := fun γ q => ke γ fun γ1 => match γ1.tm with
  | s :: tm => (fzD s).elim False fun d => match d with
    | .list ds => match γ1.sl[i]?, γ1.sl[j]? with
      | some (.fz a), some (.fz b) => ds.length < 10000000 ∧ q ⟨γ1.sl, .fz (.list (ds ++ [.tuple [a, b]])) :: tm, γ1.n⟩
      | _, _ => False
    | _ => False
  | [] => False
end G
namespace G
open PySem PySem.Spec PyProof.Rows L2
variable {C : Cn} {xc : XC C}
def kCallL3 (W : List D → Prop) (ka : KE) : KE := fun γ q => ka γ fun γ1 => match γ1.tm with
  | s4 :: .ow true d3 :: tm => (look γ1.sl s4).elim False fun d4 => nolist d4 = true ∧ (datN γ1.sl 2 tm).elim False fun x => W (x.1 ++ [d3, d4]) ∧ q ⟨γ1.sl, .fz (.bool true) :: x.2, γ1.n⟩
  | _ => False
end G
namespace G
open PySem PySem.Spec PyProof.Rows L2
section
variable {C : Cn} {xc : XC C} {t : TE} {ts tk : TA} {ko ka : KE} {n : Nat} {C0 : Addr} {m : Str} {WX : TwX}
def kMethX (x : XH) (C0 : Addr) (m : Str) (W : TwX) (n : Nat) (ko ka : KE) : KE := fun γ q => ko γ fun γ1 => isOb C0 m γ1 ∧ ka γ1 fun γ2 => (datN γ2.sl (n + 1) γ2.tm).elim False fun y => W y.1 (fun d => q ⟨γ2.sl, own d :: y.2, γ2.n⟩) fun c d => x c d ⟨γ2.sl, y.2, γ2.n⟩
def kMethXK (x : XH) (C0 : Addr) (m : Str) (W : TwX) (ix : List Nat) (n : Nat) (ko ka : KE) : KE := fun γ q => ko γ fun γ1 => isOb C0 m γ1 ∧ ka γ1 fun γ2 => (datN γ2.sl (n + 1) γ2.tm).elim False fun y => W (ix.filterMap fun i => y.1[i]?) (fun d => q ⟨γ2.sl, own d :: y.2, γ2.n⟩) fun c d => x c d ⟨γ2.sl, y.2, γ2.n⟩
end
end G
namespace G
open PySem PySem.Spec PyProof.Rows L2
variable {C : Cn} {xc : XC C}
def kCallI3 (W : TwI) (ka : KE) : KE := fun γ q => ka γ fun γ1 => match γ1.tm with
  | s4 :: .al i [] :: .fz d2 :: .fz d1 :: r => (look γ1.sl s4).elim False fun d4 => (nolist d4 = true ∧ noAl i r = true) ∧ (ownF (γ1.sl[i]?)).elim False fun s => W [d1, d2, s.2, d4] fun d e => q ⟨γ1.sl.set i (reS s.1 true e), own d :: r, γ1.n⟩
  | _ => False
def ioD3 (γ : VSt) (f : D → Prop) : Prop := match γ.sl[2]? with
  | some (Sl.io e) => f e
  | _ => False
def edI3 (G : D → D → Prop) : KEd := ⟨fun γ => ioD3 γ fun e => G .none e, fun s γ => ioD3 γ fun e => rtN (fun d => G d e) s, fun _ => False, fun _ => False⟩
theorem edI3_rt {G : D → D → Prop} {s : Sl} {γ : VSt} : (edI3 G).rt s γ = ioD3 γ fun e => rtN (fun d => G d e) s := rfl
theorem edI3_nx {G : D → D → Prop} {γ : VSt} : (edI3 G).nx γ = ioD3 γ fun e => G .none e := rfl
theorem ioD3_c {s0 s1 : Sl} {e : D} {sl tm : List Sl} {n : Int} {f : D → Prop} : ioD3 ⟨s0 :: s1 :: .io e :: sl, tm, n⟩ f = f e := rfl
end G
namespace G
open PySem PySem.Spec PyProof.Rows L2
variable {C : Cn} {xc : XC C}
/-- a frozen field is put -/
def putFs (f : Str) (d : D) : List (Str × Bool × D) → List (Str × Bool × D)
  | [] => [(f, false, d)]
  | (g, b, x) :: r => if f = g then (f, false, d) :: r else (g, b, x) :: putFs f d r
/-- the items of an owned field -/
def setOs (f : Str) (ds : List D) : List (Str × Bool × D) → List (Str × Bool × D)
  | [] => []
  | (g, b, x) :: r => if f = g then (f, b, .list ds) :: r else (g, b, x) :: setOs f ds r
def getFs (f : Str) : List (Str × Bool × D) → Option (Bool × D)
  | [] => none
  | (g, b, x) :: r => if f = g then some (b, x) else getFs f r
section
variable {Z : Reg} {H : Hp}
theorem Fs.get : ∀ {fs : List (Str × Bool × D)} {S : List Addr} {vs : List V} {f : Str} {b : Bool} {d : D}, Fs H Z S vs fs → getFs f fs = some (b, d) → ∃ v, ((fs.map (·.1)).zip vs).lookup f = some v ∧ (b = false → Tr H Z [] v d) ∧
    (b = true → ∃ l ls ds, v = .ref l ∧ l ∈ S ∧ H l = some (.lst ls) ∧ d = .list ds ∧ Trs H Z [] ls ds)
  | _, _, _, f, b, d, .nil, e => nomatch e
  | (g, _, x) :: r, S, v :: vs, f, b, d, .fz t h, e => by
    unfold getFs at e
    rw [List.map_cons, List.zip_cons_cons]
    by_cases c : f = g
    · subst c
      rw [if_pos rfl] at e
      cases e
      exact ⟨v, by simp, fun _ => t, (fun z => nomatch z)⟩
    · rw [if_neg c] at e
      obtain ⟨w, e1, e2, e3⟩ := Fs.get h e
      exact ⟨w, by rw [List.lookup_cons, show (f == g) = false from by simpa using c]; exact e1, e2, e3⟩
  | (g, _, _) :: r, l :: S, _ :: vs, f, b, d, .ol hl t h, e => by
    unfold getFs at e
    rw [List.map_cons, List.zip_cons_cons]
    by_cases c : f = g
    · subst c
      rw [if_pos rfl] at e
      cases e
      exact ⟨_, by simp, (fun z => nomatch z), fun _ => ⟨l, _, _, rfl, List.mem_cons_self, hl, rfl, t⟩⟩
    · rw [if_neg c] at e
      obtain ⟨w, e1, e2, e3⟩ := Fs.get h e
      refine ⟨w, by rw [List.lookup_cons, show (f == g) = false from by simpa using c]; exact e1, e2, fun z => ?_⟩
      obtain ⟨l', ls', ds', a1, a2, a3⟩ := e3 z
      exact ⟨l', ls', ds', a1, List.mem_cons_of_mem _ a2, a3⟩
theorem Fs.put {y : V} {d : D} (t : Tr H Z [] y d) : ∀ {fs : List (Str × Bool × D)} {S : List Addr} {vs : List V} (f : Str), Fs H Z S vs fs → ∃ T vs', putF f y ((fs.map (·.1)).zip vs) = ((putFs f d fs).map (·.1)).zip vs' ∧ Fs H Z T vs' (putFs f d fs) ∧ T.Sublist S
  | _, _, _, f, .nil => ⟨[], [y], rfl, .fz t .nil, .slnil⟩
  | (g, _, x) :: r, S, v :: vs, f, .fz t0 h => by
    rw [List.map_cons, List.zip_cons_cons]
    unfold putFs putF
    by_cases c : f = g
    · subst c
      simp only [↓reduceIte]
      exact ⟨S, y :: vs, rfl, .fz t h, List.Sublist.refl _⟩
    · rw [if_neg c]
      obtain ⟨T, vs', e1, e2, e3⟩ := Fs.put t f h
      refine ⟨T, v :: vs', ?_, .fz t0 e2, e3⟩
      rw [List.map_cons, List.zip_cons_cons, ← e1]
      simp [c, Ne.symm c, eq_comm]
  | (g, _, _) :: r, l :: S, _ :: vs, f, .ol hl t0 h => by
    rw [List.map_cons, List.zip_cons_cons]
    unfold putFs putF
    by_cases c : f = g
    · subst c
      simp only [↓reduceIte]
      exact ⟨S, y :: vs, rfl, .fz t h, List.sublist_cons_self _ _⟩
    · rw [if_neg c]
      obtain ⟨T, vs', e1, e2, e3⟩ := Fs.put t f h
      refine ⟨l :: T, _ :: vs', ?_, .ol hl t0 e2, e3.cons₂ _⟩
      rw [List.map_cons, List.zip_cons_cons, ← e1]
      simp [c, Ne.symm c, eq_comm]
/-- a new owned field -/
theorem Fs.snoc {l : Addr} {ls : List V} {ds : List D} (hl : H l = some (.lst ls)) (t : Trs H Z [] ls ds) : ∀ {fs : List (Str × Bool × D)} {S : List Addr} {vs : List V} (f : Str), Fs H Z S vs fs → getFs f fs = none → putF f (.ref l) ((fs.map (·.1)).zip vs) = ((fs ++ [(f, true, PyData.list ds)]).map (·.1)).zip (vs ++ [.ref l]) ∧ Fs H Z (S ++ [l]) (vs ++ [.ref l]) (fs ++ [(f, true, .list ds)])
  | _, _, _, f, .nil, _ => ⟨rfl, .ol hl t .nil⟩
  | (g, _, x) :: r, S, v :: vs, f, .fz t0 h, e => by
    unfold getFs at e
    by_cases c : f = g
    · rw [if_pos c] at e
      cases e
    · rw [if_neg c] at e
      obtain ⟨e1, e2⟩ := Fs.snoc hl t f h e
      refine ⟨?_, .fz t0 e2⟩
      simp only [List.map_cons, List.zip_cons_cons, List.cons_append]
      unfold putF
      rw [e1]
      simp [c, Ne.symm c, eq_comm]
  | (g, _, _) :: r, k :: S, _ :: vs, f, .ol hk t0 h, e => by
    unfold getFs at e
    by_cases c : f = g
    · rw [if_pos c] at e
      cases e
    · rw [if_neg c] at e
      obtain ⟨e1, e2⟩ := Fs.snoc hl t f h e
      refine ⟨?_, .ol hk t0 e2⟩
      simp only [List.map_cons, List.zip_cons_cons, List.cons_append]
      unfold putF
      rw [e1]
      simp [c, Ne.symm c, eq_comm]
/-- the list of an owned field is written -/
theorem Fs.upd {l : Addr} {us : List V} {ds : List D} {H' : Hp} {Z' : Reg} (ht : ∀ t vs, H t = some (.tup vs) → H' t = some (.tup vs)) (hz : ∀ a, Z a → Z' a) (kz : ∀ a, Z a → ∀ o, H a = some o → H' a = some o) (hl : H' l = some (.lst us)) (t : Trs H' Z' [] us ds) : ∀ {fs : List (Str × Bool × D)} {S : List Addr} {vs : List V} {f : Str} {d : D}, Fs H Z S vs fs → getFs f fs = some (true, d) → ((fs.map (·.1)).zip vs).lookup f = some (.ref l) → S.Nodup → (∀ a ∈ S, a ≠ l → ∀ o, H a = some o → H' a = some o) → Fs H' Z' S vs (setOs f ds fs)
  | _, _, _, f, d, .nil, e, _, _, _ => nomatch e
  | (g, _, x) :: r, S, v :: vs, f, d, .fz t0 h, e, lk, nd, k => by
    unfold getFs at e
    unfold setOs
    rw [List.map_cons, List.zip_cons_cons, List.lookup_cons] at lk
    by_cases c : f = g
    · rw [if_pos c] at e
      cases e
    · rw [if_neg c] at e ⊢
      rw [show (f == g) = false from by simpa using c] at lk
      dsimp only at lk
      exact .fz (Tr.mono ht hz kz _ _ _ t0 fun _ m => nomatch m) (Fs.upd ht hz kz hl t h e lk nd k)
  | (g, _, _) :: r, m :: S, _ :: vs, f, d, .ol hm t0 h, e, lk, nd, k => by
    unfold getFs at e
    unfold setOs
    rw [List.map_cons, List.zip_cons_cons, List.lookup_cons] at lk
    have ndc := List.nodup_cons.mp nd
    by_cases c : f = g
    · subst c
      rw [if_pos rfl] at e ⊢
      rw [show (f == f) = true from by simp] at lk
      dsimp only at lk
      cases lk
      exact .ol hl t (h.mono ht hz kz fun a ma o eo => k a (List.mem_cons_of_mem _ ma) (fun z => ndc.1 (z ▸ ma)) o eo)
    · rw [if_neg c] at e ⊢
      rw [show (f == g) = false from by simpa using c] at lk
      dsimp only at lk
      obtain ⟨w, e1, _, e3⟩ := Fs.get h e
      obtain ⟨l', ls', ds', ew, ml, _⟩ := e3 rfl
      rw [lk] at e1
      cases e1
      cases ew
      exact .ol (k _ List.mem_cons_self (fun z => ndc.1 (z ▸ ml)) _ hm) (Trs.mono ht hz kz _ _ _ t0 fun _ m => nomatch m) (Fs.upd ht hz kz hl t h e lk ndc.2 fun a ma => k a (List.mem_cons_of_mem _ ma))
end
theorem Fs.uniq {Z : Reg} {H : Hp} : ∀ {fs : List (Str × Bool × D)} {S T : List Addr} {vs : List V}, Fs H Z S vs fs → Fs H Z T vs fs → S = T
  | _, _, _, _, .nil, .nil => rfl
  | _, _, _, _, .fz _ h, .fz _ k => Fs.uniq h k
  | _, _, _, _, .ol _ _ h, .ol _ _ k => by rw [Fs.uniq h k]
section
variable {Z : Reg} {Sa Sb : List Addr} {sl r tm : List Sl} {j : Int} {Θ : List V} {σ : L2.St} {H1 : Hp} {i : Nat} {q0 : Bool} {C0 : Addr} {fs : List (Str × Bool × D)}
theorem RelX.ob (X : RelX C Z Sa Sb ⟨sl, r, j⟩ Θ σ H1) (e1 : sl[i]? = some (.ob q0 C0 fs)) (na : noAl i r = true) : ∃ a vs T0, σ[i]? = some (some (.ref a)) ∧ Bx H1 a (obT C0 fs) vs ∧ Fs H1 Z T0 vs fs ∧ (a :: T0).Nodup ∧ (q0 = true → C.iov = some (.ref a)) ∧ (∀ x ∈ a :: T0, ¬ C.tz Z x ∧ (∀ p b, C.pu = some (p, b) → x ≠ p) ∧ x ∉ Sb) ∧
    ∀ (H' : Hp) (N : Reg) (j' : Int) (vs' : List V) (fs' : List (Str × Bool × D)) (T' : List Addr), (∀ x o, H1 x = some o → x ∉ a :: T0 → (∀ p b, C.pu = some (p, b) → x ≠ p) → H' x = some o) →
      (∀ x, N x → (H1 x = none ∨ x ∈ T0) ∧ ∃ o, H' x = some o) → (∀ p b, C.pu = some (p, b) → PuAt H' p (b - j')) → Bx H' a (obT C0 fs') vs' → Fs H' (fun x => Z x ∨ N x) T' vs' fs' → (a :: T').Nodup → (∀ x ∈ T', (x ∈ T0 ∨ (x ∉ Sa ++ Sb ∧ ¬ C.tz Z x ∧ ∀ p b, C.pu = some (p, b) → x ≠ p)) ∧ ¬ N x) →
      ∃ S', RelX C (fun x => Z x ∨ N x) S' Sb ⟨sl.set i (.ob q0 C0 fs'), r, j'⟩ Θ σ H' ∧ ∀ x ∈ S', (x ∈ a :: T' ∨ (x ∈ Sa ∧ x ∉ a :: T0)) ∧ ¬ N x := by
  obtain ⟨v1, T0', Rr, ev, ent, pm, kk⟩ := X.es.at e1
  cases ent with
  | @ob _ a _ T0 vs _ bx ff hq =>
  have ndS := pm.nodup_iff.mp (List.nodup_append.mp X.nd).1
  have ndT := (List.nodup_append.mp ndS).1
  have inS : ∀ x ∈ a :: T0, x ∈ Sa := fun x m => pm.mem_iff.mpr (List.mem_append_left _ m)
  have disR : ∀ x ∈ Rr, x ∉ a :: T0 := fun x m m' => (List.nodup_append.mp ndS).2.2 x m' x m rfl
  have disB : ∀ x ∈ Sb, x ∉ a :: T0 := fun x m m' => (List.nodup_append.mp X.nd).2.2 x (inS x m') x m rfl
  have domT : ∀ x ∈ a :: T0, ∃ o, H1 x = some o ∧ NT o := fun x m => by
    rcases List.mem_cons.mp m with rfl | m
    · exact bx.dom
    · exact ff.dom x m
  refine ⟨a, vs, T0, ev, bx, ff, ndT, hq, fun x m => ⟨X.nz x (List.mem_append_left _ (inS x m)), fun p b y z => (X.pu p b y).2.2 (z ▸ List.mem_append_left _ (inS x m)), fun z => disB x z m⟩, fun H' N j' vs' fs' T' fr hN hp bx' ff' nd' new => ?_⟩
  have pN : ∀ p b, C.pu = some (p, b) → ∃ o, H1 p = some o := fun p b y => by
    obtain ⟨x1, x2, x3, e, _⟩ := (X.pu p b y).1
    exact ⟨_, e⟩
  have kt : ∀ t xs, H1 t = some (.tup xs) → H' t = some (.tup xs) := fun t xs et => fr t _ et (fun m => by
    obtain ⟨o, e, nt⟩ := domT t m
    rw [et] at e
    cases e
    exact nt) fun p b y z => by
    obtain ⟨x1, x2, x3, e, _⟩ := (X.pu p b y).1
    rw [← z, et] at e
    cases e
  have kz0 : ∀ x, C.tz Z x → ∀ o, H1 x = some o → H' x = some o := fun x z o eo => fr x o eo (fun m => X.nz x (List.mem_append_left _ (inS x m)) z) fun p b y w => (X.pu p b y).2.1 (w ▸ z)
  have kz : ∀ x, Z x → ∀ o, H1 x = some o → H' x = some o := fun x z => kz0 x (.inl z)
  have kR : ∀ x ∈ Rr, ∀ o, H1 x = some o → H' x = some o := fun x m o eo => fr x o eo (disR x m) fun p b y w => (X.pu p b y).2.2 (w ▸ List.mem_append_left _ (pm.mem_iff.mpr (List.mem_append_right _ m)))
  have kB : ∀ x ∈ Sb, ∀ o, H1 x = some o → H' x = some o := fun x m o eo => fr x o eo (disB x m) fun p b y w => (X.pu p b y).2.2 (w ▸ List.mem_append_right _ m)
  obtain ⟨S', es', pm'⟩ := kk H' (fun x => Z x ∨ N x) (a :: T') (some (.ref a)) (.ob q0 C0 fs') kt (fun _ z => .inl z) kz kR (.ob bx' ff' hq)
  have eσ : σ.set i (some (.ref a)) = σ := by
    refine List.ext_getElem? fun k => ?_
    by_cases hk : i = k
    · subst hk
      rw [List.getElem?_set_self (List.getElem?_eq_some_iff.mp ev).1, ev]
    · rw [List.getElem?_set_ne hk]
  rw [eσ] at es'
  have memS : ∀ x ∈ S', x ∈ a :: T' ∨ x ∈ Rr := fun x m => List.mem_append.mp (pm'.mem_iff.mp m)
  have nN : ∀ x o, H1 x = some o → x ∉ T0 → ¬ N x := fun x o e m z => by
    rcases (hN x z).1 with q | q
    · rw [q] at e
      cases e
    · exact m q
  have naT : a ∉ T0 := (List.nodup_cons.mp ndT).1
  have old : ∀ x ∈ a :: T', (x ∈ a :: T0 ∨ (x ∉ Sa ++ Sb ∧ ¬ C.tz Z x ∧ ∀ p b, C.pu = some (p, b) → x ≠ p)) ∧ ¬ N x := fun x m => by
    rcases List.mem_cons.mp m with rfl | m
    · obtain ⟨o, e, _⟩ := domT x List.mem_cons_self
      exact ⟨.inl List.mem_cons_self, nN x o e naT⟩
    · exact ⟨(new x m).1.imp (List.mem_cons_of_mem _) id, (new x m).2⟩
  have nT : ∀ x ∈ a :: T', ¬ C.tz Z x ∧ ¬ N x ∧ (∀ p b, C.pu = some (p, b) → x ≠ p) ∧ x ∉ Sb ∧ x ∉ Rr := fun x m => by
    obtain ⟨z, zn⟩ := old x m
    rcases z with z | z
    · exact ⟨X.nz x (List.mem_append_left _ (inS x z)), zn, fun p b y w => (X.pu p b y).2.2 (w ▸ List.mem_append_left _ (inS x z)), fun w => disB x w z, fun w => disR x w z⟩
    · exact ⟨z.2.1, zn, z.2.2, fun w => z.1 (List.mem_append_right _ w), fun w => z.1 (List.mem_append_left _ (pm.mem_iff.mpr (List.mem_append_right _ w)))⟩
  have nRB : ∀ x ∈ Rr, x ∉ Sb := fun x m m' => (List.nodup_append.mp X.nd).2.2 x (pm.mem_iff.mpr (List.mem_append_right _ m)) x m' rfl
  have ndS' : S'.Nodup := pm'.nodup_iff.mpr (List.nodup_append.mpr ⟨nd', (List.nodup_append.mp ndS).2.1, fun x m y m' e => (nT x m).2.2.2.2 (e ▸ m')⟩)
  refine ⟨S', ⟨fun x o eo m => ⟨(X.fr x o eo m).1.imp .inl id, kz0 x (X.fr x o eo m).1 o (X.fr x o eo m).2⟩, es', X.et.mono kt (fun _ z => .inl z) kz kB, List.nodup_append.mpr ⟨ndS', (List.nodup_append.mp X.nd).2.1, fun x m y m' e => ?_⟩, fun x m z => ?_, fun p b y => ⟨hp p b y, fun z => ?_, fun m => ?_⟩, fun x z => ?_, fun x z w => ?_, fun k i' π u e' ev' => ?_⟩, fun x m => ?_⟩
  · subst e
    rcases memS x m with m | m
    · exact (nT x m).2.2.2.1 m'
    · exact nRB x m m'
  · rcases List.mem_append.mp m with m | m
    · rcases memS x m with m | m
      · rcases z with (z | z) | z
        · exact (nT x m).1 (.inl z)
        · exact (nT x m).2.1 z
        · exact (nT x m).1 (.inr z)
      · have inSa : x ∈ Sa := pm.mem_iff.mpr (List.mem_append_right _ m)
        obtain ⟨o, e⟩ := X.es.dom x inSa
        rcases z with (z | z) | z
        · exact X.nz x (List.mem_append_left _ inSa) (.inl z)
        · exact nN x o e (fun w => disR x m (List.mem_cons_of_mem _ w)) z
        · exact X.nz x (List.mem_append_left _ inSa) (.inr z)
    · obtain ⟨o, e⟩ := X.et.dom x m
      rcases z with (z | z) | z
      · exact X.nz x (List.mem_append_right _ m) (.inl z)
      · exact nN x o e (fun w => disB x m (List.mem_cons_of_mem _ w)) z
      · exact X.nz x (List.mem_append_right _ m) (.inr z)
  · obtain ⟨o, e⟩ := pN p b y
    rcases z with (z | z) | z
    · exact (X.pu p b y).2.1 (.inl z)
    · exact nN p o e (fun w => (X.pu p b y).2.2 (List.mem_append_left _ (inS p (List.mem_cons_of_mem _ w)))) z
    · exact (X.pu p b y).2.1 (.inr z)
  · rcases List.mem_append.mp m with m | m
    · rcases memS p m with m | m
      · exact (nT p m).2.2.1 p b y rfl
      · exact (X.pu p b y).2.2 (List.mem_append_left _ (pm.mem_iff.mpr (List.mem_append_right _ m)))
    · exact (X.pu p b y).2.2 (List.mem_append_right _ m)
  · rcases z with (z | z) | z
    · obtain ⟨o, eo⟩ := X.ex x (.inl z)
      exact ⟨o, kz0 x (.inl z) o eo⟩
    · exact (hN x z).2
    · obtain ⟨o, eo⟩ := X.ex x (.inr z)
      exact ⟨o, kz0 x (.inr z) o eo⟩
  · rcases z with z | z
    · exact X.dj x z w
    · obtain ⟨o, e⟩ := X.ex x (.inr w)
      exact nN x o e (fun m => X.nz x (List.mem_append_left _ (inS x (List.mem_cons_of_mem _ m))) (.inr w)) z
  · obtain ⟨s2, d2, e3, w2, f1, f2, f3, f4, wk2⟩ := X.al k i' π u e' ev'
    have hj := al_set na e'
    refine ⟨s2, d2, e3, w2, (List.getElem?_set_ne hj).trans f1, f2, f3, f4, ?_⟩
    obtain ⟨vi, Ti, vj, Tj, a1, a2, a3, a4, a5, a6⟩ := Ents.apart X.es e1 f1 hj (List.nodup_append.mp X.nd).1
    rw [ev] at a1
    cases a1
    rw [f4] at a2
    cases a2
    obtain ⟨w3, Tw, ew3, t3, sbw⟩ := a4.tr f2
    cases ew3
    cases a3 with
    | @ob _ _ _ T0b vsb _ bxb ffb hqb =>
    obtain ⟨_, rfl⟩ := bx.uniq bxb
    have eT := Fs.uniq ff ffb
    subst eT
    exact (Tr.part t3 f3 wk2).2 H' kt fun x z => z.elim (kz x) fun m o eo => fr x o eo (fun m' => (a5 x m').2 (sbw x m)) fun p b y w => (X.pu p b y).2.2 (w ▸ List.mem_append_left _ (a6 x (sbw x m)))
  · rcases memS x m with m | m
    · exact ⟨.inl m, (old x m).2⟩
    · have inSa : x ∈ Sa := pm.mem_iff.mpr (List.mem_append_right _ m)
      obtain ⟨o, e⟩ := X.es.dom x inSa
      exact ⟨.inr ⟨inSa, disR x m⟩, nN x o e fun w => disR x m (List.mem_cons_of_mem _ w)⟩
end
end G
namespace G
open PySem PySem.Spec PyProof.Rows L2
variable {C : Cn} {xc : XC C}
section
variable {K : PySem.W.Frag} {C0 : Addr} {i : Nat} {f : Str}
/-- a frozen field, read off an alias -/
def kZ (ke : KE) : KE := fun γ q => ke γ fun γ1 => match γ1.tm with
  | .al i [k] :: tm => (match γ1.sl[i]? with
    | some (.ob _ _ fs) => (match fs[k]? with
      | some (_, false, d) => q ⟨γ1.sl, .fz d :: tm, γ1.n⟩
      | _ => False)
    | _ => False)
  | .fz d :: tm => q ⟨γ1.sl, .fz d :: tm, γ1.n⟩
  | _ => False
/-- self.f = e, a frozen field -/
def kgFld (C0 : Addr) (i : Nat) (f : Str) : KG := fun γ q => match γ.tm with
  | s :: tm => (fzD s).elim False fun d => noAl i tm = true ∧ (match γ.sl[i]? with
    | some (.ob q0 C1 fs) => (C1 = C0 ∧ fs.length < 900) ∧ q ⟨γ.sl.set i (.ob q0 C0 (putFs f d fs)), tm, γ.n⟩
    | _ => False)
  | _ => False
end
end G
namespace G
open PySem PySem.Spec PyProof.Rows L2
variable {C : Cn} {xc : XC C}
section
variable {K : PySem.W.Frag} {C0 : Addr} {i : Nat} {f : Str}
/-- an owned list at an alias -/
def obLst (γ : VSt) (i k : Nat) (g : Bool → Addr → List (Str × Bool × D) → Str → List D → Prop) : Prop := match γ.sl[i]? with
  | some (.ob q0 C1 fs) => (match fs[k]? with
    | some (f, true, .list es) => g q0 C1 fs f es
    | _ => False)
  | _ => False
def kObApp (ko ke : KE) : KE := fun γ q => ko γ fun γ1 => isLst γ1 ∧ ke γ1 fun γ2 => match γ2.tm with
  | s :: .al i [k] :: tm => (fzD s).elim False fun d => noAl i tm = true ∧ obLst γ2 i k fun q0 C1 fs f es => es.length < 10000000 ∧ q ⟨γ2.sl.set i (.ob q0 C1 (fs.set k (f, true, .list (es ++ [d])))), .fz .none :: tm, γ2.n⟩
  | _ => False
def kObPop (ko : KE) : KE := fun γ q => ko γ fun γ1 => isLst γ1 ∧ match γ1.tm with
  | .al i [k] :: tm => noAl i tm = true ∧ obLst γ1 i k fun q0 C1 fs f es => (es ≠ [] ∧ es.length < 10000000) ∧ (es[es.length - 1]?).elim False fun x => q ⟨γ1.sl.set i (.ob q0 C1 (fs.set k (f, true, .list es.dropLast))), .fz x :: tm, γ1.n⟩
  | _ => False
end
end G
namespace G
open PySem PySem.Spec PyProof.Rows L2
variable {C : Cn} {xc : XC C}
section
variable {K : PySem.W.Frag} {C0 : Addr} {i : Nat} {f : Str}
/-- self.f = [], an owned field -/
def kObNew (C0 : Addr) (i : Nat) (f : Str) (kv : KE) : KS := fun γ e => kv γ fun γ1 => match γ1.tm with
  | .ow true (.list []) :: tm => noAl i tm = true ∧ (match γ1.sl[i]? with
    | some (.ob q0 C1 fs) => (C1 = C0 ∧ fs.length < 900 ∧ getFs f fs = none) ∧ e.nx ⟨γ1.sl.set i (.ob q0 C0 (fs ++ [(f, true, .list [])])), tm, γ1.n⟩
    | _ => False)
  | _ => False
end
abbrev TwO := List (Str × Bool × D) → List D → (D → List (Str × Bool × D) → Prop) → (Addr → D → List (Str × Bool × D) → Prop) → Prop
end G
namespace G
open PySem PySem.Spec PyProof.Rows L2
def obAt (k : Nat) (C0 : Addr) (γ : VSt) (f : List (Str × Bool × D) → Prop) : Prop := match γ.sl[k]? with
  | some (.ob true C1 fs) => C1 = C0 ∧ f fs
  | _ => False
def edO (pp : Bool) (C0 : Addr) (G : D → List (Str × Bool × D) → Prop) : KEd := ⟨fun γ => (pp = true → 0 ≤ γ.n) ∧ obAt (if pp then 1 else 0) C0 γ fun fs' => G .none fs', fun s γ => (pp = true → 0 ≤ γ.n) ∧ obAt (if pp then 1 else 0) C0 γ fun fs' => rtS (fun d => G d fs') s, fun _ => False, fun _ => False⟩
end G
namespace G
open PySem PySem.Spec PyProof.Rows L2
variable {C : Cn} {xc : XC C}
/-- an instance of the class stands on the stack, one that may be changed -/
def isObA (C0 : Addr) (γ : VSt) : Prop := match γ.tm with
  | .al i [] :: _ => (match γ.sl[i]? with
    | some (.ob _ C1 _) => C1 = C0
    | _ => False)
  | _ => False
/-- the call behind its arguments: the instance beneath them -/
def cO (x : XH) (pp : Bool) (c : Int) (C0 : Addr) (W : TwO) (n : Nat) (ix : List Nat) (γ : VSt) (q : VSt → Prop) : Prop := (fzA n γ.tm).elim False fun z => match z.2 with
  | .al i [] :: r => (match γ.sl[i]? with
    | some (.ob _ C1 fs) => C1 = C0 ∧ (match pp, r with
      | false, r => noAl i r = true ∧ W fs (ix.filterMap fun i => z.1[i]?) (fun d fs' => q ⟨putO' γ.sl i fs', .fz d :: r, γ.n⟩) (fun k d fs' => x k d ⟨putO' γ.sl i fs', r, γ.n⟩)
      | true, .pu :: r => noAl i r = true ∧ (0 ≤ c ∧ c ≤ γ.n) ∧ W fs (ix.filterMap fun i => z.1[i]?) (fun d fs' => q ⟨putO' γ.sl i fs', .fz d :: r, γ.n - c⟩) (fun k d fs' => x k d ⟨putO' γ.sl i fs', r, γ.n - c⟩)
      | _, _ => False)
    | _ => False)
  | _ => False
where putO' (sl : List Sl) (i : Nat) (fs' : List (Str × Bool × D)) : List Sl := match sl[i]? with
  | some (.ob q0 C1 _) => sl.set i (.ob q0 C1 fs')
  | _ => sl
end G
namespace G
open PySem PySem.Spec PyProof.Rows L2
variable {C : Cn} {xc : XC C}
section
variable {K : PySem.W.Frag} {C0 : Addr} {m : Str} {W : TwO} {n : Nat} {t : TE} {ts : TA} {ko ka : KE}
/-- o(e, ..) -/
def kCallO (x : XH) (C0 : Addr) (W : TwO) (n : Nat) (ko ka : KE) : KE := fun γ q => ko γ fun γ1 => isObA C0 γ1 ∧ ka γ1 fun γ2 => cO x false 0 C0 W n (List.range n) γ2 q
def noXH : XH := fun _ _ _ => False
/-- o.m(..) -/
def kMethO (x : XH) (C0 : Addr) (m : Str) (W : TwO) (n : Nat) (ko ka : KE) : KE := fun γ q => ko γ fun γ1 => isOb C0 m γ1 ∧ ka γ1 fun γ2 => cO x false 0 C0 W n (List.range n) γ2 q
/-- C(e, ..) -/
def kMakeO (C0 : Addr) (W : TwO) (n : Nat) (ka : KE) : KE := fun γ q => ka γ fun γ1 => (fzA n γ1.tm).elim False fun z => W [] z.1 (fun d fs' => d = .none ∧ q ⟨γ1.sl, .ob false C0 fs' :: z.2, γ1.n⟩) (fun _ _ _ => False)
end
/-- a pile, by what stands in it -/
def pileF (b n o l p : D) : List (Str × Bool × D) := [(("book" : Str), false, b), ("now", false, n), ("origins", false, o), ("led", true, l), ("past", true, p)]
def pile2 (b n : D) : List (Str × Bool × D) := [(("book" : Str), false, b), ("now", false, n)]
abbrev pileD (C : Addr) (b n o l p : D) : D := objD C [("book" : Str), ("now" : Str), ("origins" : Str), ("led" : Str), ("past" : Str)] [b, n, o, l, p]
theorem datS_pile {q : Bool} {C : Addr} {b n o l p : D} : datS (.ob q C (pileF b n o l p)) = some (pileD C b n o l p) := rfl
theorem datS_pile2 {q : Bool} {C : Addr} {b n : D} : datS (.ob q C (pile2 b n)) = some (objD C [("book" : Str), ("now" : Str)] [b, n]) := rfl
theorem obD_pile {C : Addr} {b n o l p : D} : obD C (pileF b n o l p) = pileD C b n o l p := rfl
theorem pile_0 {b n o l p : D} : (pileF b n o l p)[0]? = some (("book" : Str), false, b) := rfl
theorem pile_1 {b n o l p : D} : (pileF b n o l p)[1]? = some (("now" : Str), false, n) := rfl
theorem pile_2 {b n o l p : D} : (pileF b n o l p)[2]? = some (("origins" : Str), false, o) := rfl
theorem pile_3 {b n o l p : D} : (pileF b n o l p)[3]? = some (("led" : Str), true, l) := rfl
theorem pile_4 {b n o l p : D} : (pileF b n o l p)[4]? = some (("past" : Str), true, p) := rfl
theorem pile2_1 {b n : D} : (pile2 b n)[1]? = some (("now" : Str), false, n) := rfl
theorem pile_set3 {b n o l p x : D} : (pileF b n o l p).set 3 (("led" : Str), true, x) = pileF b n o x p := rfl
theorem pile_set4 {b n o l p x : D} : (pileF b n o l p).set 4 (("past" : Str), true, x) = pileF b n o l x := rfl
theorem pile_len {b n o l p : D} : (pileF b n o l p).length = 5 := rfl
theorem pile2_len {b n : D} : (pile2 b n).length = 2 := rfl
theorem put_now {b n o l p x : D} : putFs "now" x (pileF b n o l p) = pileF b x o l p := by
  simp only [pileF, putFs, show ¬ (("now" : Str) = ("book" : Str)) by decide +kernel, if_false, if_true]
theorem put_origins {b n o l p x : D} : putFs "origins" x (pileF b n o l p) = pileF b n x l p := by
  simp only [pileF, putFs, show ¬ (("origins" : Str) = ("book" : Str)) by decide +kernel, show ¬ (("origins" : Str) = ("now" : Str)) by decide +kernel, if_false, if_true]
theorem put_p1 {x : D} : putFs "book" x [] = [(("book" : Str), false, x)] := rfl
theorem put_p2 {b x : D} : putFs "now" x [(("book" : Str), false, b)] = pile2 b x := by
  simp only [pile2, putFs, show ¬ (("now" : Str) = ("book" : Str)) by decide +kernel, if_false]
theorem put_p3 {b n x : D} : putFs "origins" x (pile2 b n) = [(("book" : Str), false, b), ("now", false, n), ("origins", false, x)] := by
  simp only [pile2, putFs, show ¬ (("origins" : Str) = ("book" : Str)) by decide +kernel, show ¬ (("origins" : Str) = ("now" : Str)) by decide +kernel, if_false]
theorem get_p4 {b n o : D} : getFs "led" [(("book" : Str), false, b), ("now", false, n), ("origins", false, o)] = none := by
  simp only [getFs, show ¬ (("led" : Str) = ("book" : Str)) by decide +kernel, show ¬ (("led" : Str) = ("now" : Str)) by decide +kernel, show ¬ (("led" : Str) = ("origins" : Str)) by decide +kernel, if_false]
theorem get_p5 {b n o l : D} : getFs "past" [(("book" : Str), false, b), ("now", false, n), ("origins", false, o), ("led", true, l)] = none := by
  simp only [getFs, show ¬ (("past" : Str) = ("book" : Str)) by decide +kernel, show ¬ (("past" : Str) = ("now" : Str)) by decide +kernel, show ¬ (("past" : Str) = ("origins" : Str)) by decide +kernel, show ¬ (("past" : Str) = ("led" : Str)) by decide +kernel, if_false]
theorem app_p4 {b n o : D} {x : Str × Bool × D} : [(("book" : Str), false, b), ("now", false, n), ("origins", false, o)] ++ [x] = [(("book" : Str), false, b), ("now", false, n), ("origins", false, o), x] := rfl
theorem app_p5 {b n o l p : D} : [(("book" : Str), false, b), ("now", false, n), ("origins", false, o), ("led", true, l)] ++ [(("past" : Str), true, p)] = pileF b n o l p := rfl
theorem fld_book {C : Addr} {b n o l p : D} : fldD "book" (pileD C b n o l p) = some (0, b) := by
  simp only [fldD, objD, findIdx_str, show ([("book" : Str), ("now" : Str), ("origins" : Str), ("led" : Str), ("past" : Str)] : List Str).idxOf? ("book" : Str) = some 0 by decide +kernel]
  rfl
theorem fld_now {C : Addr} {b n o l p : D} : fldD "now" (pileD C b n o l p) = some (1, n) := by
  simp only [fldD, objD, findIdx_str, show ([("book" : Str), ("now" : Str), ("origins" : Str), ("led" : Str), ("past" : Str)] : List Str).idxOf? ("now" : Str) = some 1 by decide +kernel]
  rfl
theorem fld_origins {C : Addr} {b n o l p : D} : fldD "origins" (pileD C b n o l p) = some (2, o) := by
  simp only [fldD, objD, findIdx_str, show ([("book" : Str), ("now" : Str), ("origins" : Str), ("led" : Str), ("past" : Str)] : List Str).idxOf? ("origins" : Str) = some 2 by decide +kernel]
  rfl
theorem fld_led {C : Addr} {b n o l p : D} : fldD "led" (pileD C b n o l p) = some (3, l) := by
  simp only [fldD, objD, findIdx_str, show ([("book" : Str), ("now" : Str), ("origins" : Str), ("led" : Str), ("past" : Str)] : List Str).idxOf? ("led" : Str) = some 3 by decide +kernel]
  rfl
theorem fld_past {C : Addr} {b n o l p : D} : fldD "past" (pileD C b n o l p) = some (4, p) := by
  simp only [fldD, objD, findIdx_str, show ([("book" : Str), ("now" : Str), ("origins" : Str), ("led" : Str), ("past" : Str)] : List Str).idxOf? ("past" : Str) = some 4 by decide +kernel]
  rfl
theorem fld_now2 {C : Addr} {b n : D} : fldD "now" (objD C [("book" : Str), ("now" : Str)] [b, n]) = some (1, n) := by
  simp only [fldD, objD, findIdx_str, show ([("book" : Str), ("now" : Str)] : List Str).idxOf? ("now" : Str) = some 1 by decide +kernel]
  rfl
theorem nof_pile {C : Addr} {b n o l p : D} {m : Str} (h : [("book" : Str), ("now" : Str), ("origins" : Str), ("led" : Str), ("past" : Str)].idxOf? m = none) : noFld m (pileD C b n o l p) = true := by
  simp only [noFld, objD, findIdx_str, h]
  rfl
theorem nof_pile_things {C : Addr} {b n o l p : D} : noFld "things" (pileD C b n o l p) = true := nof_pile (by decide +kernel)
theorem nof_pile_sources {C : Addr} {b n o l p : D} : noFld "sources" (pileD C b n o l p) = true := nof_pile (by decide +kernel)
theorem nof_pile_effect {C : Addr} {b n o l p : D} : noFld "effect" (pileD C b n o l p) = true := nof_pile (by decide +kernel)
theorem nof_pile_words_done {C : Addr} {b n o l p : D} : noFld "words_done" (pileD C b n o l p) = true := nof_pile (by decide +kernel)
theorem nof_pile_can {C : Addr} {b n o l p : D} : noFld "can" (pileD C b n o l p) = true := nof_pile (by decide +kernel)
theorem nof_pile_undo {C : Addr} {b n o l p : D} : noFld "undo" (pileD C b n o l p) = true := nof_pile (by decide +kernel)
theorem okS_ob {q : Bool} {C : Addr} {fs : List (Str × Bool × D)} : okS (.ob q C fs) = true := rfl
theorem noAl_ob {q : Bool} {C : Addr} {fs : List (Str × Bool × D)} {i : Nat} {tm : List Sl} : noAl i (.ob q C fs :: tm) = noAl i tm := by
  unfold noAl
  simp
theorem look_ob {q : Bool} {C : Addr} {fs : List (Str × Bool × D)} {sl : List Sl} : look sl (.ob q C fs) = none := rfl
theorem edO_nx {C0 : Addr} {G : D → List (Str × Bool × D) → Prop} {γ : VSt} : (edO false C0 G).nx γ = obAt 0 C0 γ fun fs' => G .none fs' := propext ⟨fun h => h.2, fun h => ⟨(fun z => nomatch z), h⟩⟩
theorem edO_rt {C0 : Addr} {G : D → List (Str × Bool × D) → Prop} {s : Sl} {γ : VSt} : (edO false C0 G).rt s γ = obAt 0 C0 γ fun fs' => rtS (fun d => G d fs') s := propext ⟨fun h => h.2, fun h => ⟨(fun z => nomatch z), h⟩⟩
theorem edO_nxP {C0 : Addr} {G : D → List (Str × Bool × D) → Prop} {γ : VSt} : (edO true C0 G).nx γ = (0 ≤ γ.n ∧ obAt 1 C0 γ fun fs' => G .none fs') := propext ⟨fun h => ⟨h.1 rfl, h.2⟩, fun h => ⟨fun _ => h.1, h.2⟩⟩
theorem edO_rtP {C0 : Addr} {G : D → List (Str × Bool × D) → Prop} {s : Sl} {γ : VSt} : (edO true C0 G).rt s γ = (0 ≤ γ.n ∧ obAt 1 C0 γ fun fs' => rtS (fun d => G d fs') s) := propext ⟨fun h => ⟨h.1 rfl, h.2⟩, fun h => ⟨fun _ => h.1, h.2⟩⟩
theorem rtS_fz {G : D → Prop} {d : D} : rtS G (.fz d) = G d := rfl
theorem rtS_ow {G : D → Prop} {b : Bool} {d : D} : rtS G (.ow b d) = G d := rfl
theorem rtS_own {G : D → Prop} {d : D} : rtS G (own d) = G d := by
  unfold own
  split <;> rfl
end G
namespace G
open PySem PySem.Spec PyProof.Rows L2
section
variable {C : Cn} {xc : XC C} {C0 : Addr} {W : TwO} {n : Nat} {t : TE} {ts tk : TA} {ko ka : KE}
/-- o(k = e, ..) -/
def kCallOK (x : XH) (C0 : Addr) (W : TwO) (ix : List Nat) (n : Nat) (ko ka : KE) : KE := fun γ q => ko γ fun γ1 => isObA C0 γ1 ∧ ka γ1 fun γ2 => cO x false 0 C0 W n ix γ2 q
/-- f(o, ..) of a def that changes the instance -/
def kCallOD (x : XH) (C0 : Addr) (W : TwO) (n : Nat) (ka : KE) : KE := fun γ q => ka γ fun γ1 => cO x false 0 C0 W n (List.range n) γ1 q
/-- f(purse, o, ..) -/
def kCallOP (x : XH) (c : Int) (C0 : Addr) (W : TwO) (n : Nat) (ka : KE) : KE := fun γ q => ka γ fun γ1 => cO x true c C0 W n (List.range n) γ1 q
end
end G
namespace G
open PySem PySem.Spec PyProof.Rows L2
section
variable {C : Cn} {xc : XC C} {K : PySem.W.Frag} {t ta tb : TE} {ts : TA} {k ka kb ko : KE} {n : Nat} {C0 C1 : Addr} {m : Str} {W W1 : Tw}
/-- things that are no instances -/
def isBase : D → Bool
  | .none => true
  | .int _ => true
  | .str _ => true
  | .list _ => true
  | .tuple _ => true
  | _ => false
theorem isBase_obj {C : Addr} {ns : List Str} {ds : List D} : isBase (objD C ns ds) = false := rfl
/-- x == y, x != y: y is of another sort -/
def kEqS (C0 C1 : Addr) (W : Tw) (neg : Bool) (ka kb : KE) : KE := fun γ q => ka γ fun γ1 => kb γ1 fun γ2 => (datN γ2.sl 2 γ2.tm).elim False fun x => (isC C0 (x.1.getD 0 .none) && (isBase (x.1.getD 1 .none) || isC C1 (x.1.getD 1 .none))) = true ∧ W x.1 fun d => match d with
  | .bool b => q ⟨γ2.sl, .fz (.bool (neg ^^ b)) :: x.2, γ2.n⟩
  | _ => False
/-- x == y: x is of another sort -/
def kEqR (C0 C1 : Addr) (W W1 : Tw) (ka kb : KE) : KE := fun γ q => ka γ fun γ1 => kb γ1 fun γ2 => (datN γ2.sl 2 γ2.tm).elim False fun x => isC C0 (x.1.getD 1 .none) = true ∧ (if isBase (x.1.getD 0 .none) then W [x.1.getD 1 .none, x.1.getD 0 .none] else fun p => isC C1 (x.1.getD 0 .none) = true ∧ W1 x.1 p) fun d => match d with
  | .bool b => q ⟨γ2.sl, .fz (.bool b) :: x.2, γ2.n⟩
  | _ => False
/-- isinstance(x, C): it may be of another sort -/
def kIsC2 (C0 C1 : Addr) (ko : KE) : KE := fun γ q => ko γ fun γ1 => (datN γ1.sl 1 γ1.tm).elim False fun x => if isC C0 (x.1.getD 0 .none) then q ⟨γ1.sl, .fz (.bool true) :: x.2, γ1.n⟩ else (isBase (x.1.getD 0 .none) || isC C1 (x.1.getD 0 .none)) = true ∧ q ⟨γ1.sl, .fz (.bool false) :: x.2, γ1.n⟩
end
end G
namespace G
open PySem PySem.Spec PyProof.Rows L2
abbrev TwIX := List D → (D → D → Prop) → (Addr → D → Prop) → Prop
section
variable {C : Cn} {xc : XC C} {ts tk : TA} {ka : KE} {n : Nat} {C0 : Addr} {W : TwIX} {ix : List Nat}
/-- C(e, ..) -/
def kMakeX (x : XH) (C0 : Addr) (W : TwIX) (n : Nat) (ka : KE) : KE := fun γ q => ka γ fun γ1 => (datN γ1.sl n γ1.tm).elim False fun y => W (objD C0 [] [] :: y.1) (fun r e => r = .none ∧ q ⟨γ1.sl, own e :: y.2, γ1.n⟩) fun c d => x c d ⟨γ1.sl, y.2, γ1.n⟩
/-- C(k = e, ..) -/
def kMakeXK (x : XH) (C0 : Addr) (W : TwIX) (ix : List Nat) (n : Nat) (ka : KE) : KE := fun γ q => ka γ fun γ1 => (datN γ1.sl n γ1.tm).elim False fun y => W (objD C0 [] [] :: (ix.filterMap fun i => y.1[i]?)) (fun r e => r = .none ∧ q ⟨γ1.sl, own e :: y.2, γ1.n⟩) fun c d => x c d ⟨γ1.sl, y.2, γ1.n⟩
end
end G
namespace G
open PySem PySem.Spec PyProof.Rows L2
section
variable {K : PySem.W.Frag} {C : Cn} {xc : XC C} {ka kb : KE} {ta tb : TE}
/-- the signs of a text -/
def sgns (x : Str) : List Str := x.cps.toList.map fun c => ⟨#[c]⟩
/-- list(text) -/
def kListT (ka : KE) : KE := fun γ q => ka γ fun γ1 => match γ1.tm with
  | .fz (.str x) :: tm => x.length ≤ 1000 ∧ q ⟨γ1.sl, .ow true (.list ((sgns x).map PyData.str)) :: tm, γ1.n⟩
  | _ => False
def vUpper : D → (D → Prop) → Prop := fun d q => match d with | .str a => a.length ≤ 5592405 ∧ q (.str (Txt.upper a)) | _ => False
/-- a list of texts, some times -/
def kRepS (ka kb : KE) : KE := fun γ q => ka γ fun γ1 => kb γ1 fun γ2 => match γ2.tm with
  | .fz (.int j) :: s :: tm => (shr γ2.sl s true).elim False fun ds => (strsOf ds).elim False fun ns => (-1000000 ≤ j ∧ j ≤ 1000 ∧ ns.length ≤ 1000) ∧ q ⟨γ2.sl, .ow true (.list ((List.replicate j.toNat ns).flatten.map PyData.str)) :: tm, γ2.n⟩
  | _ => False
end
end G
namespace G
open PySem PySem.Spec PyProof.Rows L2
section
variable {K : PySem.W.Frag} {C : Cn} {xc : XC C}
/-- xs[e] of a name whose spine is owned: a frozen item -/
def kIxFd (r : Nat) (ke : KE) : KE := fun γ q => match γ.sl[r]? with
  | some (.ow false (.list _)) => ke γ fun γ1 => match γ1.tm with
    | .fz (.int i) :: tm => match γ1.sl[r]? with
      | some (.ow false (.list ds)) => ixD ds i fun _ d => q ⟨γ1.sl, .fz d :: tm, γ1.n⟩
      | _ => False
    | _ => False
  | _ => False
end
end G
namespace G
open PySem PySem.Spec PyProof.Rows L2
end G
namespace PySem
end PySem
namespace G
open PySem PySem.Spec PyProof.Rows L2
/-- an error with its value -/
def ErA (H : Hp) (a C : Addr) (v : V) : Prop := ∃ dx, H a = some (exo a C (some dx)) ∧ H dx = some (exd dx [("value", v)])
theorem ErA.same {H H' : Hp} {a C : Addr} {v : V} (h : ErA H a C v) (s : ∀ b o, H b = some o → (∃ dx, o = exo a C (some dx)) ∨ (∃ dx, o = exd dx [("value", v)]) → H' b = some o) : ErA H' a C v := by
  obtain ⟨dx, e1, e2⟩ := h
  exact ⟨dx, s _ _ e1 (.inl ⟨dx, rfl⟩), s _ _ e2 (.inr ⟨dx, rfl⟩)⟩
end G
namespace G
open PySem PySem.Spec PyProof.Rows L2
section
variable {K : PySem.W.Frag} {C : Cn} {xc : XC C} {ka kb kc : KE} {ta tb tc : TE}
/-- x.split(b) -/
def kSplit (b : Str) (ka : KE) : KE := fun γ q => ka γ fun γ1 => (datN γ1.sl 1 γ1.tm).elim False fun x => match x.1 with
  | [.str a] => ((b.length == 0) = false ∧ a.length ≤ 1000000) ∧ q ⟨γ1.sl, .ow true (.list ((Txt.split a b).map PyData.str)) :: x.2, γ1.n⟩
  | _ => False
/-- x.partition(b) -/
def kPartT (b : Str) (ka : KE) : KE := fun γ q => ka γ fun γ1 => (datN γ1.sl 1 γ1.tm).elim False fun x => match x.1 with
  | [.str a] => ((b.length == 0) = false ∧ a.length ≤ 1000000) ∧ q ⟨γ1.sl, .fz (.tuple [.str (Txt.partition a b).1, .str (Txt.partition a b).2.1, .str (Txt.partition a b).2.2]) :: x.2, γ1.n⟩
  | _ => False
/-- int(text) -/
def vIntT : List D → (D → Prop) → Prop := fun ds q => match ds with
  | [.str a] => a.length ≤ 640 ∧ ∃ n, PySem.intText? a = some n ∧ q (.int n)
  | _ => False
/-- {x} in an f-string -/
def vFmt : D → (D → Prop) → Prop := fun d q => match d with
  | .str y => y.length ≤ 1000000 ∧ q (.str y)
  | .int i => i.natAbs.log2 < 1920 ∧ q (.str (toString i))
  | _ => False
/-- [a, b, *c]: texts -/
def kStarS (ka kb kc : KE) : KE := fun γ q => ka γ fun γ1 => kb γ1 fun γ2 => kc γ2 fun γ3 => match γ3.tm with
  | .ow true (.list ds) :: .fz (.str b) :: .fz (.str a) :: tm => (strsOf ds).elim False fun ns => ns.length ≤ 100000 ∧ q ⟨γ3.sl, .ow true (.list ((a :: b :: ns).map PyData.str)) :: tm, γ3.n⟩
  | _ => False
end
section
variable {K : PySem.W.Frag} {C : Cn} {xc : XC C} {ka : KE} {ta : TE} {W : Tw}
def kCallSt (W : Tw) (ka : KE) : KE := fun γ q => ka γ fun γ1 => (datN γ1.sl 1 γ1.tm).elim False fun x => match x.1 with
  | [.tuple ds] => W ds fun d => q ⟨γ1.sl, own d :: x.2, γ1.n⟩
  | _ => False
end
end G
namespace G
open PySem PySem.Spec PyProof.Rows L2
variable {C : Cn} {xc : XC C}
mutual
def rkD : D → Int → D × Int
  | .list ds, k => (.list ((rkDs ds (k + 1)).1 ++ [.int k]), (rkDs ds (k + 1)).2)
  | .tuple ds, k => (.tuple (rkDs ds k).1, (rkDs ds k).2)
  | .none, k => (.none, k)
  | .bool b, k => (.bool b, k)
  | .int i, k => (.int i, k)
  | .str x, k => (.str x, k)
  | .dict x, k => (.dict x, k)
def rkDs : List D → Int → List D × Int
  | [], k => ([], k)
  | d :: ds, k => ((rkD d k).1 :: (rkDs ds (rkD d k).2).1, (rkDs ds (rkD d k).2).2)
end
theorem hasDictAll_app : ∀ ds es : List D, PyData.hasDictAll (ds ++ es) = (PyData.hasDictAll ds || PyData.hasDictAll es)
  | [], es => by simp [PyData.hasDictAll]
  | d :: ds, es => by simp [PyData.hasDictAll, hasDictAll_app ds es, Bool.or_assoc]
mutual
theorem rk_sh : ∀ (d : D) (k : Int), d.showable = true → 0 ≤ k → k + nl d < 2 ^ 20 → (rkD d k).1.showable = true ∧ (rkD d k).1.depth = d.depth ∧ wd (rkD d k).1 ≤ wd d + 25 * nl d ∧ (rkD d k).2 = k + nl d ∧ (rkD d k).1.hasDict = d.hasDict
  | .list ds, k, h, h0, h1 => by
    simp only [nl] at h1
    obtain ⟨a1, a2, a3, a5, a6⟩ := rks_sh ds (k + 1) (by simpa [PyData.showable] using h) (by omega) (by omega)
    have si := sh_int (i := k) (by omega)
    have w := int_wd (i := k) (by omega)
    have dd := si.sh
    have d0 : (PyData.int k).depth = 0 := by simp [PyData.depth]
    refine ⟨?_, ?_, ?_, ?_, ?_⟩
    · simp only [rkD, PyData.showable]
      rw [showableAll_app, a1]
      simp only [PyData.showableAll, dd, Bool.and_true, Bool.true_and]
    · simp only [rkD, PyData.depth]
      rw [depthAll_app, a2]
      simp only [PyData.depthAll, d0]
      omega
    · simp only [rkD, G.wd, nl] at w ⊢
      rw [wds_app]
      simp only [wds, G.wd]
      omega
    · simp only [rkD, nl]
      omega
    · simp only [rkD, PyData.hasDict]
      rw [hasDictAll_app, a6]
      simp [PyData.hasDictAll, PyData.hasDict]
  | .tuple ds, k, h, h0, h1 => by
    simp only [nl] at h1
    obtain ⟨a1, a2, a3, a5, a6⟩ := rks_sh ds k (by simpa [PyData.showable] using h) h0 (by omega)
    refine ⟨by simpa only [rkD, PyData.showable] using a1, ?_, ?_, by simpa only [rkD, nl] using a5, by simpa only [rkD, PyData.hasDict] using a6⟩
    · simp only [rkD, PyData.depth]
      omega
    · simp only [rkD, G.wd, nl]
      omega
  | .none, k, h, h0, h1 => by simp [rkD, nl, h]
  | .bool _, k, h, h0, h1 => by simp [rkD, nl, h]
  | .int _, k, h, h0, h1 => by simp only [rkD, nl]; exact ⟨h, trivial, by omega, by omega, trivial⟩
  | .str _, k, h, h0, h1 => by simp only [rkD, nl]; exact ⟨h, trivial, by omega, by omega, trivial⟩
  | .dict _, k, h, h0, h1 => by simp only [rkD, nl]; exact ⟨h, trivial, by omega, by omega, trivial⟩
theorem rks_sh : ∀ (ds : List D) (k : Int), PyData.showableAll ds = true → 0 ≤ k → k + nls ds < 2 ^ 20 → PyData.showableAll (rkDs ds k).1 = true ∧ PyData.depthAll (rkDs ds k).1 = PyData.depthAll ds ∧ wds (rkDs ds k).1 ≤ wds ds + 25 * nls ds ∧ (rkDs ds k).2 = k + nls ds ∧ PyData.hasDictAll (rkDs ds k).1 = PyData.hasDictAll ds
  | [], k, h, h0, h1 => by simp [rkDs, nls, h]
  | d :: ds, k, h, h0, h1 => by
    simp only [nls] at h1
    simp only [PyData.showableAll, Bool.and_eq_true] at h
    obtain ⟨a1, a2, a3, a5, a6⟩ := rk_sh d k h.1 h0 (by omega)
    obtain ⟨b1, b2, b3, b5, b6⟩ := rks_sh ds (rkD d k).2 h.2 (by omega) (by omega)
    refine ⟨by simp only [rkDs, PyData.showableAll, a1, b1, Bool.and_self], ?_, ?_, ?_, ?_⟩
    · simp only [rkDs, PyData.depthAll, a2, b2]
    · simp only [rkDs, wds, nls]
      omega
    · simp only [rkDs, nls]
      omega
    · simp only [rkDs, PyData.hasDictAll, a6, b6]
end
theorem rk_Sh {k B : Nat} {d : D} (h : Sh k B d) (hn : nl d ≤ 100000) : Sh k (B + 25 * nl d) (rkD d 0).1 ∧ (rkD d 0).1.hasDict = d.hasDict := by
  obtain ⟨a1, a2, a3, a5, a6⟩ := rk_sh d 0 h.sh (Int.le_refl _) (by omega)
  have := h.dp
  have := h.wd
  exact ⟨⟨a1, by omega, by omega⟩, a6⟩
section
variable {H H' : Hp}
mutual
theorem Rep.nlS : ∀ (d : D) (S : List Addr) (v : V), Rep H S v d → d.hasDict = false → S.length = nl d
  | .none, _, _, h, _ => by cases h; rfl
  | .bool b, _, _, h, _ => by cases h; rfl
  | .int i, _, _, h, _ => by cases h; rfl
  | .str x, _, _, h, _ => by cases h; rfl
  | .list ds, _, _, h, q => by
    cases h with
    | lst h1 h2 => rw [List.length_cons, Reps.nlS ds _ _ h2 (by simpa [PyData.hasDict] using q)]; rfl
  | .tuple ds, _, _, h, q => by
    cases h with
    | tup h1 h2 => rw [Reps.nlS ds _ _ h2 (by simpa [PyData.hasDict] using q)]; rfl
  | .dict _, _, _, h, q => by simp [PyData.hasDict] at q
theorem Reps.nlS : ∀ (ds : List D) (S : List Addr) (vs : List V), Reps H S vs ds → PyData.hasDictAll ds = false → S.length = nls ds
  | [], _, _, h, _ => by cases h; rfl
  | d :: ds, _, _, h, q => by
    have q' : d.hasDict = false ∧ PyData.hasDictAll ds = false := by simpa [PyData.hasDictAll] using q
    cases h with
    | cons h1 h2 => rw [List.length_append, Rep.nlS d _ _ h1 q'.1, Reps.nlS ds _ _ h2 q'.2]; rfl
end
mutual
/-- each list has got its rank -/
theorem Rep.ranked (ht : ∀ t vs, H t = some (.tup vs) → H' t = some (.tup vs)) : ∀ (d : D) (S : List Addr) (v : V) (k : Int), Rep H S v d → d.showable = true → d.hasDict = false → (∀ i a xs, S[i]? = some a → H a = some (.lst xs) → H' a = some (.lst (xs ++ [.int (k + (i : Nat))]))) → 0 ≤ k → k + nl d < 2 ^ 20 → Rep H' S v (rkD d k).1
  | .none, _, _, k, h, _, _, _, _, _ => by cases h; exact .non
  | .bool b, _, _, k, h, _, _, _, _, _ => by cases h; exact .bl b
  | .int i, _, _, k, h, _, _, _, _, _ => by cases h; exact .int i
  | .str x, _, _, k, h, _, _, _, _, _ => by cases h; exact .str x
  | .list ds, _, _, k, h, sh, q, w, k0, k1 => by
    cases h with
    | @lst a vs S _ h1 h2 =>
      simp only [nl] at k1
      have e0 := w 0 a vs rfl h1
      rw [Int.natCast_zero, Int.add_zero] at e0
      have r := Reps.ranked ht ds _ _ (k + 1) h2 (by simpa [PyData.showable] using sh) (by simpa [PyData.hasDict] using q) (fun i b xs e e2 => by
        have := w (i + 1) b xs (by simpa using e) e2
        rw [show k + ((i + 1 : Nat) : Int) = k + 1 + (i : Nat) by omega] at this
        exact this) (by omega) (by omega)
      simp only [rkD]
      have r2 := Reps.append r (Reps.cons (.int k) .nil)
      rw [List.append_nil, List.append_nil] at r2
      exact .lst e0 r2
  | .tuple ds, _, _, k, h, sh, q, w, k0, k1 => by
    cases h with
    | tup h1 h2 =>
      simp only [rkD]
      exact .tup (ht _ _ h1) (Reps.ranked ht ds _ _ k h2 (by simpa [PyData.showable] using sh) (by simpa [PyData.hasDict] using q) w k0 (by simpa [nl] using k1))
  | .dict _, _, _, k, h, _, q, _, _, _ => by simp [PyData.hasDict] at q
theorem Reps.ranked (ht : ∀ t vs, H t = some (.tup vs) → H' t = some (.tup vs)) : ∀ (ds : List D) (S : List Addr) (vs : List V) (k : Int), Reps H S vs ds → PyData.showableAll ds = true → PyData.hasDictAll ds = false → (∀ i a xs, S[i]? = some a → H a = some (.lst xs) → H' a = some (.lst (xs ++ [.int (k + (i : Nat))]))) → 0 ≤ k → k + nls ds < 2 ^ 20 → Reps H' S vs (rkDs ds k).1
  | [], _, _, k, h, _, _, _, _, _ => by cases h; exact .nil
  | d :: ds, _, _, k, h, sh, q, w, k0, k1 => by
    have q' : d.hasDict = false ∧ PyData.hasDictAll ds = false := by simpa [PyData.hasDictAll] using q
    have s' : d.showable = true ∧ PyData.showableAll ds = true := by simpa [PyData.showableAll] using sh
    simp only [nls] at k1
    cases h with
    | @cons S T _ _ _ _ h1 h2 =>
      have l1 := Rep.nlS d _ _ h1 q'.1
      obtain ⟨_, _, _, e2, _⟩ := rk_sh d k s'.1 k0 (by omega)
      simp only [rkDs]
      refine .cons (Rep.ranked ht d _ _ k h1 s'.1 q'.1 (fun i a xs e e2 => w i a xs (by rw [List.getElem?_append_left (List.getElem?_eq_some_iff.mp e).1]; exact e) e2) k0 (by omega)) ?_
      rw [e2]
      refine Reps.ranked ht ds _ _ _ h2 s'.2 q'.2 (fun i a xs e e3 => ?_) (by omega) (by omega)
      have := w (S.length + i) a xs (by rw [List.getElem?_append_right (by omega), Nat.add_sub_cancel_left]; exact e) e3
      rw [show k + ((S.length + i : Nat) : Int) = k + (nl d : Nat) + (i : Nat) by omega] at this
      exact this
end
mutual
/-- the cells of a tree are lists -/
theorem Rep.lstS : ∀ (d : D) (S : List Addr) (v : V), Rep H S v d → d.hasDict = false → ∀ a ∈ S, ∃ xs, H a = some (.lst xs) ∧ xs.length ≤ wd d
  | .none, _, _, h, _ => by cases h; exact fun _ m => nomatch m
  | .bool b, _, _, h, _ => by cases h; exact fun _ m => nomatch m
  | .int i, _, _, h, _ => by cases h; exact fun _ m => nomatch m
  | .str x, _, _, h, _ => by cases h; exact fun _ m => nomatch m
  | .list ds, _, _, h, q => by
    cases h with
    | lst h1 h2 =>
      intro a m
      have := wds_len ds
      rcases List.mem_cons.mp m with rfl | m
      · exact ⟨_, h1, by rw [h2.length]; simp only [G.wd]; omega⟩
      · obtain ⟨xs, e, l⟩ := Reps.lstS ds _ _ h2 (by simpa [PyData.hasDict] using q) a m
        exact ⟨xs, e, by simp only [G.wd]; omega⟩
  | .tuple ds, _, _, h, q => by
    cases h with
    | tup h1 h2 =>
      intro a m
      obtain ⟨xs, e, l⟩ := Reps.lstS ds _ _ h2 (by simpa [PyData.hasDict] using q) a m
      exact ⟨xs, e, by simp only [G.wd]; omega⟩
  | .dict _, _, _, h, q => by simp [PyData.hasDict] at q
theorem Reps.lstS : ∀ (ds : List D) (S : List Addr) (vs : List V), Reps H S vs ds → PyData.hasDictAll ds = false → ∀ a ∈ S, ∃ xs, H a = some (.lst xs) ∧ xs.length ≤ wds ds
  | [], _, _, h, _ => by cases h; exact fun _ m => nomatch m
  | d :: ds, _, _, h, q => by
    have q' : d.hasDict = false ∧ PyData.hasDictAll ds = false := by simpa [PyData.hasDictAll] using q
    cases h with
    | cons h1 h2 =>
      intro a m
      rcases List.mem_append.mp m with m | m
      · obtain ⟨xs, e, l⟩ := Rep.lstS d _ _ h1 q'.1 a m
        exact ⟨xs, e, by simp only [wds]; omega⟩
      · obtain ⟨xs, e, l⟩ := Reps.lstS ds _ _ h2 q'.2 a m
        exact ⟨xs, e, by simp only [wds]; omega⟩
end
end
/-- over a list that the body leaves as it is, with its ranks -/
theorem for_enum {K : PySem.W.Frag} {a : Addr} {xs : List V} {g : TG} {tb : TS} {D : Ends} {σ : L2.St} {H : Hp} (Pv : Nat → L2.St → Hp → Prop) (h0 : Pv 0 σ H) (hl : ∀ i σ H, i ≤ xs.length → Pv i σ H → SqL K H a xs)
    (hs : ∀ i x σ H T, xs[i]? = some x → Pv i σ H → H T = none → g (.ref T) σ (upd H T (.tup [.int (i : Nat), x])) fun σ2 H2 => tb { D with nx := Pv (i + 1), ct := Pv (i + 1), bk := D.nx } σ2 H2) (hd : ∀ σ H, Pv xs.length σ H → D.nx σ H) :
    ∃ W : Nat → Nat → L2.St → Hp → Prop, (∃ m, W 0 m σ H) ∧ ∀ i m σ H, W i m σ H →
      ((Ite K a).stop i H ∧ D.nx σ H) ∨ ((Ite K a).go i H ∧ ∃ N : L2.St → Hp → Prop, (∀ σ' H', N σ' H' → ∃ m', m' < m ∧ W (i + 1) m' σ' H') ∧ ∀ x H', (Ite K a).yld i H x H' → g x σ H' fun σ2 H2 => tb { D with nx := N, ct := N, bk := D.nx } σ2 H2) := by
  refine ⟨fun i m σ H => m = xs.length - i ∧ i ≤ xs.length ∧ Pv i σ H, ⟨xs.length, by simp, Nat.zero_le _, h0⟩, ?_⟩
  rintro i m σ H ⟨rfl, hi, p⟩
  have q := hl i σ H hi p
  by_cases hlt : i < xs.length
  · refine .inr ⟨⟨xs, xs[i], q, by simp [hlt]⟩, Pv (i + 1), fun σ' H' p' => ⟨xs.length - (i + 1), by omega, rfl, hlt, p'⟩, fun x H' y => ?_⟩
    obtain ⟨T, z, rfl, hT, rfl, hz⟩ := y
    exact hs i z σ _ T (hz xs q) p hT
  · have e : i = xs.length := by omega
    subst e
    exact .inl ⟨⟨xs, q, Nat.le_refl _⟩, hd σ H p⟩
mutual
theorem nl_wd : ∀ d : D, nl d ≤ G.wd d
  | .none => by simp [nl]
  | .bool _ => by simp [nl]
  | .int _ => by simp [nl]
  | .str _ => by simp [nl]
  | .dict _ => by simp [nl]
  | .list ds => by have := nls_wd ds; simp only [nl, G.wd]; omega
  | .tuple ds => by have := nls_wd ds; simp only [nl, G.wd]; omega
theorem nls_wd : ∀ ds : List D, nls ds ≤ wds ds
  | [] => by simp [nls]
  | d :: ds => by have := nl_wd d; have := nls_wd ds; simp only [nls, wds]; omega
end
/-- all lists of a tree -/
def spLs (n : Nat) : Sp := fun vs H Q _ => ∃ (v : V) (d : D) (S : List Addr), vs = [v] ∧ Rep H S v d ∧ d.hasDict = false ∧ d.depth < n ∧ G.wd d ≤ 10000000 ∧
  ∀ r H', Same H H' → H r = none → H' r = some (.lst (S.map V.ref)) → Q (.ref r) H'
theorem hasDict_memB : ∀ {ds : List D} {d : D}, PyData.hasDictAll ds = false → d ∈ ds → d.hasDict = false
  | x :: ds, d, h, m => by
    have h' : x.hasDict = false ∧ PyData.hasDictAll ds = false := by simpa [PyData.hasDictAll] using h
    rcases List.mem_cons.mp m with rfl | m
    · exact h'.1
    · exact hasDict_memB h'.2 m
/-- for x in l: found = found + lists(x) -/
theorem ls_loop {K : PySem.W.Frag} {n : Nat} {H H1 : Hp} {vs : List V} {ds : List D} {S : List Addr} {l f : Addr} {P : List V} {v0 : V} {y : Option V} {De : Ends} (rs : Reps H S vs ds) (nd : PyData.hasDictAll ds = false) (dp : PyData.depthAll ds < n) (sz : wds ds < 10000000) (hP : P.length ≤ 1) (sm : Same H H1) (hl : H1 l = some (.lst vs)) (hf : H1 f = some (.lst P)) (hf0 : H f = none)
    (k : ∀ σ H' f', (∃ y, σ = [some v0, some (.ref f'), y]) → Same H H' → H f' = none → H' f' = some (.lst (P ++ S.map V.ref)) → De.nx σ H') :
    ∃ W : Nat → Nat → L2.St → Hp → Prop, (∃ m, W 0 m [some v0, some (.ref f), y] H1) ∧ ∀ i m σ H, W i m σ H →
      ((Itl K l).stop i H ∧ De.nx σ H) ∨ ((Itl K l).go i H ∧ ∃ N : L2.St → Hp → Prop, (∀ σ' H', N σ' H' → ∃ m', m' < m ∧ W (i + 1) m' σ' H') ∧ ∀ x H', (Itl K l).yld i H x H' → gName 2 x σ H' fun σ2 H2 => tAsg (tOp rCat (tVar 1) (tCall (spLs n) [] E0 (tCons (tVar 2) tNil))) (gName 1) { De with nx := N, ct := N, bk := De.nx } σ2 H2) := by
  have len := rs.length
  refine for_list (xs := vs) (fun i σ H' => ∃ f' S1 S2 y, σ = [some v0, some (.ref f'), y] ∧ Same H1 H' ∧ H f' = none ∧ S = S1 ++ S2 ∧ S1.length ≤ wds ds ∧ Reps H S2 (vs.drop i) (ds.drop i) ∧ H' f' = some (.lst (P ++ S1.map V.ref))) ⟨f, [], S, y, rfl, Same.refl _, hf0, rfl, Nat.zero_le _, rs, by simpa using hf⟩ (fun i σ H' _ h => ?_) (fun i x σ H' hx h => ?_) (fun σ H' h => ?_)
  · obtain ⟨_, _, _, _, _, sm1, _⟩ := h
    exact SqL.of (sm1 _ _ hl)
  · obtain ⟨f', S1, S2, y, rfl, sm1, hf1, rfl, z1, r2, hl1⟩ := h
    have hi := (List.getElem?_eq_some_iff.mp hx).1
    have ex := (List.getElem?_eq_some_iff.mp hx).2
    have hj : i < ds.length := by omega
    rw [List.drop_eq_getElem_cons hi, List.drop_eq_getElem_cons hj, ex] at r2
    have mi : ds[i] ∈ ds := List.getElem_mem hj
    have q1 := depth_mem mi
    have q2 := wd_mem mi
    have ndx : (ds[i]).hasDict = false := hasDict_memB nd mi
    have nlx := Reps.nlS ds _ _ rs nd
    have nlw := nls_wd ds
    cases r2 with
    | @cons Sx S3 _ _ _ _ r3 r4 =>
      have s2 : Same H H' := fun a o e => sm1 a o (sm a o e)
      refine ⟨_, rfl, _, rfl, x, ds[i], Sx, rfl, r3.same s2, ndx, by omega, by omega, fun r H2 sm2 hr hl2 => ?_⟩
      have lx := Rep.nlS _ _ _ r3 ndx
      rw [List.length_append, List.length_append] at nlx
      refine ⟨f', r, _, _, rfl, rfl, sm2 _ _ hl1, hl2, szle (by simp only [List.length_append, List.length_map]; omega), fun p hp => ?_⟩
      have s3 : Same H1 (upd H2 p (.lst (P ++ S1.map V.ref ++ Sx.map V.ref))) := fun a o e => same_upd hp a o (sm2 a o (sm1 a o e))
      have hp0 : H p = none := by
        cases e : H p with
        | none => rfl
        | some o =>
          have := sm2 _ _ (s2 _ _ e)
          rw [hp] at this
          cases this
      refine ⟨p, S1 ++ Sx, S3, _, rfl, s3, hp0, by simp, by rw [List.length_append]; omega, r4, by rw [upd_same]; simp⟩
  · obtain ⟨f', S1, S2, y, rfl, sm1, hf1, rfl, _, r2, hl1⟩ := h
    rw [List.drop_length, len, List.drop_length] at r2
    cases r2
    rw [List.append_nil] at k
    exact k _ _ _ ⟨_, rfl⟩ (fun a o e => sm1 a o (sm a o e)) hf1 hl1
/-- what is told and what is due, alike: both are spoiled, True is told -/
def spAl2 : Sp := fun vs H Q _ => ∃ (v u : V) (d : D) (S T : List Addr), vs = [v, u] ∧ Rep H S v d ∧ Rep H T u d ∧ (S ++ T).Nodup ∧ d.hasDict = false ∧ Sh 20 5000000 d ∧ nl d ≤ 40000 ∧
  ∀ r H', r = V.bl true → (∀ a o, H a = some o → a ∉ S ++ T → H' a = some o) → Q r H'
/-- for i, x in enumerate(r): x.append(i) -/
theorem rk_loop {K : PySem.W.Frag} {H1 : Hp} {S : List Addr} {r : Addr} {m : Nat} {v u y z : Option V} {De : Ends} (hm : m = 2) (nd : S.Nodup) (hS : ∀ a ∈ S, ∃ xs, H1 a = some (.lst xs) ∧ xs.length < 10000000) (hr : H1 r = some (.lst (S.map V.ref))) (rS : r ∉ S)
    (k : ∀ σ H', (∃ y z, σ = [v, u, y, z]) → (∀ b o, H1 b = some o → b ∉ S → H' b = some o) → (∀ i a xs, S[i]? = some a → H1 a = some (.lst xs) → H' a = some (.lst (xs ++ [.int (i : Nat)]))) → De.nx σ H') :
    ∃ W : Nat → Nat → L2.St → Hp → Prop, (∃ m, W 0 m [v, u, y, z] H1) ∧ ∀ i m' σ H, W i m' σ H →
      ((Ite K r).stop i H ∧ De.nx σ H) ∨ ((Ite K r).go i H ∧ ∃ N : L2.St → Hp → Prop, (∀ σ' H', N σ' H' → ∃ m'', m'' < m' ∧ W (i + 1) m'' σ' H') ∧ ∀ x H', (Ite K r).yld i H x H' → gTup K m (gCons (gName 2) (gCons (gName 3) gNil)) x σ H' fun σ2 H2 => tDrop (tBM K "list" rAppend (tVar 3) (tCons (tVar 2) tNil)) { De with nx := N, ct := N, bk := De.nx } σ2 H2) := by
  subst hm
  refine for_enum (xs := S.map V.ref) (fun i σ H' => (∃ y z, σ = [v, u, y, z]) ∧ (∀ b o, H1 b = some o → b ∉ S → H' b = some o) ∧ (∀ j a xs, S[j]? = some a → H1 a = some (.lst xs) → H' a = some (.lst (if j < i then xs ++ [.int (j : Nat)] else xs)))) ⟨⟨y, z, rfl⟩, fun _ _ e _ => e, fun j a xs _ e => by rw [if_neg (Nat.not_lt_zero _)]; exact e⟩ (fun i σ H' _ h => ?_) (fun i x σ H' T hx h hT => ?_) (fun σ H' h => ?_)
  · exact SqL.of (h.2.1 _ _ hr rS)
  · obtain ⟨⟨y, z, rfl⟩, fr, lk⟩ := h
    rw [List.getElem?_map] at hx
    obtain ⟨a, ea, rfl⟩ := Option.map_eq_some_iff.mp hx
    have ma : a ∈ S := List.mem_of_getElem? ea
    obtain ⟨xs, e1, hl⟩ := hS a ma
    have e2 := lk i a xs ea e1
    rw [if_neg (Nat.lt_irrefl _)] at e2
    have aT : a ≠ T := fun q => by rw [q, hT] at e2; cases e2
    have e3 : upd H' T (.tup [.int (i : Nat), .ref a]) a = some (.lst xs) := by rw [upd_ne aT]; exact e2
    refine ⟨T, [.int (i : Nat), .ref a], rfl, SqT.of upd_same, rfl, _, _, rfl, _, _, rfl, rfl, ?_⟩
    refine ⟨_, rfl, tyL e3, _, rfl, a, _, _, rfl, rfl, e3, szlt (by omega), ?_⟩
    have ne : ∀ b o, H1 b = some o → H' b = none → False := fun b o e n => by
      by_cases mb : b ∈ S
      · obtain ⟨xs, e4, _⟩ := hS b mb
        obtain ⟨j, hj, ej⟩ := List.getElem_of_mem mb
        have := lk j b xs (by rw [List.getElem?_eq_getElem hj, ej]) e4
        rw [n] at this
        cases this
      · have := fr b o e mb
        rw [n] at this
        cases this
    refine ⟨⟨_, _, rfl⟩, fun b o e nb => ?_, fun j b ys ej e => ?_⟩
    · have b1 : b ≠ a := fun q => nb (q ▸ ma)
      have b2 : b ≠ T := fun q => ne b o e (q ▸ hT)
      rw [upd_ne b1, upd_ne b2]
      exact fr b o e nb
    · by_cases hb : b = a
      · subst hb
        have eij : j = i := by
          have h1 := (List.getElem?_eq_some_iff.mp ej).1
          have h2 := (List.getElem?_eq_some_iff.mp ea).1
          exact (List.getElem_inj nd).mp (by rw [(List.getElem?_eq_some_iff.mp ej).2, (List.getElem?_eq_some_iff.mp ea).2])
        subst eij
        rw [e1] at e
        cases e
        rw [upd_same, if_pos (Nat.lt_succ_self _)]
      · have b2 : b ≠ T := fun q => ne b _ e (q ▸ hT)
        rw [upd_ne hb, upd_ne b2, lk j b ys ej e]
        have : j ≠ i := fun q => hb (by
          subst q
          rw [ea] at ej
          exact (Option.some.inj ej).symm)
        by_cases c : j < i
        · rw [if_pos c, if_pos (by omega)]
        · rw [if_neg c, if_neg (by omega)]
  · obtain ⟨hs, fr, lk⟩ := h
    refine k σ H' hs fr fun i a xs e e1 => ?_
    rw [lk i a xs e e1, if_pos (by rw [List.length_map]; exact (List.getElem?_eq_some_iff.mp e).1)]
end G
namespace G
open PySem PySem.Spec PyProof.Rows L2
variable {C : Cn} {xc : XC C}
section
variable {C : Cn} {Z : Reg} {S1 S2 A : List Addr} {σ : L2.St} {H H' : Hp} {sl tm : List Sl} {n : Int} {v u : V} {Θ : List V} {d d1 d2 : D} {s s1 s2 : Sl}
/-- the cells that float may change -/
theorem RelX.float (X : RelX C Z S1 S2 ⟨sl, tm, n⟩ Θ σ H) (f : Fl C Z S1 S2 H A) (nt : ∀ a ∈ A, ∃ o, H a = some o ∧ NT o) (fr : ∀ a o, H a = some o → a ∉ A → H' a = some o) : RelX C Z S1 S2 ⟨sl, tm, n⟩ Θ σ H' := by
  have nd := List.nodup_append.mp f.nd
  have kt : ∀ t vs, H t = some (.tup vs) → H' t = some (.tup vs) := fun t' vs e => fr t' _ e fun m => by
    obtain ⟨xs, e2, nt⟩ := nt t' m
    rw [e] at e2
    cases e2
    exact nt
  have kz0 : ∀ a, C.tz Z a → ∀ o, H a = some o → H' a = some o := fun a z o e => fr a o e fun m => (f.ok a m).1 z
  have kz : ∀ a, Z a → ∀ o, H a = some o → H' a = some o := fun a z => kz0 a (.inl z)
  have ks : ∀ a ∈ S1 ++ S2, ∀ o, H a = some o → H' a = some o := fun a m o e => fr a o e fun m' => nd.2.2 a m' a m rfl
  refine ⟨fun a o e m => ⟨(X.fr a o e m).1, kz0 a (X.fr a o e m).1 o (X.fr a o e m).2⟩, X.es.mono kt (fun _ z => z) kz fun a m => ks a (List.mem_append_left _ m), X.et.mono kt (fun _ z => z) kz fun a m => ks a (List.mem_append_right _ m), X.nd, X.nz, fun p b q => ⟨(X.pu p b q).1.mono fun o e => fr p o e fun m => (f.ok p m).2.1 p b q rfl, (X.pu p b q).2⟩, fun a z => ?_, X.dj, fun j i π v' e ev => ?_⟩
  · obtain ⟨o, e⟩ := X.ex a z
    exact ⟨o, kz0 a z o e⟩
  · obtain ⟨s, d', e', w, e1, e2, e3, e4, wk⟩ := X.al j i π v' e ev
    obtain ⟨w', T', ew, t', sub⟩ := X.slot e1 e2
    rw [e4] at ew
    cases ew
    exact ⟨s, d', e', w, e1, e2, e3, e4, (Tr.part t' e3 wk).2 H' kt fun a z => z.elim (kz a) fun m => ks a (List.mem_append_left _ (sub a m))⟩
/-- a new cell floats -/
theorem Fl.new {p : Addr} {o : HO} (X : RelX C Z S1 S2 ⟨sl, tm, n⟩ Θ σ H) (f : Fl C Z S1 S2 H A) (hp : H p = none) : Fl C Z S1 S2 (upd H p o) (p :: A) := by
  have out := X.fresh hp
  have pA : p ∉ A := fun m => by
    obtain ⟨_, _, o, e⟩ := f.ok p m
    rw [hp] at e
    cases e
  refine ⟨?_, fun a m => ?_⟩
  · rw [List.cons_append]
    refine List.nodup_cons.mpr ⟨fun m => ?_, f.nd⟩
    rcases List.mem_append.mp m with m | m
    · exact pA m
    · exact out.1 m
  · rcases List.mem_cons.mp m with rfl | m
    · exact ⟨out.2.1, out.2.2, _, upd_same⟩
    · obtain ⟨a1, a2, o2, e⟩ := f.ok a m
      exact ⟨a1, a2, o2, by rw [upd_ne (fun q : a = p => pA (q ▸ m))]; exact e⟩
/-- what is given away: an owned tree, or a thing without lists -/
def eatS : Sl → Option D
  | .ow true d => some d
  | .fz d => if nolist d then some d else none
  | _ => none
theorem Ent.eatS {v : Option V} {T : List Addr} (en : Ent C Z H T v s) (e : G.eatS s = some d) : ∃ w, v = some w ∧ Tr H noReg T w d := by
  cases s with
  | ow b d' =>
    cases b with
    | true =>
      cases e
      cases en with
      | ow t => exact ⟨_, rfl, t⟩
    | false => cases e
  | fz d' =>
    simp only [G.eatS] at e
    by_cases hn : nolist d' = true
    · rw [if_pos hn] at e
      cases e
      cases en with
      | fz t => exact ⟨_, rfl, (Tr.nolist _ _ _ t hn).2⟩
    · rw [if_neg hn] at e
      cases e
  | _ => cases e
theorem RelX.pop2 (X : RelX C Z S1 S2 ⟨sl, s2 :: s1 :: tm, n⟩ (u :: v :: Θ) σ H) (e1 : eatS s1 = some d1) (e2 : eatS s2 = some d2) : ∃ A1 A2 B, Tr H noReg A1 v d1 ∧ Tr H noReg A2 u d2 ∧ (A2 ++ A1).Nodup ∧ RelX C Z S1 B ⟨sl, tm, n⟩ Θ σ H ∧ Fl C Z S1 B H (A2 ++ A1) := by
  obtain ⟨A, B, es, X1, f⟩ := RelX.popF (ss := [s2, s1]) (us := [u, v]) X rfl
  cases es with
  | cons g2 es =>
    cases es with
    | cons g1 es =>
      cases es
      obtain ⟨w1, ew1, t1⟩ := g1.eatS e1
      obtain ⟨w2, ew2, t2⟩ := g2.eatS e2
      cases ew1
      cases ew2
      rw [List.append_nil] at f
      exact ⟨_, _, B, t1, t2, (List.nodup_append.mp f.nd).1, X1, f⟩
/-- a new list of floating trees is owned -/
theorem RelX.own {p : Addr} {A' Dr : List Addr} {vs : List V} {ds : List D} (X : RelX C Z S1 S2 ⟨sl, tm, n⟩ Θ σ H) (f : Fl C Z S1 S2 H A) (nt : ∀ a ∈ A, ∃ o, H a = some o ∧ NT o) (hp : H p = none) (pm : A.Perm (A' ++ Dr)) (t : Trs H noReg A' vs ds) : Rel C ⟨sl, .ow true (.list ds) :: tm, n⟩ (.ref p :: Θ) σ (upd H p (.lst vs)) := by
  have X2 := X.sameX (same_upd (o := .lst vs) hp)
  have f2 := f.new (o := .lst vs) X hp
  have t2 : Trs (upd H p (.lst vs)) noReg A' vs ds := Trs.mono (fun t ws e => same_upd hp _ _ e) (fun _ z => z) (fun _ z => z.elim) _ _ _ t fun a m o e => same_upd hp _ _ e
  exact ⟨Z, S1, _, X2.pushF (A' := p :: A') (Dr := Dr) f2 (by rw [List.cons_append]; exact List.Perm.cons p pm) (.ow (.lst upd_same t2)) (fun i π z => nomatch z)⟩
end
/-- what is told and what is due are given away, alike -/
def kCallA2 (ka : KE) : KE := fun γ q => ka γ fun γ1 => match γ1.tm with
  | s2 :: s1 :: tm => (eatS s1).elim False fun d1 => (eatS s2).elim False fun d2 => (d1 = d2 ∧ d1.hasDict = false ∧ Sh 20 5000000 d1 ∧ nl d1 ≤ 40000) ∧ q ⟨γ1.sl, .fz (.bool true) :: tm, γ1.n⟩
  | _ => False
theorem so_callA2 {ts : TA} {ka : KE} (h : SoA xc 2 ts ka) : SoE xc (tCall spAl2 [] E0 ts) (kCallA2 ka) := fun γ Θ σ H Q q R hk w => h γ Θ σ H _ _ R hk fun γ1 vs H1 el hk1 R1 => by
  match vs, el, R1 with
  | [v, u], _, R1 =>
    obtain ⟨sl, tm, j⟩ := γ1
    dsimp only at hk1
    split at hk1
    · rename_i s2 s1 tm
      obtain ⟨d1, e1, hk2⟩ := elimF hk1
      obtain ⟨d2, e2, ⟨rfl, hd, sh, hn⟩, hq⟩ := elimF hk2
      obtain ⟨Z, S1, S2, X⟩ := R1
      obtain ⟨A1, A2, B, t1, t2, nd, X1, f⟩ := RelX.pop2 (Θ := Θ) (u := u) (v := v) X e1 e2
      have nt : ∀ a ∈ A2 ++ A1, ∃ o, H1 a = some o ∧ NT o := fun a m => by
        rcases List.mem_append.mp m with m | m
        · exact Tr.domN _ _ _ t2 a m
        · exact Tr.domN _ _ _ t1 a m
      refine ⟨v, u, d1, A1, A2, by simp, Tr.repO _ _ _ t1, Tr.repO _ _ _ t2, (List.perm_append_comm.nodup_iff).mp nd, hd, sh, hn, fun r H' er fr => ?_⟩
      subst er
      have X2 := X1.float f nt fun a o e m => fr a o e fun m' => m ((List.perm_append_comm.mem_iff).mp m')
      exact w _ _ H' hq (Rel.push ⟨_, _, _, X2⟩ fun Z => .bl true)
    · exact hk1.elim
/-- for x in lists(h): x.append(c) — h is given away -/
def kSpoilL (n : Nat) (h j : Nat) : KS := fun γ e => match γ.sl[h]? with
  | some (.ow true d) => (h ≠ j ∧ j < γ.sl.length ∧ noAl h γ.tm = true ∧ noAl j γ.tm = true ∧ d.hasDict = false ∧ d.depth < n ∧ G.wd d ≤ 4000000) ∧ e.nx ⟨(γ.sl.set h .jk).set j .jk, γ.tm, γ.n⟩
  | _ => False
end G
namespace G
open PySem PySem.Spec PyProof.Rows L2
variable {C : Cn} {xc : XC C}
/-- an owned list that is moved -/
def mvL : Sl → Option (List D)
  | .ow true (.list ds) => some ds
  | _ => none
/-- both owned lists, one behind the other -/
def kCatM (ka kb : KE) : KE := fun γ q => ka γ fun γ1 => kb γ1 fun γ2 => match γ2.tm with
  | s2 :: s1 :: tm => (mvL s1).elim False fun ds => (mvL s2).elim False fun es => (ds.length + es.length ≤ 10000000) ∧ q ⟨γ2.sl, .ow true (.list (ds ++ es)) :: tm, γ2.n⟩
  | _ => False
/-- sorted(an owned list) -/
def kSortM (ka : KE) : KE := fun γ q => ka γ fun γ1 => match γ1.tm with
  | s :: tm => (mvL s).elim False fun ds => SortOk ds ∧ q ⟨γ1.sl, .ow true (.list (sortD ds)) :: tm, γ1.n⟩
  | [] => False
def snap : Sl → Sl
  | .fz d => .fz d
  | .ow _ d => .fz d
  | .io d => .fz d
  | .dc m => .fz (dictD m)
  | .sh d => .fz (.tuple [d, d, d])
  | _ => .jk
theorem snap_dat {s : Sl} {d : D} (e : snap s = .fz d) : datS s = some d := by
  cases s <;> simp only [snap] at e <;> first | (cases e; rfl) | cases e
theorem snap_jk {s : Sl} : (∃ d, snap s = .fz d) ∨ snap s = .jk := by
  cases s <;> simp [snap]
def snC (H : Hp) : Cn := ⟨H, noReg, none, (fun _ _ h => nomatch h), none, noReg⟩
theorem Ents.snap {Z : Reg} {H : Hp} (hz : ∀ a, Z a → ∃ o, H a = some o) : ∀ {ss : List Sl} {S : List Addr} {vs : List (Option V)}, Ents C Z H S vs ss → Ents (snC H) (fun a => ∃ o, H a = some o) H [] vs (ss.map G.snap)
  | [], _, _, h => by cases h; exact .nil
  | s :: ss, _, _, h => by
    cases h with
    | @cons S T v vs _ _ h1 h2 =>
      have ih := Ents.snap hz h2
      rw [List.map_cons]
      refine .cons (S := []) ?_ ih
      rcases snap_jk (s := s) with ⟨d, e⟩ | e
      · obtain ⟨w, T', rfl, t, _⟩ := h1.tr (snap_dat e)
        rw [e]
        exact .fz (Tr.freeze (fun a z => hz a z) _ _ _ t fun a m => by
          obtain ⟨o, e, _⟩ := Tr.domN _ _ _ t a m
          exact ⟨o, e⟩)
      · rw [e]
        exact .jk _
theorem Rel.snap {sl tm : List Sl} {n : Int} {Θ : List V} {σ : L2.St} {H : Hp} (R : Rel C ⟨sl, tm, n⟩ Θ σ H) : Rel (snC H) ⟨sl.map G.snap, [], 0⟩ [] σ H ∧ ∀ γ' Θ' σ' H', Rel (snC H) γ' Θ' σ' H' → Same H H' := by
  refine ⟨?_, fun γ' Θ' σ' H' R' a o e => ?_⟩
  · obtain ⟨Z, S1, S2, X⟩ := R
    refine ⟨fun a => ∃ o, H a = some o, [], [], fun a o e _ => ⟨.inl ⟨o, e⟩, e⟩, Ents.snap (fun a z => X.ex a (.inl z)) X.es, .nil, by simp, (fun a m => nomatch m), (fun p b q => nomatch q), fun a z => ?_, fun a _ q => q, fun k i π v e => by simp at e⟩
    rcases z with z | z
    · exact z
    · exact z.elim
  · obtain ⟨Z, S1, S2, X⟩ := R'
    exact (X.fr a o e (fun z => z)).2
def lcM (sl : List Sl) (j : Nat) (kt : KT) : List D → List D → (List D → Prop) → Prop
  | [], acc, q => q acc
  | d :: ds, acc, q => kt ⟨(sl.map snap).set j (.fz d), [], 0⟩ fun b _ => lcM sl j kt ds (if b then acc ++ [d] else acc) q
/-- [x for x in l if t], the items of an owned list moved -/
def kLcMv (ke : KE) (j : Nat) (kt : KT) : KE := fun γ q => ke γ fun γ1 => match γ1.tm with
  | s :: tm => (mvL s).elim False fun ds => (noAl j tm = true ∧ ds.length < 10000000 ∧ j < γ1.sl.length) ∧ lcM (γ1.sl.set j .jk) j kt ds [] fun es => q ⟨γ1.sl.set j .jk, .ow true (.list es) :: tm, γ1.n⟩
  | _ => False
end G
namespace G
open PySem PySem.Spec PyProof.Rows L2
variable {C : Cn} {xc : XC C}
theorem flat_nl {d : D} (h : flatD d = true) : nolist d = true := by cases d <;> first | rfl | exact nomatch h
theorem flats_nl : ∀ {ds : List D}, ds.all flatD = true → nolists ds = true
  | [], _ => rfl
  | d :: ds, h => by
    rw [List.all_cons, Bool.and_eq_true] at h
    rw [nolists, flat_nl h.1, flats_nl h.2]
    rfl
/-- [a, *c]: flat things -/
def kStarF (ka kc : KE) : KE := fun γ q => ka γ fun γ1 => kc γ1 fun γ3 => match γ3.tm with
  | s :: .fz a :: tm => (look γ3.sl s).elim False fun y => match y with
    | .list ys => (flatD a = true ∧ ys.all flatD = true ∧ ys.length ≤ 1000000) ∧ q ⟨γ3.sl, .ow true (.list (a :: ys)) :: tm, γ3.n⟩
    | _ => False
  | _ => False
theorem so_starF {K : PySem.W.Frag} {ta tc : TE} {ka kc : KE} (ha : SoE xc ta ka) (hc : SoE xc tc kc) : SoE xc (tLst (tCons ta (StX.tStar K tc tNil))) (kStarF ka kc) := fun γ Θ σ H Q q R hk w => ha γ Θ σ H _ _ R hk fun γ1 v1 H1 hk1 R1 => hc γ1 _ σ H1 _ _ R1 hk1 fun γ3 v3 H3 hk3 R3 => by
  obtain ⟨sl, tm, n⟩ := γ3
  dsimp only at hk3
  split at hk3
  · rename_i s a tm
    obtain ⟨y, ey, hk4⟩ := elimF hk3
    split at hk4
    · rename_i ys
      obtain ⟨⟨fa, fs, hl⟩, hq⟩ := hk4
      obtain ⟨T3, r3, _⟩ := R3.read ey
      have R4 := R3.pop
      obtain ⟨T1, r1, _⟩ := R4.read (d := a) rfl
      obtain ⟨ea, _⟩ := Reps.flat (ds := [a]) (.cons r1 .nil) (by rw [List.all_cons, fa]; rfl)
      obtain rfl : v1 = vOf a := by simpa using ea
      cases r3 with
      | @lst p vs S _ hp rs =>
        obtain ⟨rfl, _⟩ := rs.flat fs
        have hs := sizeLine_eq
        refine ⟨p, ys.map vOf, rfl, .inr (SqL.of hp), ?_, fun p' hp' => ?_⟩
        · simp
          omega
        · obtain ⟨Z, S1, S2, X⟩ := R4.pop
          have := Rel.newL X (Trs.flatV (ds := a :: ys) (by rw [List.all_cons, fa, fs]; rfl)) hp'
          unfold G.newL at this
          rw [flats_nl (by rw [List.all_cons, fa, fs]; rfl)] at this
          simp only [List.map_cons] at this ⊢
          rw [List.append_nil]
          exact w _ _ _ hq this
    · exact hk4.elim
  · exact hk3.elim
/-- x.extend(an owned list) -/
def kExtM (ko ke : KE) : KE := fun γ q => ko γ fun γ1 => isLst γ1 ∧ ke γ1 fun γ2 => match γ2.tm with
  | s :: .al i [] :: tm => (mvL s).elim False fun ys => noAl i tm = true ∧ ((γ2.sl[i]?).bind mvL).elim False fun es => es.length + ys.length < 10000000 ∧ q ⟨γ2.sl.set i (.ow true (.list (es ++ ys))), .fz .none :: tm, γ2.n⟩
  | _ => False
end G
namespace G
open PySem PySem.Spec PyProof.Rows L2
variable {C : Cn} {xc : XC C}
/-- the items, one by one, each owned by the name -/
def forM (j : Nat) (kb : KS) (tm : List Sl) : List D → VSt → KEd → Prop
  | [], γ, e => e.nx ⟨γ.sl, tm, γ.n⟩
  | d :: ds, γ, e => noAl j (ds.map own ++ tm) = true ∧ kb ⟨γ.sl.set j (own d), ds.map own ++ tm, γ.n⟩ ⟨fun γ2 => γ2.tm = ds.map own ++ tm ∧ forM j kb tm ds γ2 e, e.rt, fun _ => False, fun γ2 => γ2.tm = ds.map own ++ tm ∧ forM j kb tm ds γ2 e⟩
def kForMv (ke : KE) (j : Nat) (kb : KS) : KS := fun γ e => ke γ fun γ1 => match γ1.tm with
  | s :: tm => (mvL s).elim False fun ds => forM j kb tm ds ⟨γ1.sl, tm, γ1.n⟩ ⟨fun γ2 => e.nx ⟨γ2.sl, γ.tm, γ2.n⟩ ∧ tm = γ.tm, e.rt, fun _ => False, fun _ => False⟩
  | _ => False
theorem noAl_mapown {j : Nat} {ds : List D} {tm : List Sl} : noAl j (ds.map own ++ tm) = noAl j tm := by
  induction ds with
  | nil => rfl
  | cons d ds ih => rw [List.map_cons, List.cons_append, noAl_own, ih]
theorem noAl_mapown0 {j : Nat} {ds : List D} : noAl j (ds.map own) = true := by
  have := noAl_mapown (j := j) (ds := ds) (tm := [])
  rw [List.append_nil] at this
  rw [this]
  rfl
/-- a test in a snapshot: nothing is frozen by it -/
def kSnapT (kt : KT) : KT := fun γ q => kt ⟨γ.sl.map snap, [], 0⟩ fun b _ => q b γ
end G
namespace G
open PySem PySem.Spec PyProof.Rows L2
variable {C : Cn} {xc : XC C}
section
variable {t t1 t2 ta tb tc : TE} {k k1 k2 ka kb kc ko : KE} {n m : Nat} {K : PySem.W.Frag}
/-- a def to which both its arguments are given -/
def spW2 (W : Tw) : Sp := fun vs H Q _ => ∃ v0 v1 A0 A1 d0 d1 G, vs = [v0, v1] ∧ Rep H A0 v0 d0 ∧ Rep H A1 v1 d1 ∧ (A1 ++ A0).Nodup ∧ W [d0, d1] G ∧
  ∀ d v H', G d → (∀ a o, H a = some o → a ∉ A1 ++ A0 → H' a = some o) → (∃ S2, Rep H' S2 v d ∧ S2.Nodup ∧ ∀ a ∈ S2, a ∈ A1 ++ A0 ∨ H a = none) → Q v H'
theorem giv_tr {Z : Reg} {H1 : Hp} {A : List Addr} {v : V} {s : Sl} {d0 : D} (e1 : Ent C Z H1 A (some v) s) (e0 : giv s = some d0) : Tr H1 noReg A v d0 := by
  cases e1 with
  | jk v => cases e0
  | al v i π => cases e0
  | pu q => cases e0
  | io t q => cases e0
  | dc _ _ => cases e0
  | dt _ _ => cases e0
  | sh _ _ => cases e0
  | xv _ _ => cases e0
  | ho _ _ _ => cases e0
  | xw _ => cases e0
  | ob _ _ _ => cases e0
  | sp q t => cases e0
  | fz t =>
    simp only [giv] at e0
    split at e0
    · rename_i hn
      cases e0
      exact (Tr.nolist _ _ _ t hn).2
    · cases e0
  | ow t => cases e0; exact t
def kCallW2 (W : Tw) (ka : KE) : KE := fun γ q => ka γ fun γ1 => match γ1.tm with
  | s1 :: s0 :: tm => (giv s1).elim False fun d1 => (giv s0).elim False fun d0 => W [d0, d1] fun d => q ⟨γ1.sl, own d :: tm, γ1.n⟩
  | _ => False
theorem so_callW2 {W : Tw} {ts : TA} (h : SoA xc 2 ts ka) : SoE xc (tCall (spW2 W) [] E0 ts) (kCallW2 W ka) := fun γ Θ σ H Q q R hk w => h γ Θ σ H _ _ R hk fun γ1 vs H1 el hk1 R1 => by
  obtain ⟨sl, tm, j⟩ := γ1
  match vs, el with
  | [v0, v1], _ =>
  dsimp only at hk1
  split at hk1
  · rename_i s1 s0 tm
    obtain ⟨d1, e1, hk2⟩ := elimF hk1
    obtain ⟨d0, e0, hw⟩ := elimF hk2
    have R1 : Rel C ⟨sl, s1 :: s0 :: tm, j⟩ (v1 :: v0 :: Θ) _ H1 := R1
    obtain ⟨Z, S1, S2, X⟩ := R1
    obtain ⟨A, B, en, X2, f⟩ := RelX.popF (ss := [s1, s0]) (us := [v1, v0]) X rfl
    obtain ⟨A1, A0, n1, n0, rfl⟩ : ∃ A1 A0, Ent C Z H1 A1 (some v1) s1 ∧ Ent C Z H1 A0 (some v0) s0 ∧ A = A1 ++ A0 := by
      cases en with
      | cons x1 x2 =>
        cases x2 with
        | cons x3 x4 =>
          cases x4
          exact ⟨_, _, x1, x3, by simp⟩
    have t1 := giv_tr n1 e1
    have t0 := giv_tr n0 e0
    have ndA := List.nodup_append.mp f.nd
    rw [List.append_nil]
    refine ⟨v0, v1, A0, A1, d0, d1, _, rfl, Tr.repO _ _ _ t0, Tr.repO _ _ _ t1, ndA.1, hw, fun d v' H' hq fr nw => ?_⟩
    · obtain ⟨Sr, rr, ndr, new⟩ := nw
      have kt : ∀ t xs, H1 t = some (.tup xs) → H' t = some (.tup xs) := fun t xs et => fr t _ et fun m => by
        rcases List.mem_append.mp m with m | m
        · obtain ⟨ys, q, nt⟩ := Tr.domN _ _ _ t1 t m
          rw [et] at q
          cases q
          exact nt
        · obtain ⟨ys, q, nt⟩ := Tr.domN _ _ _ t0 t m
          rw [et] at q
          cases q
          exact nt
      have kz0 : ∀ a, C.tz Z a → ∀ o, H1 a = some o → H' a = some o := fun a z o eo => fr a o eo fun m => (f.ok a m).1 z
      have kz : ∀ a, Z a → ∀ o, H1 a = some o → H' a = some o := fun a z => kz0 a (.inl z)
      have inS : ∀ a ∈ S1 ++ B, a ∈ S1 ++ B := fun a m => m
      have ks : ∀ a ∈ S1 ++ B, ∀ o, H1 a = some o → H' a = some o := fun a m o eo => fr a o eo fun m' => ndA.2.2 a m' a (inS a m) rfl
      have X3 : RelX C Z S1 B ⟨sl, tm, j⟩ Θ σ H' := by
        refine ⟨fun a o e m => ⟨(X2.fr a o e m).1, kz0 a (X2.fr a o e m).1 o (X2.fr a o e m).2⟩, X2.es.mono kt (fun _ z => z) kz fun a m => ks a (List.mem_append_left _ m), X2.et.mono kt (fun _ z => z) kz fun a m => ks a (List.mem_append_right _ m), X2.nd, X2.nz, fun p b q => ⟨(X2.pu p b q).1.mono fun o eo => fr p o eo fun m => (f.ok p m).2.1 p b q rfl, (X2.pu p b q).2⟩, fun a z => ?_, X2.dj, fun k i π u e ev => ?_⟩
        · obtain ⟨o, eo⟩ := X2.ex a z
          exact ⟨o, kz0 a z o eo⟩
        · obtain ⟨s, d', e', w', g1, g2, g3, g4, wk⟩ := X2.al k i π u e ev
          obtain ⟨w2, T', ew, t, sub⟩ := X2.slot g1 g2
          rw [g4] at ew
          cases ew
          exact ⟨s, d', e', w', g1, g2, g3, g4, (Tr.part t g3 wk).2 H' kt fun a z => z.elim (kz a) fun m => ks a (List.mem_append_left _ (sub a m))⟩
      have tv : Tr H' noReg Sr v' d := Rep.tr _ _ _ rr
      have old : ∀ a ∈ Sr, a ∉ S1 ++ B ∧ ¬ C.tz Z a ∧ ∀ p b, C.pu = some (p, b) → a ≠ p := fun a m => by
        rcases new a m with z | z
        · exact ⟨fun q => ndA.2.2 a z a (inS a q) rfl, (f.ok a z).1, (f.ok a z).2.1⟩
        · refine ⟨fun q => ?_, fun q => ?_, fun p b q y => ?_⟩
          · rcases List.mem_append.mp q with q | q
            · obtain ⟨xs, e⟩ := X2.es.dom a q
              rw [z] at e; cases e
            · obtain ⟨xs, e⟩ := X2.et.dom a q
              rw [z] at e; cases e
          · obtain ⟨o, e⟩ := X2.ex a q
            rw [z] at e; cases e
          · obtain ⟨x1, x2, x3, e, _⟩ := (X2.pu p b q).1
            rw [← y, z] at e; cases e
      refine w _ v' H' hq ?_
      unfold own
      by_cases hnl : nolist d = true
      · rw [if_pos hnl]
        exact Rel.push ⟨_, _, _, X3⟩ fun Z => (Tr.nolist d Sr v' tv hnl).2
      · rw [if_neg hnl]
        exact ⟨_, _, _, X3.pushE (Z' := Z) (.ow tv) ndr old (fun i π z => nomatch z)⟩
  · exact hk1.elim
section
variable {P : Program} {w : World} {mg : Str → Option Value} {base : Heap} {kl : Nat} {f : Addr} {fd : FuncData} {ps : List Str}
theorem okW2 {x qual : Str} {st : Stmt} {N : List Str} {W : Tw} {kb : KS} (F : Fun K x qual st f fd) (S : FnScope N ps (defScope st)) (hN : ps.length ≤ N.length) (har : ∀ ds G, W ds G → ds.length = ps.length)
    (hb : ∀ (cdv : Value) (A : Around) (outer : List Env) (s : Shared) (H : Hp) (E : XK), Bare (A.deeper (envOfC qual (defScope st) s.heap.objs.size f cdv)) → Room kl (A.deeper (envOfC qual (defScope st) s.heap.objs.size f cdv)) → ∃ t, PSs (cxOf CX0 P w K mg base N qual (defScope st) f cdv A outer s H E).nox (defBody st) t ∧ ∀ (C : Cn) (xc : XC C), SoS xc t kb)
    (val : ∀ d0 d1 G, W [d0, d1] G → kb ⟨own d0 :: own d1 :: List.replicate (N.length - ps.length) .jk, [], 0⟩ (edT G)) : FnG P w K mg base CX0 (kl + 1) f fd ps (spW2 W) := by
  refine okG F S (fun vs H Q E h => ?_) (fun cdv A outer s H vs Q E hg hr h => ?_)
  · obtain ⟨v0, v1, A0, A1, d0, d1, G, rfl, _, _, _, hw, _⟩ := h
    exact har _ _ hw
  · obtain ⟨t, hp, so⟩ := hb cdv A outer s H E hg hr
    obtain ⟨v0, v1, A0, A1, d0, d1, Gq, rfl, r0, r1, nd0, hw, hk⟩ := h
    have ea := har _ _ hw
    obtain ⟨S0, hS0⟩ : ∃ S0, A1 ++ A0 = S0 := ⟨_, rfl⟩
    have nd2 := List.nodup_append.mp nd0
    have jks : ∀ (k : Nat) {C : Cn} {Z : Reg}, Ents C Z H [] (List.replicate k none) (List.replicate k .jk) := fun k => by
      induction k with
      | zero => exact .nil
      | succ k ih => exact .cons (S := []) (.jk _) ih
    let C : Cn := ⟨H, fun a => a ∈ S0, none, fun _ _ z => (nomatch z), none, noReg⟩
    let Z : Reg := fun a => (∃ o, H a = some o) ∧ a ∉ S0
    have entX : ∀ {v : V} {d : D} {S : List Addr}, Rep H S v d → ∃ S', Ent C Z H S' (some v) (own d) ∧ (S' = [] ∨ S' = S) := fun {v d S} r0 => by
      unfold own
      by_cases hn : nolist d = true
      · rw [if_pos hn]
        exact ⟨[], .fz (Tr.nolist _ _ _ (Rep.tr (Z := Z) _ _ _ r0) hn).2, .inl rfl⟩
      · rw [if_neg hn]
        exact ⟨S, .ow (Rep.tr _ _ _ r0), .inr rfl⟩
    obtain ⟨P0, en0, hP0⟩ := entX r0
    obtain ⟨P1, en1, hP1⟩ := entX r1
    have sub0 : ∀ a ∈ P0, a ∈ A0 := fun a m => by
      rcases hP0 with rfl | rfl
      · cases m
      · exact m
    have sub1 : ∀ a ∈ P1, a ∈ A1 := fun a m => by
      rcases hP1 with rfl | rfl
      · cases m
      · exact m
    have ndP0 : P0.Nodup := by
      rcases hP0 with rfl | rfl
      · exact List.nodup_nil
      · exact nd2.2.1
    have ndP1 : P1.Nodup := by
      rcases hP1 with rfl | rfl
      · exact List.nodup_nil
      · exact nd2.1
    have subS' : ∀ a ∈ P0 ++ P1, a ∈ S0 := fun a m => by
      rw [← hS0]
      rcases List.mem_append.mp m with m | m
      · exact List.mem_append_right _ (sub0 a m)
      · exact List.mem_append_left _ (sub1 a m)
    have ndS' : (P0 ++ P1).Nodup := List.nodup_append.mpr ⟨ndP0, ndP1, fun a m b m' e => nd2.2.2 b (sub1 b m') a (sub0 a m) e.symm⟩
    have start : RelX C Z ((P0 ++ P1) ++ []) [] ⟨own d0 :: own d1 :: List.replicate (N.length - ps.length) .jk, [], 0⟩ [] (L2.start N [v0, v1]) H := by
      refine ⟨fun a o e m => ⟨.inl ⟨⟨o, e⟩, m⟩, e⟩, ?_, .nil, by simpa using ndS', fun a m => fun z => z.elim (fun z => z.2 (subS' a (by simpa using m))) id, fun p b q => (nomatch q), fun a z => z.elim (fun z => z.1) False.elim, fun _ _ z => z, fun k i π v e => by simp at e⟩
      show Ents C Z H _ (L2.start N [v0, v1]) _
      unfold L2.start
      have e1 : N.length - [v0, v1].length = N.length - ps.length := by rw [← ea]; rfl
      rw [e1, List.append_nil]
      have q := Ents.cons en0 (.cons en1 (jks (N.length - ps.length)))
      rw [List.append_nil] at q
      exact q
    have org : ∀ {Z2 : Reg} {Sa Sb : List Addr} {γ : VSt} {Θ : List V} {σ : L2.St} {H' : Hp}, RelX C Z2 Sa Sb γ Θ σ H' → ∀ a, ¬ C.tz Z2 a → a ∈ S0 ∨ H a = none := fun X a nz => by
      cases q : H a with
      | none => exact .inr rfl
      | some o =>
        left
        exact Classical.byContradiction fun hm => nz (X.fr a o q hm).1
    have out : ∀ {sl tm : List Sl} {s : Sl} {n : Int} {v : V} {Θ : List V} {σ : L2.St} {H' : Hp}, Rel C ⟨sl, s :: tm, n⟩ (v :: Θ) σ H' → rtN Gq s → Q v H' := fun {sl tm s n v Θ σ H'} R hr => by
      obtain ⟨Z2, Sa, Sb0, X0⟩ := R
      obtain ⟨A, Sb, en, X, f⟩ := RelX.popF (ss := [s]) (us := [v]) X0 rfl
      obtain ⟨A', e1, rfl⟩ : ∃ A', Ent C Z2 H' A' (some v) s ∧ A = A' := by
        cases en with
        | cons e1 e2 =>
          cases e2
          exact ⟨_, e1, by simp⟩
      have res : ∃ d, Gq d ∧ Rep H' A v d := by
        cases e1 with
        | jk v => cases hr
        | al v i π => cases hr
        | pu q => cases hr
        | io t q => cases hr
        | dc _ _ => cases hr
        | dt _ _ => cases hr
        | sh _ _ => cases hr
        | xv _ _ => cases hr
        | ho _ _ _ => cases hr
        | xw _ => cases hr
        | ob _ _ _ => cases hr
        | sp q t => cases hr
        | fz t => exact ⟨_, hr.2, Tr.repO _ _ _ (Tr.nolist (Z' := noReg) _ _ _ t hr.1).2⟩
        | ow t => exact ⟨_, hr, Tr.repO _ _ _ t⟩
      obtain ⟨d, hG, rd⟩ := res
      exact hk d v H' hG (fun a o eo hm => (X.fr a o eo fun z => hm (by rw [hS0]; exact z)).2) ⟨A, rd, (List.nodup_append.mp f.nd).1, fun a m => by rw [hS0]; exact org X a (f.ok a m).1⟩
    refine ⟨t, hp, so C (noXC C) _ [] _ H _ (edT Gq) ⟨Z, _, [], start⟩ (val d0 d1 Gq hw) ⟨fun γ' σ' H' hn R => ?_, fun s γ' v Θ' σ' H' hr R => ?_, fun _ _ _ z _ => z.elim, fun _ _ _ z _ => z.elim⟩⟩
    · obtain ⟨sl, tm, n⟩ := γ'
      exact out (R.push (v := .non) (d := .none) fun Z => .non) ⟨rfl, hn⟩
    · exact out R hr
end
end
/-- divmod by a number that may be negative -/
theorem call_divmodN {X : Cx} : CallR X (.builtin "divmod") (fun xs H Q => ∃ i j, xs = [.int i, .int j] ∧ CDivN i j ∧ ∀ p, H p = none → Q (.ref p) (upd H p (.tup [.int (i.fdiv j), .int (i.fmod j)]))) := by
  intro pins s σ H xs us Q I r h
  obtain ⟨i, j, rfl, ⟨h1, h2⟩, q⟩ := h
  obtain ⟨u, w', rfl, ⟨t, rfl⟩, ⟨t', rfl⟩⟩ := vals2 r
  refine divmod_int h1 ?_ (.inl (PyProof.noPylong_small h2))
  have hn : H s.heap.objs.size = none := I.hok.fresh (Nat.le_refl _)
  refine ⟨.ref s.heap.objs.size, _, ?_, rfl, q _ hn⟩
  refine I.laid (fun b o e => Heap.get?_push_of_some _ e) (Nat.le_refl _) ⟨by simp only [List.length_cons, List.length_nil]; rw [sizeLine_eq]; decide, [.int (i.fdiv j) s.toks, .int (i.fmod j) (s.toks + 1)], .cons ⟨_, rfl⟩ (.cons ⟨_, rfl⟩ .nil), ?_⟩
  exact ⟨_, Heap.get?_push_size s.heap rfl, rfl, 0, rfl⟩
section
variable {ka : KE}
def kDivmodN (ka : KE) : KE := fun γ q => ka γ fun γ1 => (datN γ1.sl 2 γ1.tm).elim False fun x => match x.1 with
  | [.int i, .int j] => CDivN i j ∧ q ⟨γ1.sl, .fz (.tuple [.int (i.fdiv j), .int (i.fmod j)]) :: x.2, γ1.n⟩
  | _ => False
theorem so_divmodN {ts : TA} (h : SoA xc 2 ts ka) : SoE xc (tCB (fun xs H Q => ∃ i j, xs = [.int i, .int j] ∧ CDivN i j ∧ ∀ p, H p = none → Q (.ref p) (upd H p (.tup [.int (i.fdiv j), .int (i.fmod j)]))) ts) (kDivmodN ka) := fun γ Θ σ H Q q R hk w => h γ Θ σ H _ _ R hk fun γ1 vs H1 el hk1 R1 => by
  obtain ⟨⟨ds, rr⟩, e, hf⟩ := elimF hk1
  obtain ⟨R3, T, rp, _⟩ := Rel.pops (Θ := Θ) R1 el e
  dsimp only at hf
  split at hf
  · rename_i i j
    obtain ⟨hc, hq⟩ := hf
    obtain ⟨v, u, T1, T2, rfl, r1, r2⟩ := rp.c2
    cases r1
    cases r2
    refine ⟨i, j, rfl, hc, fun p hp => ?_⟩
    have nw : New H1 (upd H1 p (.tup [.int (i.fdiv j), .int (i.fmod j)])) (.ref p) (.tuple [.int (i.fdiv j), .int (i.fmod j)]) := ⟨[], .tup upd_same (.cons (S := []) (.int _) (.cons (S := []) (.int _) .nil)), List.nodup_nil, fun _ z => nomatch z⟩
    have R4 := R3.newR (same_upd (o := .tup [.int (i.fdiv j), .int (i.fmod j)]) hp) nw
    exact w _ _ _ hq R4
  · exact hf.elim
end
end G
local macro_rules | `(tactic| walk_at "mem") => `(tactic| (repeat (first | exact List.Mem.head _ | apply List.Mem.tail)))
local macro_rules | `(tactic| walk_at "pick") => `(tactic| (repeat (first | exact G.Pick.hd | apply G.Pick.tl)))
local macro_rules | `(tactic| walk_at "lit") => `(tactic| (repeat (first | exact G.lit_int | exact G.litA_nil | exact G.lit_bool | exact G.lit_none | exact G.lit_str | refine G.lit_tup ?_ | refine G.lit_lst ?_ | refine G.litA_cons ?_ ?_)))
local macro_rules | `(tactic| walk_at "up") => `(tactic| (repeat (first | assumption | exact G.Rdb.int _ | apply G.Rdb.upO | apply G.Rdb.upT | apply G.Rdb.upF)))
local macro_rules | `(tactic| walk_at "memu") => `(tactic| (repeat (first | exact List.Mem.head _ | assumption | apply List.Mem.tail)))
local macro_rules | `(tactic| walk_at "picku") => `(tactic| (repeat (first | exact G.Pick.hd | assumption | apply G.Pick.tl)))
local macro_rules | `(tactic| walk_at "ev") => `(tactic| try simp (config := { maxSteps := 2000000 }) only [G.noAl_mapown0, G.kSnapT, G.snap, G.kForMv, G.noAl_mapown, G.kStarF, G.kExtM, G.kCallA2, G.kCallW2, G.kSpoilL, G.kCatM, G.kSortM, G.kLcMv, G.eatS, G.mvL, G.kZ, G.kgFld, G.kObApp, G.kObPop, G.kObNew, G.obLst, G.isObA, G.cO, G.cO.putO', G.kCallO, G.kCallOK, G.kCallOD, G.kCallOP, G.kMethO, G.kMakeO, G.obAt, G.edO_nx, G.edO_rt, G.edO_nxP, G.edO_rtP, G.rtS_fz, G.rtS_ow, G.rtS_own, G.datS_pile, G.datS_pile2, G.obD_pile, G.pile_0, G.pile_1, G.pile_2, G.pile_3, G.pile_4, G.pile2_1, G.pile_set3, G.pile_set4, G.pile_len, G.pile2_len, G.put_now, G.put_origins, G.put_p1, G.put_p2, G.put_p3, G.get_p4, G.get_p5, G.app_p4, G.app_p5, G.fld_book, G.fld_now, G.fld_origins, G.fld_led, G.fld_past, G.fld_now2, G.nof_pile_things, G.nof_pile_sources, G.nof_pile_effect, G.nof_pile_words_done, G.nof_pile_can, G.nof_pile_undo, G.okS_ob, G.noAl_ob, G.look_ob, G.kCallI3, G.edI3_rt, G.edI3_nx, G.ioD3_c, G.kMethX, G.kMethXK, G.kCallL3, G.kStar2, G.fzD, G.kInsD, G.kFirsts, G.kFirstsTo, G.kSpoilK, G.kIs, G.kJoin, G.strsOf_map, G.kLenSetT, G.kSlS, G.vCatS, G.kDGetE, G.isC_obj, G.isObj_obj, G.own_obj, G.cntF_obj, G.fld_kept, G.put_kept, G.put_kept2, G.nof_book_names, G.nof_book_words, G.nof_book_effects_held, G.nof_book_effect, G.nof_book_with_word, G.nof_book_without, G.vLenS, G.ty_str_tuple, G.ty_str_list, G.ty_tuple_str, G.ty_tuple_list, G.ty_list_str, G.ty_list_tuple, G.ty_int_str, G.ty_int_tuple, G.ty_int_list, G.ty_bool_str, G.ty_bool_tuple, G.ty_bool_list, G.ty_NoneType_str, G.ty_NoneType_tuple, G.ty_NoneType_list, G.ty_dict_str, G.ty_dict_tuple, G.ty_dict_list, G.kRev, G.kExt, G.kItS, G.vInS, G.kDc, G.dcL, G.kLenO, G.kEqO, G.kEqS, G.kEqR, G.kIsC2, G.isBase, G.isBase_obj, G.kIsC, G.kMethS, G.kMethK, G.kMakeK, G.kMakeX, G.kMakeXK, G.noXH, G.kFld, G.kMeth, G.kProp, G.kMake, G.kFldPut, G.isOb, G.notOw, G.boxM_dictD, G.datS_dc, G.look_dc, G.tyN, G.isObj, G.kC, G.kCallS, G.kCallSK, G.kCallPS, G.fzA, G.fzD, G.v4I, G.kSortD, G.kIxF, G.kIxFd, G.kRepM, G.kListT, G.vUpper, G.kRepS, G.kSplit, G.kPartT, G.vIntT, G.vFmt, G.kStarS, G.kCallSt, G.kgSubN, G.kCallE, G.kEz, G.kIns, G.kClear, G.kReverse, G.kCallX, G.kCallXK, G.kRaise, G.kTry, G.hdX, G.hdE, G.kXval, G.kFz, G.kCallW, G.kCallIA, G.kgUnl, G.itL, G.kThr, G.datS_sh, G.chg_sh, G.chg_tup, G.chg_lst, G.kSink, G.kLenD, G.kLenSet, G.kRepN, G.kCallTM, G.kDivmod, G.kDivmodN, G.kMaxDef, G.kReprL, G.kLc2, G.vInD, G.vIdxD, G.kTupOf, G.kTupV, G.kIxTake, G.kgFill, G.kListMv, G.kDNew, G.kDNewT, G.topK, G.kDGet, G.kDIn, G.kDPut, G.dgS, G.dpS, G.dlS, G.isDc, G.keyD, G.keysD, G.valM_nil, Option.map_some, Option.isSome_none, Option.isSome_some, G.okS_dc, G.okS_dt, G.noAl_dc, G.noAl_dt, G.kVar, G.kFrz, G.kMov, G.kNil, G.kCons, G.kOp, G.vI, G.vB, G.noC, G.vEq, G.vIn, G.vIsN, G.vEqD, G.kChain, G.kUn, G.vNeg, G.kF, G.vLen, G.v2I, G.v1I, G.v3I, G.vInt, G.vAll, G.vSum, G.vSumT, G.vMaxL, G.vRepr, G.kTest, G.kTAnd, G.kTOr, G.kTNot, G.kYes, G.popB, G.pushB, G.kAndV, G.kOrV, G.kNotV, G.kIf, G.popC, G.kMk, G.look_mkL, G.okS_mkL, G.mkS_lt, G.mkS_lf, G.mkS_tt, G.mkS_tf, G.own_int, G.own_bool, G.own_str, G.own_none, G.own_list, G.own_tup, G.con_own, G.okS_own, G.look_own, G.dq, G.kIx, G.seqD, G.subS_fz, G.subS_ow, G.subS_of, G.subS_al, G.kListOf, G.shr, G.kNo, G.popI, G.kPart, G.kSl, G.kSlT, G.kCat, G.kRg2, G.kRg1, G.kListRg, G.kCallT, G.kCallTK, G.kCallP, G.isLst, G.kM, G.vCnt, G.vIdx, G.kApp, G.wrL, G.atP, G.setP, G.kPop, G.kPopAt, G.popK, G.kgSub, G.frzSeq, G.kIt, G.kRng1, G.kRng2, G.kgName, G.okS_fz, G.okS_ow, G.okS_pu, G.okS_al, G.noAl_nil, G.noAl_fz, G.noAl_ow, G.noAl_pu, G.noAl_al, G.noAl_own, G.con_fz, G.con_ow, G.kgNil, G.kgCons, G.kgTup, G.itS, G.kAsg, G.kPar, G.kPar3, G.kAug, G.kDrop, G.kRet, G.kRetN, G.kNever, G.kNext, G.kBreak, G.kCont, G.kSeq, G.kIfS, G.kFor, G.kLc, G.kEnum, G.kZip, G.look_fz, G.look_ow, G.look_al, G.datS_fz, G.datS_ow, G.datS_own, G.datN, G.nolist, G.nolists, G.nolists_ints, G.kLit, G.kRngD, G.kCallI, G.kCallV, G.vBits, G.reS_io, G.reS_ow, G.putS_set, G.datS_io, G.ownF_ow, G.ownF_io, G.edI_rt, G.edI_nx, G.ioD_c, G.giv_ow, G.giv_fz, G.giv_own, G.ioOk, G.cutD_lastI, G.cutD_initI, G.inV_intsD, G.allflat_ints, Option.getD_some, G.edT_rt, G.edP_rt, G.edT_nx, G.edP_nx, G.rtN_fz, G.rtN_ow, G.rtN_own, G.ixD_0, G.ixD_1, G.ixD_2, G.intsOf_map, G.boolsOf_map, G.newL, G.nolists_app, G.flatD, G.vOf,
  List.map_cons, List.map_nil, List.cons_append, List.nil_append, List.append_nil, List.getElem?_cons_zero, List.getElem?_cons_succ, List.getElem?_nil, List.set_cons_zero, List.set_cons_succ, List.getD_cons_zero, List.getD_cons_succ, List.length_cons, List.length_nil, List.length_map, List.all_cons, List.all_nil, List.tail_cons, List.filterMap_cons_some, List.filterMap_nil, Option.elim, Option.bind_some, Option.bind_none, Option.orElse, Option.map_some, Bool.and_true, Bool.true_and, Bool.and_false, Bool.false_and, Bool.not_true, decide_true, Bool.not_false, Bool.false_xor, Bool.true_xor, if_true, if_false, true_and, and_true, true_or, or_true, eq_self, reduceIte, ite_true, ite_false, Bool.false_eq_true, Nat.zero_add, Nat.reduceAdd, implies_true, bne_self_eq_false])
local macro_rules | `(tactic| walk_at "ev0") => `(tactic| try simp (config := { maxSteps := 2000000 }) only [G.noAl_mapown0, G.kSnapT, G.snap, G.kForMv, G.noAl_mapown, G.kStarF, G.kExtM, G.kCallA2, G.kCallW2, G.kSpoilL, G.kCatM, G.kSortM, G.kLcMv, G.eatS, G.mvL, G.kZ, G.kgFld, G.kObApp, G.kObPop, G.kObNew, G.obLst, G.isObA, G.cO, G.cO.putO', G.kCallO, G.kCallOK, G.kCallOD, G.kCallOP, G.kMethO, G.kMakeO, G.obAt, G.edO_nx, G.edO_rt, G.edO_nxP, G.edO_rtP, G.rtS_fz, G.rtS_ow, G.rtS_own, G.datS_pile, G.datS_pile2, G.obD_pile, G.pile_0, G.pile_1, G.pile_2, G.pile_3, G.pile_4, G.pile2_1, G.pile_set3, G.pile_set4, G.pile_len, G.pile2_len, G.put_now, G.put_origins, G.put_p1, G.put_p2, G.put_p3, G.get_p4, G.get_p5, G.app_p4, G.app_p5, G.fld_book, G.fld_now, G.fld_origins, G.fld_led, G.fld_past, G.fld_now2, G.nof_pile_things, G.nof_pile_sources, G.nof_pile_effect, G.nof_pile_words_done, G.nof_pile_can, G.nof_pile_undo, G.okS_ob, G.noAl_ob, G.look_ob, G.kCallI3, G.edI3_rt, G.edI3_nx, G.ioD3_c, G.kMethX, G.kMethXK, G.kCallL3, G.kStar2, G.fzD, G.kInsD, G.kFirsts, G.kFirstsTo, G.kSpoilK, G.kIs, G.kJoin, G.strsOf_map, G.kLenSetT, G.kSlS, G.vCatS, G.kDGetE, G.isC_obj, G.isObj_obj, G.own_obj, G.cntF_obj, G.fld_kept, G.put_kept, G.put_kept2, G.nof_book_names, G.nof_book_words, G.nof_book_effects_held, G.nof_book_effect, G.nof_book_with_word, G.nof_book_without, G.vLenS, G.ty_str_tuple, G.ty_str_list, G.ty_tuple_str, G.ty_tuple_list, G.ty_list_str, G.ty_list_tuple, G.ty_int_str, G.ty_int_tuple, G.ty_int_list, G.ty_bool_str, G.ty_bool_tuple, G.ty_bool_list, G.ty_NoneType_str, G.ty_NoneType_tuple, G.ty_NoneType_list, G.ty_dict_str, G.ty_dict_tuple, G.ty_dict_list, G.kRev, G.kExt, G.kItS, G.vInS, G.kDc, G.dcL, G.kLenO, G.kEqO, G.kEqS, G.kEqR, G.kIsC2, G.isBase, G.isBase_obj, G.kIsC, G.kMethS, G.kMethK, G.kMakeK, G.kMakeX, G.kMakeXK, G.noXH, G.kFld, G.kMeth, G.kProp, G.kMake, G.kFldPut, G.isOb, G.notOw, G.boxM_dictD, G.datS_dc, G.look_dc, G.tyN, G.isObj, G.kC, G.kCallS, G.kCallSK, G.kCallPS, G.fzA, G.fzD, G.v4I, G.kSortD, G.kIxF, G.kIxFd, G.kRepM, G.kListT, G.vUpper, G.kRepS, G.kSplit, G.kPartT, G.vIntT, G.vFmt, G.kStarS, G.kCallSt, G.kgSubN, G.kCallE, G.kEz, G.kIns, G.kClear, G.kReverse, G.kCallX, G.kCallXK, G.kRaise, G.kTry, G.hdX, G.hdE, G.kXval, G.kFz, G.kCallW, G.kCallIA, G.kgUnl, G.itL, G.kThr, G.datS_sh, G.chg_sh, G.chg_tup, G.chg_lst, G.kSink, G.kLenD, G.kLenSet, G.kRepN, G.kCallTM, G.kDivmod, G.kDivmodN, G.kMaxDef, G.kReprL, G.kLc2, G.vInD, G.vIdxD, G.kTupOf, G.kTupV, G.kIxTake, G.kgFill, G.kListMv, G.kDNew, G.kDNewT, G.topK, G.kDGet, G.kDIn, G.kDPut, G.dgS, G.dpS, G.dlS, G.isDc, G.keyD, G.keysD, G.valM_nil, Option.map_some, Option.isSome_none, Option.isSome_some, G.okS_dc, G.okS_dt, G.noAl_dc, G.noAl_dt, G.kVar, G.kFrz, G.kMov, G.kNil, G.kCons, G.kOp, G.vI, G.vB, G.noC, G.vEq, G.vIn, G.vIsN, G.vEqD, G.kChain, G.kUn, G.vNeg, G.kF, G.vLen, G.v2I, G.v1I, G.v3I, G.vInt, G.vAll, G.vSum, G.vSumT, G.vMaxL, G.vRepr, G.kTest, G.kTAnd, G.kTOr, G.kTNot, G.kYes, G.popB, G.pushB, G.kAndV, G.kOrV, G.kNotV, G.kIf, G.popC, G.kMk, G.look_mkL, G.okS_mkL, G.mkS_lt, G.mkS_lf, G.mkS_tt, G.mkS_tf, G.own_int, G.own_bool, G.own_str, G.own_none, G.own_list, G.own_tup, G.con_own, G.okS_own, G.look_own, G.dq, G.kIx, G.seqD, G.subS_fz, G.subS_ow, G.subS_of, G.subS_al, G.kListOf, G.shr, G.kNo, G.popI, G.kPart, G.kSl, G.kSlT, G.kCat, G.kRg2, G.kRg1, G.kListRg, G.kCallT, G.kCallTK, G.kCallP, G.isLst, G.kM, G.vCnt, G.vIdx, G.kApp, G.wrL, G.atP, G.setP, G.kPop, G.kPopAt, G.popK, G.kgSub, G.frzSeq, G.kIt, G.kRng1, G.kRng2, G.kgName, G.okS_fz, G.okS_ow, G.okS_pu, G.okS_al, G.noAl_nil, G.noAl_fz, G.noAl_ow, G.noAl_pu, G.noAl_al, G.noAl_own, G.con_fz, G.con_ow, G.kgNil, G.kgCons, G.kgTup, G.itS, G.kPar, G.kPar3, G.kAug, G.kDrop, G.kRet, G.kRetN, G.kNever, G.kNext, G.kBreak, G.kCont, G.kSeq, G.kIfS, G.kFor, G.kLc, G.kEnum, G.kZip, G.look_fz, G.look_ow, G.look_al, G.datS_fz, G.datS_ow, G.datS_own, G.datN, G.nolist, G.nolists, G.nolists_ints, G.kLit, G.kRngD, G.kCallI, G.kCallV, G.vBits, G.reS_io, G.reS_ow, G.putS_set, G.datS_io, G.ownF_ow, G.ownF_io, G.edI_rt, G.edI_nx, G.ioD_c, G.giv_ow, G.giv_fz, G.giv_own, G.ioOk, G.cutD_lastI, G.cutD_initI, G.inV_intsD, G.allflat_ints, Option.getD_some, G.edT_rt, G.edP_rt, G.edT_nx, G.edP_nx, G.rtN_fz, G.rtN_ow, G.rtN_own, G.ixD_0, G.ixD_1, G.ixD_2, G.intsOf_map, G.boolsOf_map, G.newL, G.nolists_app, G.flatD, G.vOf,
  List.map_cons, List.map_nil, List.cons_append, List.nil_append, List.append_nil, List.getElem?_cons_zero, List.getElem?_cons_succ, List.getElem?_nil, List.set_cons_zero, List.set_cons_succ, List.getD_cons_zero, List.getD_cons_succ, List.length_cons, List.length_nil, List.length_map, List.all_cons, List.all_nil, List.tail_cons, List.filterMap_cons_some, List.filterMap_nil, Option.elim, Option.bind_some, Option.bind_none, Option.orElse, Option.map_some, Bool.and_true, Bool.true_and, Bool.and_false, Bool.false_and, Bool.not_true, decide_true, Bool.not_false, Bool.false_xor, Bool.true_xor, if_true, if_false, true_and, and_true, true_or, or_true, eq_self, reduceIte, ite_true, ite_false, Bool.false_eq_true, Nat.zero_add, Nat.reduceAdd, implies_true, bne_self_eq_false])
namespace My
open PySem PySem.Spec PyProof.Rows L2 G
theorem bits_of {i : Int} {n : Nat} (h0 : 0 < n) (h : i.natAbs < 2 ^ n) : Builtin.Int.intBits i ≤ n := by
  have := PySem.Flt.log2_lt_of h0 h
  unfold Builtin.Int.intBits
  split <;> omega
/-- how many places are left, and how many things are needed, if straight places at the end are cut -/
def trim (gs : List Int) : Nat → Int → Nat × Int
  | 0, n => (0, n)
  | k + 1, n => if gs[k]? = some n ∧ (∀ x ∈ gs.take k, x < n) then trim gs k (n - 1) else (k + 1, n)
def leastE (n : Int) (gs : List Int) : Int × List Int := ((trim gs gs.length n).2, gs.take (trim gs gs.length n).1)
theorem trim_le (gs : List Int) : ∀ (k : Nat) (n : Int), (trim gs k n).1 ≤ k
  | 0, _ => Nat.le_refl _
  | k + 1, n => by
    unfold trim
    split
    · exact Nat.le_succ_of_le (trim_le gs k _)
    · exact Nat.le_refl _
/-- an effect, told in its least way or not -/
structure Eff (e : Int × List Int) : Prop where
  nn : 0 ≤ e.1
  ge : ∀ x ∈ e.2, 1 ≤ x
  le : ∀ x ∈ e.2, x ≤ e.1
/-- the greatest of a list and zero -/
def top (gs : List Int) : Int := gs.foldl (fun a x => max a x) 0
theorem top_app (gs : List Int) (x : Int) : top (gs ++ [x]) = max (top gs) x := by unfold top; simp [List.foldl_append]
theorem top_lt {gs : List Int} {n : Int} (h : 0 < n) : top gs < n ↔ ∀ x ∈ gs, x < n := by
  have aux : ∀ (l : List Int) (a : Int), l.foldl (fun a x => max a x) a < n ↔ a < n ∧ ∀ x ∈ l, x < n := by
    intro l
    induction l with
    | nil => intro a; simp
    | cons y l ih =>
      intro a
      rw [List.foldl_cons, ih]
      constructor
      · rintro ⟨h1, h2⟩
        refine ⟨by omega, fun x hx => ?_⟩
        rcases List.mem_cons.mp hx with rfl | hx
        · omega
        · exact h2 x hx
      · rintro ⟨h1, h2⟩
        have := h2 y List.mem_cons_self
        exact ⟨by omega, fun x hx => h2 x (List.mem_cons_of_mem _ hx)⟩
  unfold top
  rw [aux]
  exact ⟨fun z => z.2, fun z => ⟨h, z⟩⟩
/-- the tops of all beginnings -/
def tops (gs : List Int) : List Int := (List.range (gs.length + 1)).map fun k => top (gs.take k)
theorem tops_app (gs : List Int) (x : Int) : tops (gs ++ [x]) = tops gs ++ [max (top gs) x] := by
  unfold tops
  rw [List.length_append, List.length_singleton, List.range_succ, List.map_append]
  congr 1
  · refine List.map_congr_left fun k hk => ?_
    rw [List.mem_range] at hk
    rw [List.take_append_of_le_length (by omega)]
  · rw [List.map_singleton]
    have e : (gs ++ [x]).take (gs.length + 1) = gs ++ [x] := List.take_of_length_le (by simp)
    rw [e, top_app]
theorem tops_len (gs : List Int) : (tops gs).length = gs.length + 1 := by unfold tops; simp
theorem tops_at {gs : List Int} {k : Nat} (h : k ≤ gs.length) : (tops gs)[k]? = some (top (gs.take k)) := by
  unfold tops
  rw [List.getElem?_map, List.getElem?_range (by omega)]
  rfl
theorem trim_pre (gs es : List Int) : ∀ (k : Nat) (n : Int), k ≤ gs.length → trim (gs ++ es) k n = trim gs k n
  | 0, _, _ => rfl
  | k + 1, n, h => by
    unfold trim
    rw [List.getElem?_append_left (by omega), List.take_append_of_le_length (by omega), trim_pre gs es k (n - 1) (by omega)]
theorem leastE_step {n : Int} {gs : List Int} (h : ∀ x ∈ gs, x ≤ n) : leastE (n + 1) (gs ++ [n + 1]) = leastE n gs := by
  have e : trim (gs ++ [n + 1]) (gs ++ [n + 1]).length (n + 1) = trim gs gs.length n := by
    rw [List.length_append, List.length_singleton]
    conv => lhs; unfold trim
    have c : (gs ++ [n + 1])[gs.length]? = some (n + 1) ∧ ∀ x ∈ (gs ++ [n + 1]).take gs.length, x < n + 1 := by
      refine ⟨by simp, fun x hx => ?_⟩
      rw [List.take_left] at hx
      have := h x hx
      omega
    rw [if_pos c]
    have e1 : n + 1 - 1 = n := by omega
    rw [e1]
    exact trim_pre gs [n + 1] _ _ (Nat.le_refl _)
  unfold leastE
  rw [e, List.take_append_of_le_length (trim_le gs _ _)]
theorem rg_snoc {a b : Int} (h : a ≤ b) : rg a (b + 1) = rg a b ++ [b] := by
  unfold rg
  have e : (b + 1 - a).toNat = (b - a).toNat + 1 := by omega
  rw [e, List.range_succ, List.map_append, List.map_singleton]
  congr 2
  omega
theorem rg_nil {a b : Int} (h : b ≤ a) : rg a b = [] := by
  unfold rg
  have e : (b - a).toNat = 0 := by omega
  rw [e]
  rfl
theorem leastE_wide {n : Int} {gs : List Int} (h : ∀ x ∈ gs, x ≤ n) : ∀ m : Nat, leastE (n + m) (gs ++ rg (n + 1) (n + m + 1)) = leastE n gs
  | 0 => by
    rw [rg_nil (by omega), List.append_nil]
    simp
  | m + 1 => by
    have e1 : n + ((m + 1 : Nat) : Int) = n + m + 1 := by omega
    rw [e1, rg_snoc (by omega), ← List.append_assoc, leastE_step (fun x hx => ?_), leastE_wide h m]
    rcases List.mem_append.mp hx with hx | hx
    · have := h x hx
      omega
    · have := mem_rg.mp hx
      omega
theorem leastE_wideI {n m : Int} {gs : List Int} (h : ∀ x ∈ gs, x ≤ n) (h0 : 0 ≤ m) : leastE (n + m) (gs ++ rg (n + 1) (n + m + 1)) = leastE n gs := by
  obtain ⟨k, rfl⟩ : ∃ k : Nat, m = (k : Int) := ⟨m.toNat, by omega⟩
  exact leastE_wide h k
/-- what cutting leaves -/
theorem trim_end (gs : List Int) : ∀ (k : Nat) (n : Int), trim gs (trim gs k n).1 (trim gs k n).2 = trim gs k n
  | 0, _ => rfl
  | k + 1, n => by
    by_cases c : gs[k]? = some n ∧ ∀ x ∈ gs.take k, x < n
    · have e : trim gs (k + 1) n = trim gs k (n - 1) := by
        conv => lhs; unfold trim
        rw [if_pos c]
      rw [e]
      exact trim_end gs k (n - 1)
    · have e : trim gs (k + 1) n = (k + 1, n) := by
        conv => lhs; unfold trim
        rw [if_neg c]
      rw [e]
      exact e
theorem trim_take (gs : List Int) (j : Nat) : ∀ (k : Nat) (n : Int), k ≤ j → k ≤ gs.length → trim (gs.take j) k n = trim gs k n := fun k n h1 h2 => by
  have e : gs = gs.take j ++ gs.drop j := (List.take_append_drop j gs).symm
  conv => rhs; rw [e]
  exact (trim_pre _ _ k n (by rw [List.length_take]; omega)).symm
theorem leastE_idem (n : Int) (gs : List Int) : leastE (leastE n gs).1 (leastE n gs).2 = leastE n gs := by
  have h1 := trim_le gs gs.length n
  have e1 : ((leastE n gs).2).length = (trim gs gs.length n).1 := by
    show (gs.take _).length = _
    rw [List.length_take]
    omega
  have e2 : trim (leastE n gs).2 (leastE n gs).2.length (leastE n gs).1 = trim gs gs.length n := by
    rw [e1]
    show trim (gs.take _) _ (trim gs gs.length n).2 = _
    rw [trim_take gs _ _ _ (Nat.le_refl _) h1, trim_end]
  show ((trim (leastE n gs).2 (leastE n gs).2.length (leastE n gs).1).2, (leastE n gs).2.take (trim (leastE n gs).2 (leastE n gs).2.length (leastE n gs).1).1) = _
  rw [e2]
  show ((trim gs gs.length n).2, (gs.take (trim gs gs.length n).1).take (trim gs gs.length n).1) = _
  rw [List.take_take, Nat.min_self]
  rfl
theorem trim_eff (gs : List Int) (hg : ∀ x ∈ gs, 1 ≤ x) : ∀ (k : Nat) (n : Int), k ≤ gs.length → 0 ≤ n → (∀ x ∈ gs.take k, x ≤ n) → 0 ≤ (trim gs k n).2 ∧ (trim gs k n).2 ≤ n ∧ ∀ x ∈ gs.take (trim gs k n).1, x ≤ (trim gs k n).2
  | 0, n, _, h0, _ => ⟨h0, Int.le_refl _, by
    intro x hx
    change x ∈ gs.take 0 at hx
    simp at hx⟩
  | k + 1, n, hk, h0, hl => by
    by_cases c : gs[k]? = some n ∧ ∀ x ∈ gs.take k, x < n
    · have e : trim gs (k + 1) n = trim gs k (n - 1) := by
        conv => lhs; unfold trim
        rw [if_pos c]
      rw [e]
      have n1 := hg n (List.mem_of_getElem? c.1)
      obtain ⟨a, b, d⟩ := trim_eff gs hg k (n - 1) (by omega) (by omega) (fun x hx => by have := c.2 x hx; omega)
      exact ⟨a, by omega, d⟩
    · have e : trim gs (k + 1) n = (k + 1, n) := by
        conv => lhs; unfold trim
        rw [if_neg c]
      rw [e]
      exact ⟨h0, Int.le_refl _, hl⟩
/-- told in its least way -/
def Lst (e : Int × List Int) : Prop := leastE e.1 e.2 = e
structure LE (n : Int) (gs : List Int) (e : Int × List Int) : Prop where
  eff : Eff e
  lst : Lst e
  le : e.1 ≤ n
  len : e.2.length ≤ gs.length
theorem leastE_ok {n : Int} {gs : List Int} (h : Eff (n, gs)) : LE n gs (leastE n gs) := by
  obtain ⟨a, b, c⟩ := trim_eff gs h.ge gs.length n (Nat.le_refl _) h.nn (by rw [List.take_length]; exact h.le)
  refine ⟨⟨a, fun x hx => h.ge x (List.mem_of_mem_take hx), c⟩, leastE_idem n gs, b, ?_⟩
  show (gs.take _).length ≤ _
  rw [List.length_take]
  omega
theorem wide_eff {n m : Int} {gs : List Int} (ef : Eff (n, gs)) (m0 : 0 ≤ m) : Eff (n + m, gs ++ rg (n + 1) (n + m + 1)) := by
  have nn : 0 ≤ n := ef.nn
  refine ⟨show 0 ≤ n + m by omega, fun x hx => ?_, fun x hx => ?_⟩
  · rcases List.mem_append.mp hx with hx | hx
    · exact ef.ge x hx
    · have := mem_rg.mp hx
      omega
  · rcases List.mem_append.mp hx with hx | hx
    · have h1 : x ≤ n := ef.le x hx
      show x ≤ n + m
      omega
    · have := mem_rg.mp hx
      show x ≤ n + m
      omega
theorem sh_effE {e : Int × List Int} (h : Eff e) (h1 : e.1 ≤ 100000) (h2 : e.2.length ≤ 4000) : Sh 3 1700000 (dE e) := sh_eff (by have := h.nn; omega) (fun x hx => by
  have a1 := h.ge x hx
  have a2 := h.le x hx
  omega) h2
def doE (e : Int × List Int) (h : List Int) : List Int := e.2.map (fun x => h.getD (x - 1).toNat 0) ++ h.drop e.1.toNat
theorem rg_at {a b : Int} {k : Nat} (h : a + k < b) : (rg a b)[k]? = some (a + k) := by
  unfold rg
  rw [List.getElem?_map, List.getElem?_range (by omega)]
  rfl
theorem rg_getD {a b : Int} {k : Nat} (h : a + k < b) : (rg a b).getD k 0 = a + k := by
  rw [List.getD_eq_getElem?_getD, rg_at h]
  rfl
def fromE (e : Int × List Int) (r : Int) : Int := if r ≤ (e.2.length : Nat) then e.2.getD (r - 1).toNat 0 else r + e.1 - (e.2.length : Nat)
def upE (e : Int × List Int) (m : Int) : List Int := e.2 ++ rg (e.1 + 1) (e.1 + m + 1)
def moreE (e : Int × List Int) (d : Int) : Int := if 0 < d - (e.2.length : Nat) then d - (e.2.length : Nat) else 0
def cE (e f : Int × List Int) (m : Int) : Int × List Int := (e.1 + m, doE f (upE e m))
def joinE (e f : Int × List Int) : Int × List Int := leastE (cE e f (moreE e f.1)).1 (cE e f (moreE e f.1)).2
theorem from_trim {gs : List Int} {r : Int} : ∀ (k : Nat) (n : Int), k ≤ gs.length → 1 ≤ r → fromE ((trim gs k n).2, gs.take (trim gs k n).1) r = fromE (n, gs.take k) r
  | 0, n, _, _ => rfl
  | k + 1, n, hk, hr => by
    by_cases q : gs[k]? = some n ∧ ∀ x ∈ gs.take k, x < n
    · have e : trim gs (k + 1) n = trim gs k (n - 1) := by
        conv => lhs; unfold trim
        rw [if_pos q]
      rw [e, from_trim k (n - 1) (by omega) hr]
      unfold fromE
      dsimp only
      rw [List.length_take, List.length_take, Nat.min_eq_left (by omega), Nat.min_eq_left (by omega)]
      by_cases h1 : r ≤ (k : Nat)
      · rw [if_pos h1, if_pos (by omega), List.getD_eq_getElem?_getD, List.getD_eq_getElem?_getD, List.getElem?_take_of_lt (by omega), List.getElem?_take_of_lt (by omega)]
      · rw [if_neg h1]
        by_cases h2 : r ≤ ((k + 1 : Nat) : Int)
        · have e2 : (r - 1).toNat = k := by omega
          rw [if_pos h2, List.getD_eq_getElem?_getD, e2, List.getElem?_take_of_lt (by omega), q.1]
          show _ = n
          omega
        · rw [if_neg h2]
          omega
    · have e : trim gs (k + 1) n = (k + 1, n) := by
        conv => lhs; unfold trim
        rw [if_neg q]
      rw [e]
theorem from_least {n r : Int} {gs : List Int} (hr : 1 ≤ r) : fromE (leastE n gs) r = fromE (n, gs) r := by
  have := from_trim (gs := gs) gs.length n (Nat.le_refl _) hr
  rw [List.take_length] at this
  exact this
theorem from_up {e : Int × List Int} {m : Int} {k : Nat} (h : k < e.2.length + m) (hm : 0 ≤ m) : (upE e m).getD k 0 = fromE e (k + 1) := by
  unfold upE fromE
  have lr := rg_length (e.1 + 1) (e.1 + m + 1)
  rw [List.getD_eq_getElem?_getD]
  by_cases h1 : k < e.2.length
  · have e1 : (((k : Nat) : Int) + 1 - 1).toNat = k := by omega
    rw [List.getElem?_append_left h1, if_pos (by omega), e1, List.getD_eq_getElem?_getD]
  · rw [List.getElem?_append_right (by omega), rg_at (by omega), if_neg (by omega)]
    show _ + _ = _
    omega
theorem up_len {e : Int × List Int} {m : Int} (hm : 0 ≤ m) : (((upE e m).length : Nat) : Int) = e.2.length + m := by
  unfold upE
  have lr := rg_length (e.1 + 1) (e.1 + m + 1)
  rw [List.length_append]
  omega
theorem cE_len {e f : Int × List Int} {m : Int} (hf : Eff f) (hm : 0 ≤ m) (hd : f.1 ≤ e.2.length + m) : (((cE e f m).2.length : Nat) : Int) = f.2.length + (e.2.length + m - f.1) := by
  have ul := up_len (e := e) hm
  have := hf.nn
  show ((doE f (upE e m)).length : Int) = _
  unfold doE
  rw [List.length_append, List.length_map, List.length_drop]
  omega
theorem from_c {e f : Int × List Int} {m r : Int} (hf : Eff f) (hm : 0 ≤ m) (hd : f.1 ≤ e.2.length + m) (hr : 1 ≤ r) : fromE (cE e f m) r = fromE e (fromE f r) := by
  have ul := up_len (e := e) hm
  have cl := cE_len (e := e) hf hm hd
  have hf0 := hf.nn
  have key : ∀ s : Int, 1 ≤ s → s ≤ e.2.length + m → (upE e m).getD (s - 1).toNat 0 = fromE e s := fun s h1 h2 => by
    rw [from_up (k := (s - 1).toNat) (by omega) hm]
    congr 1
    omega
  conv => lhs; unfold fromE
  by_cases h1 : r ≤ (f.2.length : Nat)
  · have e1 : fromE f r = f.2.getD (r - 1).toNat 0 := by unfold fromE; rw [if_pos h1]
    have hi : (r - 1).toNat < f.2.length := by omega
    have em : f.2[(r - 1).toNat]? = some f.2[(r - 1).toNat] := List.getElem?_eq_getElem hi
    have e2 : f.2.getD (r - 1).toNat 0 = f.2[(r - 1).toNat] := by rw [List.getD_eq_getElem?_getD, em]; rfl
    have mm := List.mem_of_getElem? em
    have a1 := hf.ge _ mm
    have a2 := hf.le _ mm
    rw [e1, e2, if_pos (by omega), ← key _ a1 (by omega)]
    show (doE f (upE e m)).getD _ _ = _
    unfold doE
    rw [List.getD_eq_getElem?_getD, List.getElem?_append_left (by rw [List.length_map]; exact hi), List.getElem?_map, em]
    rfl
  · have e1 : fromE f r = r + f.1 - (f.2.length : Nat) := by unfold fromE; rw [if_neg h1]
    rw [e1]
    by_cases h2 : r ≤ ((cE e f m).2.length : Nat)
    · rw [if_pos h2, ← key _ (by omega) (by omega)]
      show (doE f (upE e m)).getD _ _ = _
      unfold doE
      rw [List.getD_eq_getElem?_getD, List.getElem?_append_right (by rw [List.length_map]; omega), List.getElem?_drop, List.length_map, List.getD_eq_getElem?_getD]
      congr 2
      omega
    · rw [if_neg h2]
      unfold fromE
      rw [if_neg (by omega)]
      show r + (e.1 + m) - _ = _
      omega
theorem more_ok {e : Int × List Int} {d : Int} : 0 ≤ moreE e d ∧ d ≤ e.2.length + moreE e d := by
  unfold moreE
  split <;> omega
theorem up_mem {e : Int × List Int} {m x : Int} (he : Eff e) (hx : x ∈ upE e m) : 1 ≤ x ∧ x ≤ e.1 + (if 0 < m then m else 0) := by
  have := he.nn
  rcases List.mem_append.mp hx with hx | hx
  · have a1 := he.ge x hx
    have a2 := he.le x hx
    split <;> omega
  · have a := mem_rg.mp hx
    split <;> omega
theorem cE_eff {e f : Int × List Int} {m : Int} (he : Eff e) (hf : Eff f) (hm : 0 ≤ m) (hd : f.1 ≤ e.2.length + m) : Eff (cE e f m) := by
  have hen := he.nn
  have ul := up_len (e := e) hm
  have all : ∀ x ∈ (cE e f m).2, 1 ≤ x ∧ x ≤ e.1 + m := fun x hx => by
    rcases List.mem_append.mp hx with hx | hx
    · obtain ⟨y, hy, rfl⟩ := List.mem_map.mp hx
      have a1 := hf.ge y hy
      have a2 := hf.le y hy
      have em : (upE e m)[(y - 1).toNat]? = some (upE e m)[(y - 1).toNat] := List.getElem?_eq_getElem (by omega)
      have := up_mem he (List.mem_of_getElem? em)
      rw [List.getD_eq_getElem?_getD, em]
      show _ ≤ (upE e m)[(y - 1).toNat] ∧ (upE e m)[(y - 1).toNat] ≤ _
      revert this
      split <;> omega
    · have := up_mem he (List.mem_of_mem_drop hx)
      revert this
      split <;> omega
  exact ⟨by show 0 ≤ e.1 + m; omega, fun x hx => (all x hx).1, fun x hx => (all x hx).2⟩
theorem join_eff {e f : Int × List Int} (he : Eff e) (hf : Eff f) : Eff (joinE e f) := (leastE_ok (cE_eff he hf more_ok.1 more_ok.2)).eff
theorem join_lst {e f : Int × List Int} : Lst (joinE e f) := leastE_idem _ _
theorem from_join {e f : Int × List Int} {r : Int} (hf : Eff f) (hr : 1 ≤ r) : fromE (joinE e f) r = fromE e (fromE f r) := by
  unfold joinE
  rw [from_least hr]
  exact from_c hf more_ok.1 more_ok.2 hr
theorem from_ge {e : Int × List Int} {r : Int} (he : Eff e) (hr : 1 ≤ r) : 1 ≤ fromE e r := by
  have := he.nn
  unfold fromE
  split
  · have em : e.2[(r - 1).toNat]? = some e.2[(r - 1).toNat] := List.getElem?_eq_getElem (by omega)
    rw [List.getD_eq_getElem?_getD, em]
    exact he.ge _ (List.mem_of_getElem? em)
  · omega
/-- two least ways of the same shift are one -/
theorem canon_lt {e f : Int × List Int} (he : Eff e) (hf : Eff f) (lf : Lst f) (h : ∀ r, 1 ≤ r → fromE e r = fromE f r) : f.2.length ≤ e.2.length := by
  by_cases c : f.2.length ≤ e.2.length
  · exact c
  exfalso
  have big := h (e.2.length + f.2.length + 1) (by omega)
  unfold fromE at big
  rw [if_neg (by omega), if_neg (by omega)] at big
  have at_ : ∀ j : Nat, j < f.2.length → e.2.length ≤ j → f.2[j]? = some ((j : Int) + 1 + e.1 - (e.2.length : Nat)) := fun j hj hk => by
    have q := h (j + 1) (by omega)
    unfold fromE at q
    have e1 : ((j : Int) + 1 - 1).toNat = j := by omega
    rw [if_neg (by omega), if_pos (by omega), e1, List.getD_eq_getElem?_getD] at q
    have em : f.2[j]? = some f.2[j] := List.getElem?_eq_getElem hj
    rw [em] at q ⊢
    have q2 : _ = f.2[j] := q
    rw [← q2]
  obtain ⟨k, ek⟩ : ∃ k, f.2.length = k + 1 := ⟨f.2.length - 1, by omega⟩
  have cut : trim f.2 (k + 1) f.1 = trim f.2 k (f.1 - 1) := by
    conv => lhs; unfold trim
    rw [if_pos]
    refine ⟨?_, fun x hx => ?_⟩
    · rw [at_ k (by omega) (by omega)]
      congr 1
      omega
    · obtain ⟨j, hj, rfl⟩ := List.getElem_of_mem hx
      rw [List.length_take] at hj
      rw [List.getElem_take]
      have em : f.2[j]? = some f.2[j] := List.getElem?_eq_getElem (by omega)
      by_cases hk : e.2.length ≤ j
      · have q := at_ j (by omega) hk
        rw [em] at q
        have q2 := Option.some.inj q
        omega
      · have q := h (j + 1) (by omega)
        unfold fromE at q
        have e1 : ((j : Int) + 1 - 1).toNat = j := by omega
        have em2 : e.2[j]? = some e.2[j] := List.getElem?_eq_getElem (by omega)
        rw [if_pos (by omega), if_pos (by omega), e1, List.getD_eq_getElem?_getD, List.getD_eq_getElem?_getD, em, em2] at q
        have q2 : e.2[j] = f.2[j] := q
        have := he.le _ (List.mem_of_getElem? em2)
        omega
  have l1 := trim_le f.2 k (f.1 - 1)
  have l2 : (leastE f.1 f.2).2.length = f.2.length := by rw [show leastE f.1 f.2 = f from lf]
  unfold leastE at l2
  dsimp only at l2
  rw [List.length_take, ek, cut] at l2
  omega
theorem canon {e f : Int × List Int} (he : Eff e) (hf : Eff f) (le : Lst e) (lf : Lst f) (h : ∀ r, 1 ≤ r → fromE e r = fromE f r) : e = f := by
  have a1 := canon_lt he hf lf h
  have a2 := canon_lt hf he le fun r hr => (h r hr).symm
  have big := h (e.2.length + f.2.length + 1) (by omega)
  unfold fromE at big
  rw [if_neg (by omega), if_neg (by omega)] at big
  obtain ⟨n, gs⟩ := e
  obtain ⟨d, ls⟩ := f
  dsimp only at *
  have en : n = d := by omega
  subst en
  congr 1
  refine List.ext_getElem? fun j => ?_
  by_cases hj : j < gs.length
  · have q := h (j + 1) (by omega)
    unfold fromE at q
    dsimp only at q
    have e1 : ((j : Int) + 1 - 1).toNat = j := by omega
    have em : gs[j]? = some gs[j] := List.getElem?_eq_getElem hj
    have em2 : ls[j]? = some ls[j] := List.getElem?_eq_getElem (by omega)
    rw [if_pos (by omega), if_pos (by omega), e1, List.getD_eq_getElem?_getD, List.getD_eq_getElem?_getD, em, em2] at q
    rw [em, em2]
    exact congrArg some q
  · rw [List.getElem?_eq_none (by omega), List.getElem?_eq_none (by omega)]
theorem eqv_dE (e f : Int × List Int) : PyData.eqv (dE e) (dE f) = decide (e = f) := by
  obtain ⟨n, g⟩ := e
  obtain ⟨m, h⟩ := f
  show PyData.eqv (.tuple [.int n, dI g]) (.tuple [.int m, dI h]) = _
  simp only [PyData.eqv, PyData.eqvAll]
  have := eqv_ints g h
  simp only [PyData.eqv] at this
  simp [this, Prod.ext_iff, Bool.decide_and]
  rfl
theorem shaped_dE (e : Int × List Int) : SeqAt.shaped (dE e) = true := by
  unfold SeqAt.shaped
  simp [PyData.canLay0, PyData.canLayAll0, PyData.depth, PyData.depthAll, canLay_ints, depth_ints]
def powE (e : Int × List Int) : Nat → Int × List Int
  | 0 => (0, [])
  | k + 1 => joinE (powE e k) e
theorem eff0 : Eff ((0, []) : Int × List Int) := ⟨by decide, by simp, by simp⟩
theorem lst0 : Lst ((0, []) : Int × List Int) := rfl
theorem pow_eff {e : Int × List Int} (h : Eff e) : ∀ k, Eff (powE e k)
  | 0 => eff0
  | k + 1 => join_eff (pow_eff h k) h
theorem pow_lst {e : Int × List Int} : ∀ k, Lst (powE e k)
  | 0 => lst0
  | k + 1 => join_lst
theorem from0 {r : Int} (hr : 1 ≤ r) : fromE (0, []) r = r := by
  unfold fromE
  rw [if_neg (by simp; omega)]
  simp
/-- the place function, so many times -/
def itE (e : Int × List Int) : Nat → Int → Int
  | 0, r => r
  | k + 1, r => itE e k (fromE e r)
theorem it_ge {e : Int × List Int} (h : Eff e) : ∀ (k : Nat) {r : Int}, 1 ≤ r → 1 ≤ itE e k r
  | 0, r, hr => hr
  | k + 1, r, hr => it_ge h k (from_ge h hr)
theorem it_add {e : Int × List Int} : ∀ (j k : Nat) (r : Int), itE e (j + k) r = itE e j (itE e k r)
  | j, 0, r => rfl
  | j, k + 1, r => by
    show itE e (j + k) (fromE e r) = itE e j (itE e k (fromE e r))
    exact it_add j k _
theorem from_pow {e : Int × List Int} (h : Eff e) : ∀ (k : Nat) {r : Int}, 1 ≤ r → fromE (powE e k) r = itE e k r
  | 0, r, hr => from0 hr
  | k + 1, r, hr => by
    show fromE (joinE (powE e k) e) r = itE e k (fromE e r)
    rw [from_join h hr, from_pow h k (from_ge h hr)]
/-- the power is known by its places -/
theorem pow_of {e f : Int × List Int} {k : Nat} (h : Eff e) (hf : Eff f) (lf : Lst f) (hp : ∀ r, 1 ≤ r → fromE f r = itE e k r) : f = powE e k :=
  canon hf (pow_eff h k) lf (pow_lst k) fun r hr => (hp r hr).trans (from_pow h k hr).symm
theorem pow_add {e : Int × List Int} (h : Eff e) (j k : Nat) : joinE (powE e j) (powE e k) = powE e (j + k) :=
  pow_of h (join_eff (pow_eff h j) (pow_eff h k)) join_lst fun r hr => by
    rw [from_join (pow_eff h k) hr, from_pow h k hr, from_pow h j (it_ge h k hr), it_add]
theorem join_bd {e f : Int × List Int} (he : Eff e) (hf : Eff f) : (joinE e f).1 ≤ e.1 + f.1 ∧ (joinE e f).2.length ≤ f.2.length + e.2.length := by
  have c := cE_eff (m := moreE e f.1) he hf more_ok.1 more_ok.2
  have l := leastE_ok c
  have h1 := l.le
  have h2 := l.len
  have h3 := cE_len (e := e) (f := f) (m := moreE e f.1) hf more_ok.1 more_ok.2
  have hm : moreE e f.1 ≤ f.1 := by
    have := hf.nn
    unfold moreE
    split <;> omega
  have g1 : (joinE e f).1 ≤ (cE e f (moreE e f.1)).1 := h1
  have g2 : (joinE e f).2.length ≤ (cE e f (moreE e f.1)).2.length := h2
  have g3 : (cE e f (moreE e f.1)).1 = e.1 + moreE e f.1 := rfl
  exact ⟨by omega, by omega⟩
theorem pow_bd {e : Int × List Int} (h : Eff e) : ∀ k : Nat, (powE e k).1 ≤ k * e.1 ∧ (powE e k).2.length ≤ k * e.2.length
  | 0 => ⟨by simp [powE], by simp [powE]⟩
  | k + 1 => by
    have ih := pow_bd h k
    have jb := join_bd (pow_eff h k) h
    refine ⟨?_, ?_⟩
    · show (joinE (powE e k) e).1 ≤ _
      have : ((k + 1 : Nat) : Int) * e.1 = k * e.1 + e.1 := by rw [Int.natCast_add, Int.add_mul]; simp
      omega
    · show (joinE (powE e k) e).2.length ≤ _
      have : (k + 1) * e.2.length = k * e.2.length + e.2.length := by rw [Nat.add_mul, Nat.one_mul]
      omega
theorem it_least {n : Int} {gs : List Int} (ef : Eff (n, gs)) : ∀ (k : Nat) {r : Int}, 1 ≤ r → itE (leastE n gs) k r = itE (n, gs) k r
  | 0, r, hr => rfl
  | k + 1, r, hr => by
    show itE (leastE n gs) k (fromE (leastE n gs) r) = itE (n, gs) k (fromE (n, gs) r)
    rw [from_least hr, it_least ef k (from_ge ef hr)]
theorem cmulB_of {i j : Int} (h1 : i.natAbs < 2 ^ 200) (h2 : j.natAbs < 2 ^ 200) : CMulB i j := by
  have a := bits_of (i := i) (n := 200) (by decide) h1
  have b := bits_of (i := j) (n := 200) (by decide) h2
  unfold CMulB
  omega
theorem it_succ {e : Int × List Int} (k : Nat) (r : Int) : itE e (k + 1) r = fromE e (itE e k r) := by
  rw [Nat.add_comm, it_add 1 k r]
  rfl
theorem from_hi {e : Int × List Int} {r : Int} (h : (e.2.length : Int) < r) : fromE e r = r + (e.1 - e.2.length) := by
  unfold fromE
  rw [if_neg (by omega)]
  omega
theorem from_lo {e : Int × List Int} {r : Int} (h : r ≤ (e.2.length : Int)) : fromE e r = e.2.getD (r - 1).toNat 0 := by
  unfold fromE
  rw [if_pos h]
theorem from_low {e : Int × List Int} (ef : Eff e) {r : Int} (h1 : 1 ≤ r) (h : r ≤ (e.2.length : Int)) : fromE e r ≤ e.1 := by
  rw [from_lo h, List.getD_eq_getElem?_getD, List.getElem?_eq_getElem (by omega)]
  exact ef.le _ (List.getElem_mem _)
/-- what comes again comes again -/
theorem it_per {e : Int × List Int} {r : Int} {i p : Nat} (h : itE e (i + p) r = itE e i r) : ∀ m : Nat, itE e (i + m + p) r = itE e (i + m) r := fun m => by
  have e1 : i + m + p = m + (i + p) := by omega
  have e2 : i + m = m + i := by omega
  rw [e1, it_add m (i + p), h, ← it_add m i, e2]
theorem it_perk {e : Int × List Int} {r : Int} {i p : Nat} (h : itE e (i + p) r = itE e i r) (m : Nat) : ∀ q : Nat, itE e (i + m + q * p) r = itE e (i + m) r
  | 0 => by rw [Nat.zero_mul, Nat.add_zero]
  | q + 1 => by
    have e1 : i + m + (q + 1) * p = i + (m + q * p) + p := by rw [Nat.add_mul, Nat.one_mul]; omega
    rw [e1, it_per h]
    have e2 : i + (m + q * p) = i + m + q * p := by omega
    rw [e2, it_perk h m q]
theorem it_mod {e : Int × List Int} {r : Int} {i p : Nat} (h : itE e (i + p) r = itE e i r) (m : Nat) : itE e (i + m) r = itE e (i + m % p) r := by
  have e1 : i + m = i + m % p + m / p * p := by
    have := Nat.mod_add_div m p
    rw [Nat.mul_comm] at this
    omega
  exact (congrArg (fun z => itE e z r) e1).trans (it_perk h _ _)
theorem nodup_bd : ∀ (N : Nat) (l : List Int), l.Nodup → (∀ x ∈ l, 1 ≤ x ∧ x ≤ (N : Int)) → l.length ≤ N
  | 0, [], _, _ => Nat.le_refl _
  | 0, x :: l, _, h => by
    have := h x (by simp)
    omega
  | N + 1, l, nd, h => by
    have h2 := nodup_bd N (l.erase ((N + 1 : Nat) : Int)) (nd.erase _) fun x hx => by
      have a := h x (List.mem_of_mem_erase hx)
      have b := (nd.mem_erase_iff.mp hx).1
      omega
    have h3 := List.le_length_erase (a := ((N + 1 : Nat) : Int)) (l := l)
    omega
theorem pigeon {N : Nat} {f : Nat → Int} (h : ∀ i : Nat, i ≤ N → 1 ≤ f i ∧ f i ≤ (N : Int)) : ∃ i j : Nat, i < j ∧ j ≤ N ∧ f i = f j := by
  apply Classical.byContradiction
  intro no
  have nd : ((List.range (N + 1)).map f).Nodup := by
    refine List.pairwise_map.mpr (List.Pairwise.imp_of_mem (fun {a b} ha hb hab e => ?_) List.pairwise_lt_range)
    exact no ⟨a, b, hab, by have := List.mem_range.mp hb; omega, e⟩
  have := nodup_bd N _ nd fun x hx => by
    obtain ⟨i, hi, rfl⟩ := List.mem_map.mp hx
    exact h i (by have := List.mem_range.mp hi; omega)
  rw [List.length_map, List.length_range] at this
  omega
section
variable {X V : Nat → Int} {t : Nat} {p : Int} {d : D}
theorem valM_mem {κ α : Type} [DecidableEq κ] {m : List (κ × α)} {k : κ} {d : α} : valM m k = some d → (k, d) ∈ m := by
  induction m with
  | nil => intro h; cases h
  | cons q m ih =>
    intro h
    rw [valM_cons] at h
    split at h
    · rename_i hq
      cases h
      subst hq
      exact List.mem_cons_self
    · exact List.mem_cons_of_mem _ (ih h)
end
theorem rg_mid {a b x : Int} {pre post : List Int} (h : rg a b = pre ++ x :: post) : x = a + pre.length ∧ a + (pre.length : Int) < b := by
  have hl := congrArg List.length h
  rw [rg_length, List.length_append, List.length_cons] at hl
  have lt : a + (pre.length : Int) < b := by omega
  have e := rg_at lt
  rw [h, List.getElem?_append_right (Nat.le_refl _), Nat.sub_self] at e
  simp at e
  exact ⟨e, lt⟩
/-- the pile behind so many times -/
def doN (e : Int × List Int) : Nat → List Int → List Int
  | 0, h => h
  | k + 1, h => doE e (doN e k h)
theorem doN_len {e : Int × List Int} (h0 : 0 ≤ e.1) (hp : List Int) : ∀ k : Nat, (∀ j : Nat, j < k → e.1 ≤ (doN e j hp).length) → ((doN e k hp).length : Int) = hp.length + k * (e.2.length - e.1)
  | 0, _ => by simp [doN]
  | k + 1, h => by
    have ih := doN_len h0 hp k fun j hj => h j (by omega)
    have hk := h k (by omega)
    show (((e.2.map _) ++ (doN e k hp).drop e.1.toNat).length : Int) = _
    rw [List.length_append, List.length_map, List.length_drop]
    have e1 : ((k + 1 : Nat) : Int) * (e.2.length - e.1) = k * (e.2.length - e.1) + (e.2.length - e.1) := by
      rw [Int.natCast_add, Int.add_mul]
      simp
    rw [e1]
    omega
theorem upE_0 (e : Int × List Int) : upE e 0 = e.2 := by
  unfold upE
  rw [rg_nil (by omega), List.append_nil]
theorem doN_eff {e : Int × List Int} (h : Eff e) {d : Int} {hp : List Int} (hh : Eff (d, hp)) : ∀ k : Nat, (∀ j : Nat, j < k → e.1 ≤ (doN e j hp).length) → Eff (d, doN e k hp) ∧ ∀ r, 1 ≤ r → fromE (d, doN e k hp) r = fromE (d, hp) (itE e k r)
  | 0, _ => ⟨hh, fun r hr => rfl⟩
  | k + 1, hk => by
    obtain ⟨ih1, ih2⟩ := doN_eff h hh k fun j hj => hk j (by omega)
    have hl := hk k (by omega)
    have e1 : cE (d, doN e k hp) e 0 = (d, doN e (k + 1) hp) := by
      unfold cE
      rw [upE_0]
      show (d + 0, _) = _
      rw [Int.add_zero]
      rfl
    have c := cE_eff (e := (d, doN e k hp)) (f := e) (m := 0) ih1 h (by omega) (by dsimp only; omega)
    rw [e1] at c
    refine ⟨c, fun r hr => ?_⟩
    have f := from_c (e := (d, doN e k hp)) (f := e) (m := 0) (r := r) h (by omega) (by dsimp only; omega) hr
    rw [e1] at f
    rw [f, ih2 _ (from_ge h hr)]
    rfl
theorem from_id {d r : Int} (h0 : 0 ≤ d) (hr : 1 ≤ r) : fromE (d, rg 1 (d + 1)) r = r := by
  have l := rg_length 1 (d + 1)
  unfold fromE
  dsimp only
  split
  · rw [rg_getD (by omega)]
    omega
  · omega
theorem rg_effE {d : Int} (h0 : 0 ≤ d) : Eff (d, rg 1 (d + 1)) := ⟨h0, fun x hx => (mem_rg.mp hx).1, fun x hx => by
  have := (mem_rg.mp hx).2
  show x ≤ d
  omega⟩
def rowE (e : Int × List Int) (k : Nat) : List Int := (rg 1 (e.1 + 1)).map (itE e k)
structure CA (e : Int × List Int) (i p : Nat) : Prop where
  pos : 0 < p
  eq : rowE e (i + p) = rowE e i
  ne : ∀ a b : Nat, a < b → b < i + p → rowE e a ≠ rowE e b
theorem CA.uniq {e : Int × List Int} {i p j q : Nat} (h : CA e i p) (k : CA e j q) : i = j ∧ p = q := by
  have hp := h.pos
  have kp := k.pos
  have e1 : i + p = j + q := by
    rcases Nat.lt_trichotomy (i + p) (j + q) with c | c | c
    · exact absurd h.eq.symm (k.ne i (i + p) (by omega) c)
    · exact c
    · exact absurd k.eq.symm (h.ne j (j + q) (by omega) c)
  have e2 : rowE e i = rowE e j := by rw [← h.eq, ← k.eq, e1]
  rcases Nat.lt_trichotomy i j with c | c | c
  · exact absurd e2 (k.ne i j c (by omega))
  · exact ⟨c, by omega⟩
  · exact absurd e2.symm (h.ne j i c (by omega))
section
variable {e : Int × List Int}
theorem it_in (ef : Eff e) (hl : e.1 = e.2.length) : ∀ (k : Nat) {x : Int}, 1 ≤ x → x ≤ e.1 → 1 ≤ itE e k x ∧ itE e k x ≤ e.1
  | 0, x, h1, h2 => ⟨h1, h2⟩
  | k + 1, x, h1, h2 => it_in ef hl k (from_ge ef h1) (from_low ef h1 (by omega))
theorem it_5 {c : Int} (h5 : itE e 5 c = c) (h1 : itE e 1 c ≠ c) : ∀ d : Nat, 0 < d → d < 5 → itE e d c ≠ c := fun d d0 d5 h => by
  have : d = 1 ∨ d = 2 ∨ d = 3 ∨ d = 4 := by omega
  rcases this with rfl | rfl | rfl | rfl
  · exact h1 h
  · have : itE e 1 (itE e 2 (itE e 2 c)) = c := by rw [← it_add, ← it_add]; exact h5
    rw [h, h] at this
    exact h1 this
  · have : itE e 1 (itE e 5 c) = c := by rw [← it_add 1 5]; rw [show 1 + 5 = 3 + 3 by rfl, it_add, h, h]
    rw [h5] at this
    exact h1 this
  · have : itE e 1 (itE e 4 c) = c := by rw [← it_add]; exact h5
    rw [h] at this
    exact h1 this
theorem again1 (ef : Eff e) (hl : e.1 = e.2.length) (h6 : e.1 ≤ 6) : ∃ b : Nat, (b = 11 ∨ b = 18) ∧ ∀ x, 1 ≤ x → x ≤ e.1 → itE e b x = itE e 6 x := by
  have cyc : ∀ x, 1 ≤ x → x ≤ e.1 → ∃ d : Nat, 0 < d ∧ d ≤ 6 ∧ itE e (6 + d) x = itE e 6 x := fun x h1 h2 => by
    obtain ⟨i, j, hij, hj, eq⟩ := pigeon (N := 6) (f := fun i => itE e i x) fun i hi => by
      have := it_in ef hl i h1 h2
      exact ⟨this.1, by omega⟩
    refine ⟨j - i, by omega, by omega, ?_⟩
    have per : itE e (i + (j - i)) x = itE e i x := by rw [show i + (j - i) = j by omega]; exact eq.symm
    have := it_per per (6 - i)
    rwa [show i + (6 - i) + (j - i) = 6 + (j - i) by omega, show i + (6 - i) = 6 by omega] at this
  by_cases five : ∃ x, 1 ≤ x ∧ x ≤ e.1 ∧ itE e 5 (itE e 6 x) = itE e 6 x ∧ itE e 1 (itE e 6 x) ≠ itE e 6 x
  · obtain ⟨x, x1, x2, f5, f1⟩ := five
    obtain ⟨c, hc⟩ : ∃ c, itE e 6 x = c := ⟨_, rfl⟩
    rw [hc] at f5 f1
    have cb : 1 ≤ c ∧ c ≤ e.1 := by rw [← hc]; exact it_in ef hl 6 x1 x2
    have no := it_5 f5 f1
    have back : ∀ i : Nat, i < 5 → itE e 5 (itE e i c) = itE e i c := fun i hi => by rw [← it_add, Nat.add_comm, it_add, f5]
    have inj : ∀ i j : Nat, i < j → j < 5 → itE e i c ≠ itE e j c := fun i j hij hj eq => by
      have h1 := congrArg (itE e (5 - i)) eq
      rw [← it_add, ← it_add, show 5 - i + i = 5 by omega, show 5 - i + j = (j - i) + 5 by omega, it_add (j - i) 5, f5] at h1
      exact no (j - i) (by omega) (by omega) h1.symm
    have nd : ((List.range 5).map fun i => itE e i c).Nodup := by
      refine List.pairwise_map.mpr (List.Pairwise.imp_of_mem (fun {a b} ha hb hab eq => ?_) List.pairwise_lt_range)
      exact inj a b hab (by have := List.mem_range.mp hb; omega) eq
    refine ⟨11, .inl rfl, fun y y1 y2 => ?_⟩
    obtain ⟨z, hz⟩ : ∃ z, itE e 6 y = z := ⟨_, rfl⟩
    have zb : 1 ≤ z ∧ z ≤ e.1 := by rw [← hz]; exact it_in ef hl 6 y1 y2
    rw [show 11 = 5 + 6 by rfl, it_add, hz]
    by_cases zc : ∃ i : Nat, i < 5 ∧ itE e i c = z
    · obtain ⟨i, hi, rfl⟩ := zc
      exact back i hi
    · obtain ⟨d, d0, d6, hd⟩ := cyc y y1 y2
      rw [Nat.add_comm, it_add, hz] at hd
      have fz : 1 ≤ itE e 1 z ∧ itE e 1 z ≤ e.1 := it_in ef hl 1 zb.1 zb.2
      have fzc : ¬ ∃ i : Nat, i < 5 ∧ itE e i c = itE e 1 z := fun ⟨i, hi, h⟩ => by
        have h2 := congrArg (itE e (d - 1)) h
        rw [← it_add, ← it_add, show d - 1 + 1 = d by omega, hd] at h2
        -- it is on the ring
        have per : itE e (0 + 5) c = itE e 0 c := f5
        have h3 := it_mod per (d - 1 + i)
        rw [Nat.zero_add, Nat.zero_add] at h3
        exact zc ⟨(d - 1 + i) % 5, Nat.mod_lt _ (by decide), by rw [← h3]; exact h2⟩
      have eqz : itE e 1 z = z := by
        apply Classical.byContradiction
        intro hne
        have nd2 : (itE e 1 z :: z :: (List.range 5).map fun i => itE e i c).Nodup := by
          refine List.nodup_cons.mpr ⟨fun m => ?_, List.nodup_cons.mpr ⟨fun m => ?_, nd⟩⟩
          · rcases List.mem_cons.mp m with m | m
            · exact hne m
            · obtain ⟨i, hi, h⟩ := List.mem_map.mp m
              exact fzc ⟨i, List.mem_range.mp hi, h⟩
          · obtain ⟨i, hi, h⟩ := List.mem_map.mp m
            exact zc ⟨i, List.mem_range.mp hi, h⟩
        have := nodup_bd 6 _ nd2 fun w hw => by
          rcases List.mem_cons.mp hw with rfl | hw
          · exact ⟨fz.1, by omega⟩
          · rcases List.mem_cons.mp hw with rfl | hw
            · exact ⟨zb.1, by omega⟩
            · obtain ⟨i, hi, rfl⟩ := List.mem_map.mp hw
              have := it_in ef hl i cb.1 cb.2
              exact ⟨this.1, by omega⟩
        simp at this
      have per : itE e (0 + 1) z = itE e 0 z := eqz
      have := it_perk per 0 5
      exact this
  · refine ⟨18, .inr rfl, fun y y1 y2 => ?_⟩
    obtain ⟨d, d0, d6, hd⟩ := cyc y y1 y2
    obtain ⟨d', dd, hd'⟩ : ∃ d' : Nat, (d' = 1 ∨ d' = 2 ∨ d' = 3 ∨ d' = 4 ∨ d' = 6) ∧ itE e (6 + d') y = itE e 6 y := by
      by_cases h5 : d = 5
      · subst h5
        refine ⟨1, .inl rfl, ?_⟩
        apply Classical.byContradiction
        intro no
        refine five ⟨y, y1, y2, ?_, fun h => no ?_⟩
        · rw [← it_add]; exact hd
        · rw [show 6 + 1 = 1 + 6 by rfl, it_add]; exact h
      · exact ⟨d, by omega, hd⟩
    obtain ⟨q, hq⟩ : ∃ q, 12 = q * d' := by
      rcases dd with h | h | h | h | h
      · exact ⟨12, by omega⟩
      · exact ⟨6, by omega⟩
      · exact ⟨4, by omega⟩
      · exact ⟨3, by omega⟩
      · exact ⟨2, by omega⟩
    have := it_perk hd' 0 q
    rw [← hq] at this
    exact this
theorem again18 (ef : Eff e) (hl : e.1 = e.2.length) (h6 : e.1 ≤ 6) : ∃ b : Nat, 6 < b ∧ b ≤ 18 ∧ ∀ x, 1 ≤ x → x ≤ e.1 → itE e b x = itE e 6 x:= by
  obtain ⟨b, hb, h⟩ := again1 ef hl h6
  exact ⟨b, by omega, by omega, h⟩
/-- the rows come again soon -/
theorem rows_again (ef : Eff e) (hl : e.1 = e.2.length) (h6 : e.1 ≤ 6) : ∃ a b : Nat, a < b ∧ b ≤ 18 ∧ rowE e a = rowE e b := by
  obtain ⟨b, h1, h2, h3⟩ := again18 ef hl h6
  exact ⟨6, b, h1, h2, List.map_congr_left fun x hx => (h3 x (mem_rg.mp hx).1 (by have := (mem_rg.mp hx).2; omega)).symm⟩
theorem rowE_0 : rowE e 0 = rg 1 (e.1 + 1) := by
  unfold rowE
  exact List.map_id'' (fun _ => rfl) _
theorem rowE_succ (ef : Eff e) (hl : e.1 = e.2.length) (k : Nat) : (rowE e k).map (fun s => e.2.getD (s - 1).toNat 0) = rowE e (k + 1) := by
  unfold rowE
  rw [List.map_map]
  refine List.map_congr_left fun x hx => ?_
  have hx := mem_rg.mp hx
  have := it_in ef hl k hx.1 (by omega)
  show e.2.getD (itE e k x - 1).toNat 0 = _
  rw [it_succ, from_lo (by omega)]
theorem rowE_mem (ef : Eff e) (hl : e.1 = e.2.length) {k : Nat} {s : Int} (h : s ∈ rowE e k) : 1 ≤ s ∧ s ≤ e.1 := by
  obtain ⟨x, hx, rfl⟩ := List.mem_map.mp h
  have hx := mem_rg.mp hx
  exact it_in ef hl k hx.1 (by omega)
end
def mkDT (e : Int × List Int) (t : Nat) : List (List Key × D) := (List.range t).map fun j => ((rowE e j).map Sum.inl, PyData.int (j : Nat))
section
variable {e : Int × List Int} {t : Nat} {d : D} {r : List Int}
theorem mkDT_succ : mkDT e (t + 1) = mkDT e t ++ [((rowE e t).map Sum.inl, .int (t : Nat))] := by
  unfold mkDT
  rw [List.range_succ, List.map_append]
  rfl
theorem mkDT_len : (mkDT e t).length = t := by
  unfold mkDT
  rw [List.length_map, List.length_range]
theorem inl_inj {a b : List Int} (h : a.map (Sum.inl : Int → Key) = b.map Sum.inl) : a = b := by
  have := congrArg (List.map (fun k : Key => match k with | .inl i => i | .inr _ => 0)) h
  rw [List.map_map, List.map_map] at this
  simpa [Function.comp_def] using this
theorem mkDT_some (h : valM (mkDT e t) (r.map Sum.inl) = some d) : ∃ j : Nat, j < t ∧ rowE e j = r ∧ d = .int (j : Nat) := by
  have := valM_mem h
  unfold mkDT at this
  obtain ⟨j, hj, eq⟩ := List.mem_map.mp this
  have e1 := congrArg Prod.fst eq
  have e2 := congrArg Prod.snd eq
  exact ⟨j, List.mem_range.mp hj, inl_inj e1, e2.symm⟩
theorem mkDT_none (h : valM (mkDT e t) (r.map Sum.inl) = none) : ∀ j : Nat, j < t → rowE e j ≠ r := fun j hj eq => by
  refine valM_none_mem.mp h ((rowE e j).map Sum.inl, .int (j : Nat)) ?_ (by rw [eq])
  unfold mkDT
  exact List.mem_map.mpr ⟨j, List.mem_range.mpr hj, rfl⟩
theorem mkDT_put (h : valM (mkDT e t) ((rowE e t).map Sum.inl) = none) : putM (mkDT e t) ((rowE e t).map Sum.inl) (.int (t : Nat)) = mkDT e (t + 1) := by
  rw [putM_new h, mkDT_succ]
end
def caD : Option (Nat × Nat) → D
  | none => .none
  | some (i, p) => .tuple [.int i, .int p]
/-- what is told of an effect -/
def CO (e : Int × List Int) : Option (Nat × Nat) → Prop
  | none => e.1 ≠ e.2.length
  | some (i, p) => e.1 = e.2.length ∧ CA e i p
theorem CO.uniq {e : Int × List Int} : ∀ {o p : Option (Nat × Nat)}, CO e o → CO e p → o = p
  | none, none, _, _ => rfl
  | none, some (i, p), h, k => absurd k.1 h
  | some (i, p), none, h, k => absurd h.1 k
  | some (i, p), some (j, q), h, k => by
    obtain ⟨rfl, rfl⟩ := h.2.uniq k.2
    rfl
def Per (v : Nat → Int) (T P : Nat) (c : Int) : Prop := ∀ i : Nat, T ≤ i → v (i + P) = v i + c
def Tell (v : Nat → Int) (h L : Nat) (g : Int) : Prop := 1 ≤ L ∧ Per v h L g ∧ (∀ (l T : Nat) (c : Int), 1 ≤ l → Per v T l c → L ≤ l) ∧ (0 < h → v (h - 1 + L) ≠ v (h - 1) + g)
section
variable {v : Nat → Int} {T T' P l a b : Nat} {c c' : Int}
theorem Per.mul (h : Per v T P c) : ∀ k : Nat, Per v T (k * P) (k * c)
  | 0, i, _ => by simp
  | k + 1, i, hi => by
    have e := Per.mul h k i hi
    have f := h (i + k * P) (by omega)
    rw [show i + (k + 1) * P = i + k * P + P by rw [Nat.add_mul]; omega, f, e, Int.natCast_add, Int.add_mul]
    simp
    omega
theorem Per.up (h : Per v T P c) (ht : T ≤ T') : Per v T' P c := fun i hi => h i (by omega)
theorem Per.sub (h : Per v T a c) (h' : Per v T' b c') (hb : b ≤ a) : Per v (T + T') (a - b) (c - c') := fun i hi => by
  have e := h i (by omega)
  have f := h' (i + (a - b)) (by omega)
  rw [show i + (a - b) + b = i + a by omega] at f
  omega
theorem Per.gcd : ∀ (a b : Nat) {T T' : Nat} {c c' : Int}, Per v T a c → Per v T' b c' → ∃ T2 c2, Per v T2 (Nat.gcd a b) c2 := fun a b => by
  induction a, b using Nat.gcd.induction with
  | H0 n => intro T T' c c' h h'; rw [Nat.gcd_zero_left]; exact ⟨T', c', h'⟩
  | H1 m n hm ih =>
    intro T T' c c' h h'
    rw [Nat.gcd_rec]
    have k := (h.mul (n / m))
    have e : n - n / m * m = n % m := by
      have := Nat.mod_add_div n m
      rw [Nat.mul_comm] at this
      omega
    have s := h'.sub k (by have := Nat.div_mul_le_self n m; exact this)
    rw [e] at s
    exact ih s h
theorem Per.back (h : Per v T P c) (hP : 1 ≤ P) (h' : Per v T' l c') : Per v T l c' := fun i hi => by
  have k := h.mul T'
  have e := k i hi
  have f := k (i + l) (by omega)
  have le : T' ≤ T' * P := Nat.le_mul_of_pos_right _ hP
  have g := h' (i + T' * P) (by omega)
  rw [show i + T' * P + l = i + l + T' * P by omega] at g
  omega
theorem Per.win (h : Per v T P c) (hP : 1 ≤ P) (hw : ∀ j : Nat, j < P → v (T + j + l) = v (T + j) + c') : Per v T l c' := fun i => by
  induction i using Nat.strongRecOn with
  | ind i ih =>
    intro hi
    by_cases hj : i < T + P
    · have := hw (i - T) (by omega)
      rwa [show T + (i - T) = i by omega] at this
    · have e := ih (i - P) (by omega) (by omega)
      have f := h (i - P) (by omega)
      have g := h (i - P + l) (by omega)
      rw [show i - P + P = i by omega] at f
      rw [show i - P + l + P = i + l by omega] at g
      omega
theorem Per.val (h : Per v T l c) (h' : Per v T' l c') : c = c' := by
  have e := h (T + T') (by omega)
  have f := h' (T + T') (by omega)
  omega
theorem Tell.uniq {h h' L L' : Nat} {g g' : Int} (x : Tell v h L g) (y : Tell v h' L' g') : h = h' ∧ L = L' ∧ g = g' := by
  obtain ⟨x1, x2, x3, x4⟩ := x
  obtain ⟨y1, y2, y3, y4⟩ := y
  have e : L = L' := Nat.le_antisymm (x3 _ _ _ y1 y2) (y3 _ _ _ x1 x2)
  subst e
  have eg : g = g' := x2.val y2
  subst eg
  refine ⟨?_, rfl, rfl⟩
  apply Classical.byContradiction
  intro no
  by_cases lt : h < h'
  · exact y4 (by omega) (x2 (h' - 1) (by omega))
  · exact x4 (by omega) (y2 (h - 1) (by omega))
/-- the ring alone tells whether a smaller one does -/
theorem Per.ring (h : Per v T P c) (hP : 1 ≤ P) (hl : 1 ≤ l) (hd : l ∣ P) : (∃ c', Per v T l c') ↔ (c * l) % P = 0 ∧ ∀ i : Nat, i + l < P → v (T + (i + l)) = v (T + i) + c * l / P := by
  obtain ⟨m, rfl⟩ := hd
  have l0 : (l : Int) ≠ 0 := by omega
  have m1 : 1 ≤ m := by
    cases m with
    | zero => simp at hP
    | succ m => omega
  have P0 : ((l * m : Nat) : Int) ≠ 0 := by omega
  constructor
  · rintro ⟨c', h'⟩
    have k := h'.mul m
    rw [Nat.mul_comm m l] at k
    have e := h.val k
    have e2 : c * l = c' * ((l * m : Nat) : Int) := by
      rw [e, Int.natCast_mul, Int.mul_comm (m : Int) c', Int.mul_assoc, Int.mul_comm (m : Int) (l : Int)]
    rw [e2, Int.mul_ediv_cancel _ P0]
    exact ⟨Int.mul_emod_left _ _, fun i _ => by rw [← Nat.add_assoc]; exact h' (T + i) (by omega)⟩
  · rintro ⟨h1, h2⟩
    obtain ⟨g, hg⟩ : ∃ g, c * l / ((l * m : Nat) : Int) = g := ⟨_, rfl⟩
    rw [hg] at h2
    have e := Int.emod_add_mul_ediv (c * l) ((l * m : Nat) : Int)
    rw [h1, hg, Int.natCast_mul, Int.zero_add] at e
    have cm : c = m * g := by
      have : (l : Int) * (m * g) = l * c := by rw [← Int.mul_assoc, e, Int.mul_comm]
      exact (Int.eq_of_mul_eq_mul_left l0 this).symm
    have ch : ∀ k j : Nat, j + k * l < l * m → v (T + (j + k * l)) = v (T + j) + k * g := fun k => by
      induction k with
      | zero => intro j _; simp
      | succ k ih =>
        intro j hj
        have ek : (k + 1) * l = k * l + l := by rw [Nat.add_mul]; omega
        rw [ek] at hj ⊢
        have f := h2 (j + k * l) (by omega)
        rw [Nat.add_assoc] at f
        rw [f, ih j (by omega), Int.natCast_add, Int.add_mul]
        simp
        omega
    refine ⟨g, h.win hP fun j hj => ?_⟩
    by_cases hj2 : j + l < l * m
    · have := h2 j hj2
      rwa [← Nat.add_assoc] at this
    · obtain ⟨k, rfl⟩ : ∃ k, m = k + 1 := ⟨m - 1, by omega⟩
      have el : l * (k + 1) = k * l + l := by rw [Nat.mul_add, Nat.mul_comm]; omega
      rw [el] at hj hj2 h
      have f := ch k (j - k * l) (by rw [el]; omega)
      rw [show j - k * l + k * l = j by omega] at f
      have z := h (T + (j - k * l)) (by omega)
      rw [show T + (j - k * l) + (k * l + l) = T + j + l by omega] at z
      rw [z, f, cm, Int.natCast_add, Int.add_mul]
      simp
      omega
theorem Per.grow (h : Per v T P c) (hP : 1 ≤ P) (hl : 1 ≤ l) (hd : l ∣ P) (h' : Per v T l c') : Per v T l (c * l / P) := by
  obtain ⟨m, rfl⟩ := hd
  have k := h'.mul m
  rw [Nat.mul_comm m l] at k
  have e := h.val k
  have e2 : c * l = c' * ((l * m : Nat) : Int) := by
    rw [e, Int.natCast_mul, Int.mul_comm (m : Int) c', Int.mul_assoc, Int.mul_comm (m : Int) (l : Int)]
  rw [e2, Int.mul_ediv_cancel _ (by omega)]
  exact h'
theorem Per.least (h : Per v T P c) (hP : 1 ≤ P) {s : Nat} (no : ∀ d : Nat, 1 ≤ d → d < s → d ∣ P → ∀ c', ¬ Per v T d c') : ∀ (l T' : Nat) (c' : Int), 1 ≤ l → Per v T' l c' → s ≤ l := fun l T' c' hl h' => by
  obtain ⟨T2, c2, h2⟩ := Per.gcd l P h' h
  have d1 : 1 ≤ Nat.gcd l P := Nat.gcd_pos_of_pos_left _ hl
  have d2 : Nat.gcd l P ≤ l := Nat.gcd_le_left _ hl
  apply Classical.byContradiction
  intro lt
  exact no _ d1 (by omega) (Nat.gcd_dvd_right _ _) _ (h.back hP h2)
end
theorem rm_cut {v : Nat → Int} {N a b : Nat} (h : a + b ≤ N) : (((List.range N).map v).drop a).take b = (List.range b).map fun j => v (a + j) := by
  refine List.ext_getElem (by simp; omega) fun i h1 h2 => ?_
  simp
theorem rm_take {v : Nat → Int} {N b : Nat} (h : b ≤ N) : ((List.range N).map v).take b = (List.range b).map v := by
  have := rm_cut (v := v) (N := N) (a := 0) (b := b) (by omega)
  simpa using this
theorem cut_rm {v : Nat → Int} {N a b : Nat} (h : a + b ≤ N) : cutD (((List.range N).map v).map PyData.int) (some (a : Int)) (some ((a : Int) + (b : Int))) = ((List.range b).map fun j => v (a + j)).map PyData.int := by
  rw [show (a : Int) + (b : Int) = ((a + b : Nat) : Int) by omega, cutD_mid, ← List.map_drop, ← List.map_take, show a + b - a = b by omega, rm_cut h]
theorem cut_rm0 {v : Nat → Int} {N b : Nat} (h : b ≤ N) : cutD (((List.range N).map v).map PyData.int) none (some (b : Int)) = ((List.range b).map v).map PyData.int := by
  rw [cutD_to, ← List.map_take, rm_take h]
theorem rm_get {v : Nat → Int} {N i : Nat} (h : i < N) : ((List.range N).map v).getD i 0 = v i := by
  simp [List.getD_eq_getElem?_getD, List.getElem?_range h]
theorem ixD_last {gs : List Int} {f : Nat → D → Prop} (h1 : 1 ≤ gs.length) (h : f (gs.length - 1) (.int (gs.getD (gs.length - 1) 0))) : ixD (gs.map PyData.int) (-1) f := by
  unfold ixD
  have e1 : ixN (gs.map PyData.int).length (-1) = some (gs.length - 1) := by
    unfold ixN
    rw [List.length_map, if_neg (by decide)]
    first
      | rw [if_pos (by omega)]; congr 1; omega
      | (trace_state; done)
  have e2 : (gs.map PyData.int)[gs.length - 1]? = some (.int (gs.getD (gs.length - 1) 0)) := by
    rw [List.getElem?_map, List.getD_eq_getElem?_getD, List.getElem?_eq_getElem (by omega)]
    rfl
  rw [e1]
  show ((gs.map PyData.int)[gs.length - 1]?).elim False (f (gs.length - 1))
  rw [e2]
  exact h
abbrev dC (a b c : Int × List Int) : D := .tuple [dE a, dE b, dE c]
/-- where a thing was before a course -/
def crsE (a b c : Int × List Int) (k : Nat) (r : Int) : Int := fromE a (itE b k (fromE c r))
/-- one that is told with more -/
structure Wd (deep most : Int) (e f : Int × List Int) : Prop where
  eff : Eff f
  ls : leastE f.1 f.2 = e
  n : f.1 ≤ deep
  l : (f.2.length : Int) ≤ most
theorem crs_least {a b c : Int × List Int} (hb : Eff b) (hc : Eff c) (k : Nat) {r : Int} (hr : 1 ≤ r) : crsE (leastE a.1 a.2) (leastE b.1 b.2) (leastE c.1 c.2) k r = crsE a b c k r := by
  unfold crsE
  have e1 : fromE (leastE c.1 c.2) r = fromE c r := from_least (n := c.1) (gs := c.2) hr
  have g1 := from_ge hc hr
  have e2 : itE (leastE b.1 b.2) k (fromE c r) = itE b k (fromE c r) := it_least (n := b.1) (gs := b.2) hb k g1
  have e3 : fromE (leastE a.1 a.2) (itE b k (fromE c r)) = fromE a (itE b k (fromE c r)) := from_least (n := a.1) (gs := a.2) (it_ge hb k g1)
  rw [e1, e2, e3]
theorem Wd.sh {deep most : Int} {e f : Int × List Int} (h : Wd deep most e f) (hd : deep ≤ 100000) (hm : most ≤ 4000) : Sh 3 1700000 (dE f) := sh_effE h.eff (by have := h.n; omega) (by have := h.l; omega)
def crE (a b c : Int × List Int) (k : Nat) : Int × List Int := joinE (joinE a (powE b k)) c
theorem crE_eff {a b c : Int × List Int} (ha : Eff a) (hb : Eff b) (hc : Eff c) (k : Nat) : Eff (crE a b c k) := join_eff (join_eff ha (pow_eff hb k)) hc
theorem crE_lst {a b c : Int × List Int} (k : Nat) : Lst (crE a b c k) := join_lst
theorem crE_from {a b c : Int × List Int} (hb : Eff b) (hc : Eff c) (k : Nat) {r : Int} (hr : 1 ≤ r) : fromE (crE a b c k) r = crsE a b c k r := by
  have g := from_ge hc hr
  unfold crE crsE
  rw [from_join hc hr, from_join (pow_eff hb k) g, from_pow hb k g]
theorem crE_ext {a b c a' b' c' : Int × List Int} (ha : Eff a) (hb : Eff b) (hc : Eff c) (ha' : Eff a') (hb' : Eff b') (hc' : Eff c') {k k' : Nat} (h : ∀ r, 1 ≤ r → crsE a b c k r = crsE a' b' c' k' r) : crE a b c k = crE a' b' c' k' :=
  canon (crE_eff ha hb hc k) (crE_eff ha' hb' hc' k') (crE_lst k) (crE_lst k') fun r hr => by rw [crE_from hb hc k hr, crE_from hb' hc' k' hr, h r hr]
theorem crE_least {a b c : Int × List Int} (ha : Eff a) (hb : Eff b) (hc : Eff c) (k : Nat) : crE (leastE a.1 a.2) (leastE b.1 b.2) (leastE c.1 c.2) k = crE a b c k :=
  crE_ext (leastE_ok (n := a.1) (gs := a.2) ha).eff (leastE_ok (n := b.1) (gs := b.2) hb).eff (leastE_ok (n := c.1) (gs := c.2) hc).eff ha hb hc fun r hr => crs_least hb hc k hr
theorem crE_bd {a b c : Int × List Int} (ha : Eff a) (hb : Eff b) (hc : Eff c) (k : Nat) : (crE a b c k).1 ≤ a.1 + k * b.1 + c.1 ∧ (crE a b c k).2.length ≤ c.2.length + (k * b.2.length + a.2.length) := by
  have pb := pow_bd hb k
  have j1 := join_bd ha (pow_eff hb k)
  have j2 := join_bd (join_eff ha (pow_eff hb k)) hc
  unfold crE
  constructor
  · have := j2.1
    have := j1.1
    have := pb.1
    omega
  · have := j2.2
    have := j1.2
    have := pb.2
    omega
abbrev dS (ss : List Str) : D := .list (ss.map PyData.str)
theorem nolists_strs : ∀ ss : List Str, nolists (ss.map PyData.str) = true
  | [] => rfl
  | s :: ss => by simp [nolists, nolist, nolists_strs ss]
theorem depth_strs : ∀ ss : List Str, PyData.depthAll (ss.map PyData.str) = 0
  | [] => rfl
  | s :: ss => by simp [PyData.depthAll, PyData.depth, depth_strs ss]
theorem lay_strs : ∀ ss : List Str, (∀ s ∈ ss, PyData.strOk s = true) → PyData.canLayAll0 (ss.map PyData.str) = true
  | [], _ => rfl
  | s :: ss, h => by simp [PyData.canLayAll0, PyData.canLay0, lay_strs ss fun x hx => h x (List.mem_cons_of_mem _ hx), h s List.mem_cons_self]
theorem shaped_strs {ss : List Str} (h : ∀ s ∈ ss, PyData.strOk s = true) : SeqAt.shaped (dS ss) = true := by
  unfold SeqAt.shaped
  simp [PyData.canLay0, PyData.depth, lay_strs ss h, depth_strs]
theorem eqv_strs : ∀ xs ys : List Str, PyData.eqv (dS xs) (dS ys) = decide (xs = ys) := by
  have aux : ∀ xs ys : List Str, PyData.eqvAll (xs.map PyData.str) (ys.map PyData.str) = decide (xs = ys) := by
    intro xs
    induction xs with
    | nil =>
      intro ys
      cases ys with
      | nil => simp [PyData.eqvAll]
      | cons y ys => simp [PyData.eqvAll]
    | cons x xs ih =>
      intro ys
      cases ys with
      | nil => simp [PyData.eqvAll]
      | cons y ys =>
        simp only [List.map_cons, PyData.eqvAll, PyData.eqv, ih]
        by_cases h : x = y
        · subst h
          simp
        · have h2 : (x == y) = false := beq_eq_false_iff_ne.mpr h
          rw [h2]
          simp [h]
  intro xs ys
  show PyData.eqv (.list (xs.map PyData.str)) (.list (ys.map PyData.str)) = _
  simp only [PyData.eqv]
  exact aux xs ys
theorem ixD_strs {ss : List Str} {i : Int} {f : Nat → D → Prop} (h0 : 0 ≤ i) (h1 : i < ss.length) (h : ∀ s, s ∈ ss → ss.getD i.toNat s = s → ss[i.toNat]? = some s → f i.toNat (.str s)) : ixD (ss.map PyData.str) i f := by
  refine ixD_any h0 (by rw [List.length_map]; exact h1) fun x hx => ?_
  rw [List.getElem?_map] at hx
  cases q : ss[i.toNat]? with
  | none => rw [q] at hx; cases hx
  | some s =>
    rw [q] at hx
    cases hx
    exact h s (List.mem_of_getElem? q) (by rw [List.getD_eq_getElem?_getD, q]; rfl) q
/-- the pile behind an effect -/
def doS (e : Int × List Int) (ss : List Str) : List Str := e.2.filterMap (fun r => ss[(r - 1).toNat]?) ++ ss.drop e.1.toNat
def fitP (e : Int × List Int) (p : List Str × List Str) : Bool := decide (e.1 ≤ p.1.length) && decide (doS e p.1 = p.2)
abbrev pairD (p : List Str × List Str) : D := .tuple [dS p.1, dS p.2]
theorem doS_mem {e : Int × List Int} {ss : List Str} {s : Str} (h : s ∈ doS e ss) : s ∈ ss := by
  unfold doS at h
  rcases List.mem_append.mp h with h | h
  · obtain ⟨r, _, hr⟩ := List.mem_filterMap.mp h
    exact List.mem_of_getElem? hr
  · exact (List.drop_subset _ _) h
theorem doS_len {e : Int × List Int} {ss : List Str} : (doS e ss).length ≤ e.2.length + ss.length := by
  unfold doS
  rw [List.length_append, List.length_drop]
  have := List.length_filterMap_le (fun r => ss[(r - 1).toNat]?) e.2
  omega
def TxS : List Str := ["a", "b", "c", "d", "e", "f", "g", "h", "aa", "", "ab", "A", "a b", "~"]
theorem sh_ts {s : Str} (h : s ∈ TxS) : Sh 1 205 (.str s) := by
  have : ∀ s ∈ TxS, PyData.showable (.str s) = true ∧ PyData.depth (.str s) ≤ 1 ∧ G.wd (.str s) ≤ 205 := by decide +kernel
  obtain ⟨a, b, c⟩ := this s h
  exact ⟨a, b, c⟩
theorem ok_ts {s : Str} (h : s ∈ TxS) : PyData.strOk s = true := by
  have : ∀ s ∈ TxS, PyData.strOk s = true := by decide +kernel
  exact this s h
theorem it_rest {e : Int × List Int} (hl : e.1 = e.2.length) {r : Int} (hr : e.1 < r) : ∀ k : Nat, itE e k r = r
  | 0 => rfl
  | k + 1 => by
    show itE e k (fromE e r) = r
    rw [from_hi (by omega), show r + (e.1 - e.2.length) = r by omega, it_rest hl hr k]
theorem ring4 {e : Int × List Int} {c : Int} (h4 : itE e 4 c = c) (h2 : itE e 2 c ≠ c) : ∀ d : Nat, 0 < d → d < 4 → itE e d c ≠ c := fun d d0 d4 h => by
  have : d = 1 ∨ d = 2 ∨ d = 3 := by omega
  rcases this with rfl | rfl | rfl
  · exact h2 (by rw [show 2 = 1 + 1 by rfl, it_add, h, h])
  · exact h2 h
  · have : itE e 1 (itE e 3 c) = c := by rw [← it_add]; exact h4
    rw [h] at this
    exact h2 (by rw [show 2 = 1 + 1 by rfl, it_add, this, this])
theorem it_fixR {e : Int × List Int} {z : Int} {k : Nat} (h : itE e k z = z) : ∀ q : Nat, itE e (q * k) z = z
  | 0 => by rw [Nat.zero_mul]; rfl
  | q + 1 => by rw [Nat.add_mul, Nat.one_mul, it_add, h, it_fixR h q]
/-- on six places all comes round by rings of six at most -/
theorem again6 {e : Int × List Int} (ef : Eff e) (hl : e.1 = e.2.length) (h6 : e.1 ≤ 6) : ∃ P : Nat, 1 ≤ P ∧ P ≤ 6 ∧ ∀ x, 1 ≤ x → x ≤ e.1 → itE e (6 + P) x = itE e 6 x := by
  obtain ⟨b, hb, hall⟩ := again1 ef hl h6
  rcases hb with rfl | rfl
  · exact ⟨5, by decide, by decide, hall⟩
  have cyc : ∀ x, 1 ≤ x → x ≤ e.1 → ∃ d : Nat, 0 < d ∧ d ≤ 6 ∧ itE e (6 + d) x = itE e 6 x := fun x h1 h2 => by
    obtain ⟨i, j, hij, hj, eq⟩ := pigeon (N := 6) (f := fun i => itE e i x) fun i hi => by
      have := it_in ef hl i h1 h2
      exact ⟨this.1, by omega⟩
    refine ⟨j - i, by omega, by omega, ?_⟩
    have per : itE e (i + (j - i)) x = itE e i x := by rw [show i + (j - i) = j by omega]; exact eq.symm
    have := it_per per (6 - i)
    rwa [show i + (6 - i) + (j - i) = 6 + (j - i) by omega, show i + (6 - i) = 6 by omega] at this
  by_cases four : ∃ x, 1 ≤ x ∧ x ≤ e.1 ∧ itE e 4 (itE e 6 x) = itE e 6 x ∧ itE e 2 (itE e 6 x) ≠ itE e 6 x
  · obtain ⟨x, x1, x2, f4, f2⟩ := four
    obtain ⟨c, hc⟩ : ∃ c, itE e 6 x = c := ⟨_, rfl⟩
    rw [hc] at f4 f2
    have cb : 1 ≤ c ∧ c ≤ e.1 := by rw [← hc]; exact it_in ef hl 6 x1 x2
    have no := ring4 f4 f2
    have back : ∀ i : Nat, i < 4 → itE e 4 (itE e i c) = itE e i c := fun i hi => by rw [← it_add, Nat.add_comm, it_add, f4]
    have inj : ∀ i j : Nat, i < j → j < 4 → itE e i c ≠ itE e j c := fun i j hij hj eq => by
      have h1 := congrArg (itE e (4 - i)) eq
      rw [← it_add, ← it_add, show 4 - i + i = 4 by omega, show 4 - i + j = (j - i) + 4 by omega, it_add (j - i) 4, f4] at h1
      exact no (j - i) (by omega) (by omega) h1.symm
    have nd : ((List.range 4).map fun i => itE e i c).Nodup := by
      refine List.pairwise_map.mpr (List.Pairwise.imp_of_mem (fun {a b} ha hb hab eq => ?_) List.pairwise_lt_range)
      exact inj a b hab (by have := List.mem_range.mp hb; omega) eq
    refine ⟨4, by decide, by decide, fun y y1 y2 => ?_⟩
    obtain ⟨z, hz⟩ : ∃ z, itE e 6 y = z := ⟨_, rfl⟩
    have zb : 1 ≤ z ∧ z ≤ e.1 := by rw [← hz]; exact it_in ef hl 6 y1 y2
    rw [Nat.add_comm, it_add, hz]
    by_cases zc : ∃ i : Nat, i < 4 ∧ itE e i c = z
    · obtain ⟨i, hi, rfl⟩ := zc
      exact back i hi
    · obtain ⟨d, d0, d6, hd⟩ := cyc y y1 y2
      rw [Nat.add_comm, it_add, hz] at hd
      have off : ∀ s : Nat, s ≤ d → ¬ ∃ i : Nat, i < 4 ∧ itE e i c = itE e s z := fun s hs ⟨i, hi, h⟩ => by
        have h2 := congrArg (itE e (d - s)) h
        rw [← it_add, ← it_add, show d - s + s = d by omega, hd] at h2
        have per : itE e (0 + 4) c = itE e 0 c := f4
        have h3 := it_mod per (d - s + i)
        rw [Nat.zero_add, Nat.zero_add] at h3
        exact zc ⟨(d - s + i) % 4, Nat.mod_lt _ (by decide), by rw [← h3]; exact h2⟩
      by_cases e1 : itE e 1 z = z
      · exact it_fixR e1 4
      by_cases e2 : itE e 2 z = z
      · exact it_fixR e2 2
      exfalso
      have d3 : 3 ≤ d := by
        apply Classical.byContradiction
        intro h
        have : d = 1 ∨ d = 2 := by omega
        rcases this with rfl | rfl
        · exact e1 hd
        · exact e2 hd
      have e3 : itE e 1 z ≠ itE e 2 z := fun h => by
        have h2 := congrArg (itE e (d - 1)) h
        rw [← it_add, ← it_add, show d - 1 + 1 = d by omega, show d - 1 + 2 = 1 + d by omega, it_add, hd] at h2
        exact e1 h2.symm
      have b1 := it_in ef hl 1 zb.1 zb.2
      have b2 := it_in ef hl 2 zb.1 zb.2
      have ring : ∀ s : Nat, s ≤ d → ¬ itE e s z ∈ (List.range 4).map fun i => itE e i c := fun s hs m => by
        obtain ⟨i, hi, h⟩ := List.mem_map.mp m
        exact off s hs ⟨i, List.mem_range.mp hi, h⟩
      have nd2 : (itE e 2 z :: itE e 1 z :: itE e 0 z :: (List.range 4).map fun i => itE e i c).Nodup := by
        refine List.nodup_cons.mpr ⟨fun m => ?_, List.nodup_cons.mpr ⟨fun m => ?_, List.nodup_cons.mpr ⟨ring 0 (by omega), nd⟩⟩⟩
        · rcases List.mem_cons.mp m with m | m
          · exact e3 m.symm
          · rcases List.mem_cons.mp m with m | m
            · exact e2 m
            · exact ring 2 (by omega) m
        · rcases List.mem_cons.mp m with m | m
          · exact e1 m
          · exact ring 1 (by omega) m
      have := nodup_bd 6 _ nd2 fun w hw => by
        rcases List.mem_cons.mp hw with rfl | hw
        · exact ⟨b2.1, by omega⟩
        · rcases List.mem_cons.mp hw with rfl | hw
          · exact ⟨b1.1, by omega⟩
          · rcases List.mem_cons.mp hw with rfl | hw
            · exact ⟨zb.1, Int.le_trans zb.2 h6⟩
            · obtain ⟨i, hi, rfl⟩ := List.mem_map.mp hw
              have := it_in ef hl i cb.1 cb.2
              exact ⟨this.1, by omega⟩
      simp at this
  · refine ⟨6, by decide, by decide, fun y y1 y2 => ?_⟩
    obtain ⟨z, hz⟩ : ∃ z, itE e 6 y = z := ⟨_, rfl⟩
    have h12 : itE e 12 z = z := by
      have := hall y y1 y2
      rw [show 18 = 12 + 6 by rfl, it_add, hz] at this
      exact this
    obtain ⟨d, d0, d6, hd⟩ := cyc y y1 y2
    rw [Nat.add_comm, it_add, hz] at hd
    rw [it_add, hz]
    have : d = 1 ∨ d = 2 ∨ d = 3 ∨ d = 4 ∨ d = 5 ∨ d = 6 := by omega
    rcases this with rfl | rfl | rfl | rfl | rfl | rfl
    · exact it_fixR hd 6
    · exact it_fixR hd 3
    · exact it_fixR hd 2
    · by_cases e2 : itE e 2 z = z
      · exact it_fixR e2 3
      · exact absurd ⟨y, y1, y2, by rw [hz]; exact hd, by rw [hz]; exact e2⟩ four
    · have h24 := it_fixR h12 2
      have h25 := it_fixR hd 5
      rw [show 5 * 5 = 1 + 2 * 12 by rfl, it_add, h24] at h25
      exact it_fixR h25 6
    · exact hd
theorem it_all {e : Int × List Int} (hl : e.1 = e.2.length) {T P : Nat} (h : ∀ x, 1 ≤ x → x ≤ e.1 → itE e (T + P) x = itE e T x) {t : Nat} (ht : T ≤ t) {x : Int} (hx : 1 ≤ x) : itE e (t + P) x = itE e t x := by
  obtain ⟨m, rfl⟩ : ∃ m, t = T + m := ⟨t - T, by omega⟩
  by_cases c : x ≤ e.1
  · exact it_per (h x hx c) m
  · rw [it_rest hl (by omega), it_rest hl (by omega)]
theorem CA.back {e : Int × List Int} {i p : Nat} (h : CA e i p) : ∀ x, 1 ≤ x → x ≤ e.1 → itE e (i + p) x = itE e i x := fun x h1 h2 =>
  List.map_inj_left.mp h.eq x (mem_rg.mpr ⟨h1, by omega⟩)
theorem pile_eq {d : Int} {l1 l2 : List Int} (h : ∀ r, 1 ≤ r → fromE (d, l1) r = fromE (d, l2) r) : l1 = l2 := by
  have e1 : l1.length = l2.length := by
    have := h (l1.length + l2.length + 1) (by omega)
    unfold fromE at this
    dsimp only at this
    rw [if_neg (by omega), if_neg (by omega)] at this
    omega
  refine List.ext_getElem e1 fun i h1 h2 => ?_
  have := h (i + 1) (by omega)
  unfold fromE at this
  dsimp only at this
  rw [if_pos (by omega), if_pos (by omega), show ((i : Int) + 1 - 1).toNat = i by omega, List.getD_eq_getElem?_getD, List.getD_eq_getElem?_getD, List.getElem?_eq_getElem h1, List.getElem?_eq_getElem h2] at this
  exact this
/-- the pile behind a course -/
def endL (a b c : Int × List Int) (d : Int) (k : Nat) : List Int := doE c (doN b k (doE a (rg 1 (d + 1))))
theorem doN_ge {b : Int × List Int} (b0 : 0 ≤ b.1) {hp : List Int} {K : Nat} {m : Int} (hm : b.1 ≤ m) (h : ∀ k : Nat, k ≤ K → m ≤ hp.length + k * (b.2.length - b.1)) : ∀ k : Nat, k ≤ K → (∀ j : Nat, j < k → b.1 ≤ (doN b j hp).length) ∧ m ≤ (doN b k hp).length
  | 0, _ => ⟨fun j hj => absurd hj (by omega), by
    have := h 0 (by omega)
    show m ≤ (hp.length : Int)
    simpa using this⟩
  | k + 1, hk => by
    obtain ⟨i1, i2⟩ := doN_ge b0 hm h k (by omega)
    have i3 : ∀ j : Nat, j < k + 1 → b.1 ≤ (doN b j hp).length := fun j hj => by
      by_cases c : j < k
      · exact i1 j c
      · rw [show j = k by omega]
        omega
    exact ⟨i3, by rw [doN_len b0 hp (k + 1) i3]; exact h (k + 1) hk⟩
theorem end_okE {a b c : Int × List Int} (ha : Eff a) (hb : Eff b) (hc : Eff c) {d : Int} {k : Nat} (h1 : a.1 ≤ d) (h2 : ∀ j : Nat, j < k → b.1 ≤ (doN b j (doE a (rg 1 (d + 1)))).length) (h3 : c.1 ≤ (doN b k (doE a (rg 1 (d + 1)))).length) : Eff (d, endL a b c d k) ∧ ∀ r, 1 ≤ r → fromE (d, endL a b c d k) r = crsE a b c k r := by
  have a0 := ha.nn
  have lr := rg_length 1 (d + 1)
  obtain ⟨q1, q2⟩ := doN_eff ha (rg_effE (d := d) (by omega)) 1 fun j hj => by
    obtain rfl : j = 0 := by omega
    show a.1 ≤ ((rg 1 (d + 1)).length : Int)
    omega
  obtain ⟨q3, q4⟩ := doN_eff hb q1 k h2
  obtain ⟨q5, q6⟩ := doN_eff hc q3 1 fun j hj => by
    obtain rfl : j = 0 := by omega
    exact h3
  refine ⟨q5, fun r hr => ?_⟩
  have g := from_ge hc hr
  have g2 := it_ge hb k g
  refine (q6 r hr).trans ?_
  show fromE _ (fromE c r) = _
  rw [q4 _ g, q2 _ g2]
  show fromE _ (fromE a (itE b k (fromE c r))) = _
  exact from_id (by omega) (from_ge ha g2)
theorem end_ok {a b c : Int × List Int} (ha : Eff a) (hb : Eff b) (hc : Eff c) {d : Int} {k : Nat} (h1 : a.1 ≤ d) (h2 : ∀ j : Nat, j < k → b.1 ≤ (doN b j (doE a (rg 1 (d + 1)))).length) (h3 : c.1 ≤ (doN b k (doE a (rg 1 (d + 1)))).length) : ∀ r, 1 ≤ r → fromE (d, endL a b c d k) r = crsE a b c k r := (end_okE ha hb hc h1 h2 h3).2
/-- how deep the pile is -/
def endD (b : Int × List Int) (many : Int) : Int := 20 + many * max 0 (b.1 - b.2.length)
structure Few (a b c : Int × List Int) : Prop where
  ea : Eff a
  eb : Eff b
  ec : Eff c
  na : a.1 ≤ 6
  nb : b.1 ≤ 6
  nc : c.1 ≤ 6
  la : a.2.length ≤ 20
  lb : b.2.length ≤ 20
  lc : c.2.length ≤ 20
theorem Few.deepG {a b c : Int × List Int} (h : Few a b c) {many d : Int} (m0 : 0 ≤ many) (dd : 20 + many * max 0 (b.1 - b.2.length) ≤ d) : ∀ k : Nat, (k : Int) ≤ many → (∀ j : Nat, j < k → b.1 ≤ (doN b j (doE a (rg 1 (d + 1)))).length) ∧ 14 ≤ ((doN b k (doE a (rg 1 (d + 1)))).length : Int) := fun k hk => by
  have lr := rg_length 1 (d + 1)
  have mm : (0 : Int) ≤ many * max 0 (b.1 - b.2.length) := Int.mul_nonneg m0 (by omega)
  have a0 := h.ea.nn
  have h1 := h.na
  have l1 : ((doE a (rg 1 (d + 1))).length : Int) = d + (a.2.length - a.1) := by
    have := doN_len a0 (rg 1 (d + 1)) 1 fun j hj => by
      obtain rfl : j = 0 := by omega
      show a.1 ≤ ((rg 1 (d + 1)).length : Int)
      omega
    change ((doE a (rg 1 (d + 1))).length : Int) = _ at this
    omega
  refine doN_ge h.eb.nn (m := 14) (by have := h.nb; omega) (K := many.toNat) (fun k hk => ?_) k (by omega)
  rw [l1]
  by_cases c : b.1 ≤ b.2.length
  · have : (0 : Int) ≤ k * (b.2.length - b.1) := Int.mul_nonneg (by omega) (by omega)
    omega
  · rw [show max 0 (b.1 - (b.2.length : Int)) = b.1 - b.2.length by omega] at dd mm
    have h2 : (k : Int) * (b.1 - b.2.length) ≤ many * (b.1 - b.2.length) := Int.mul_le_mul_of_nonneg_right (by omega) (by omega)
    have h3 : (k : Int) * (b.2.length - b.1) = - ((k : Int) * (b.1 - b.2.length)) := by
      rw [← Int.mul_neg]
      congr 1
      omega
    omega
theorem Few.deep {a b c : Int × List Int} (h : Few a b c) {many : Int} (m0 : 0 ≤ many) : ∀ k : Nat, (k : Int) ≤ many → (∀ j : Nat, j < k → b.1 ≤ (doN b j (doE a (rg 1 (endD b many + 1)))).length) ∧ 14 ≤ ((doN b k (doE a (rg 1 (endD b many + 1)))).length : Int) := h.deepG m0 (Int.le_refl _)
theorem Few.end {a b c : Int × List Int} (h : Few a b c) {many : Int} (m0 : 0 ≤ many) {k : Nat} (hk : (k : Int) ≤ many) : ∀ r, 1 ≤ r → fromE (endD b many, endL a b c (endD b many) k) r = crsE a b c k r := by
  obtain ⟨d1, d2⟩ := h.deep m0 k hk
  have mm : (0 : Int) ≤ many * max 0 (b.1 - b.2.length) := Int.mul_nonneg m0 (by omega)
  refine end_ok h.ea h.eb h.ec ?_ d1 (by have := h.nc; omega)
  have := h.na
  unfold endD
  omega
theorem Few.eq {a b c : Int × List Int} (h : Few a b c) {many : Int} (m0 : 0 ≤ many) {k j : Nat} (hk : (k : Int) ≤ many) (hj : (j : Int) ≤ many) : endL a b c (endD b many) k = endL a b c (endD b many) j ↔ crE a b c k = crE a b c j := by
  constructor
  · intro e
    refine crE_ext h.ea h.eb h.ec h.ea h.eb h.ec fun r hr => ?_
    rw [← h.end m0 hk r hr, ← h.end m0 hj r hr, e]
  · intro e
    refine pile_eq (d := endD b many) fun r hr => ?_
    rw [h.end m0 hk r hr, h.end m0 hj r hr, ← crE_from h.eb h.ec k hr, ← crE_from h.eb h.ec j hr, e]
theorem Few.least {a b c : Int × List Int} (h : Few a b c) : Few (leastE a.1 a.2) (leastE b.1 b.2) (leastE c.1 c.2) := by
  have ka := leastE_ok (n := a.1) (gs := a.2) h.ea
  have kb := leastE_ok (n := b.1) (gs := b.2) h.eb
  have kc := leastE_ok (n := c.1) (gs := c.2) h.ec
  have := ka.le
  have := ka.len
  have := kb.le
  have := kb.len
  have := kc.le
  have := kc.len
  obtain ⟨_, _, _, h1, h2, h3, h4, h5, h6⟩ := h
  exact ⟨ka.eff, kb.eff, kc.eff, by omega, by omega, by omega, by omega, by omega, by omega⟩
theorem crE_fun {a b c : Int × List Int} (ha : Eff a) (hb : Eff b) (hc : Eff c) : crE (leastE a.1 a.2) (leastE b.1 b.2) (leastE c.1 c.2) = crE a b c := funext fun k => crE_least ha hb hc k
/-- the first number at which the same is found -/
def fsI (E : Nat → Int × List Int) (n : Nat) : Nat := (List.range (n + 1)).findIdx fun j => decide (E j = E n)
theorem fsI_ok (E : Nat → Int × List Int) (n : Nat) : fsI E n ≤ n ∧ E (fsI E n) = E n ∧ ∀ j, j < fsI E n → E j ≠ E n := by
  have h1 : fsI E n < (List.range (n + 1)).length := List.findIdx_lt_length_of_exists ⟨n, List.mem_range.mpr (by omega), by simp⟩
  have h2 := h1
  rw [List.length_range] at h2
  refine ⟨by omega, ?_, fun j hj => ?_⟩
  · have := List.findIdx_getElem (w := h1)
    have e1 : ∀ (i : Nat) (hi : i < (List.range (n + 1)).length), (List.range (n + 1))[i] = i := fun i hi => List.getElem_range hi
    have e2 := e1 _ h1
    have e3 := of_decide_eq_true this
    exact (congrArg E e2).symm.trans e3
  · have := List.not_of_lt_findIdx hj
    simpa using this
theorem fsI_eq {E : Nat → Int × List Int} {n m : Nat} : fsI E n = fsI E m ↔ E n = E m := by
  have a := fsI_ok E n
  have b := fsI_ok E m
  constructor
  · intro h
    rw [← a.2.1, h, b.2.1]
  · intro h
    rcases Nat.lt_trichotomy (fsI E n) (fsI E m) with c | c | c
    · exact absurd (a.2.1.trans h) (b.2.2 _ c)
    · exact c
    · exact absurd (b.2.1.trans h.symm) (a.2.2 _ c)
def fsV (E : Nat → Int × List Int) (n : Nat) : Int := (fsI E n : Nat)
theorem fsV_eq {E : Nat → Int × List Int} {n m : Nat} : fsV E n = fsV E m ↔ E n = E m := by
  rw [← fsI_eq]
  unfold fsV
  omega
theorem tell_few {v : Nat → Int} {h L : Nat} {g : Int} (t : Tell v h L g) {P : Nat} (p1 : 1 ≤ P) (k : Per v 6 P 0) : g = 0 ∧ L ≤ P ∧ h ≤ 6 ∧ Per v h L 0 := by
  obtain ⟨t1, t2, t3, t4⟩ := t
  have q1 := t2.mul P
  have q2 := k.mul L
  rw [Nat.mul_comm L P] at q2
  have q3 := q1.val q2
  have g0 : g = 0 := by
    rw [Int.mul_zero] at q3
    rcases Int.mul_eq_zero.mp q3 with z | z
    · omega
    · exact z
  subst g0
  refine ⟨rfl, t3 P 6 0 p1 k, ?_, t2⟩
  apply Classical.byContradiction
  intro no
  have := k.back p1 t2 (h - 1) (by omega)
  exact t4 (by omega) this
/-- a course whose middle keeps the size comes round -/
theorem crs_per {a b c : Int × List Int} (ha : Eff a) (hb : Eff b) (hc : Eff c) (hl : b.1 = b.2.length) {T P : Nat} (h : ∀ x, 1 ≤ x → x ≤ b.1 → itE b (T + P) x = itE b T x) : Per (fsV (crE a b c)) T P 0 := fun i hi => by
  rw [Int.add_zero]
  refine fsV_eq.mpr (crE_ext ha hb hc ha hb hc fun r hr => ?_)
  unfold crsE
  rw [it_all hl h hi (from_ge hc hr)]
theorem lay_crs (E : Nat → Int × List Int) : ∀ l : List Nat, PyData.canLayAll0 (l.map fun k => dE (E k)) = true
  | [] => rfl
  | k :: l => by
    rw [List.map_cons, PyData.canLayAll0, lay_crs E l, SeqAt.canLay_of_shaped (shaped_dE (E k))]
    rfl
theorem shaped_pairs {ps : List (List Str × List Str)} (h : ∀ p ∈ ps, p.1.length ≤ 1000 ∧ (∀ s ∈ p.1, PyData.strOk s = true) ∧ ∀ s ∈ p.2, PyData.strOk s = true) : SeqAt.shaped (.list (ps.map pairD)) = true := by
  have key : ∀ qs : List (List Str × List Str), (∀ p ∈ qs, p ∈ ps) → PyData.canLayAll0 (qs.map pairD) = true ∧ PyData.depthAll (qs.map pairD) ≤ 2 := fun qs => by
    induction qs with
    | nil => intro _; simp [PyData.canLayAll0, PyData.depthAll]
    | cons x qs ih =>
      intro hq
      obtain ⟨i1, i2⟩ := ih fun p m => hq p (List.mem_cons_of_mem _ m)
      obtain ⟨_, a1, a2⟩ := h x (hq x List.mem_cons_self)
      have d0 : ∀ ss : List Str, PyData.depthAll (ss.map PyData.str) = 0 := fun ss => by
        induction ss with
        | nil => rfl
        | cons s ss ih => simp [PyData.depthAll, PyData.depth, ih]
      refine ⟨?_, ?_⟩
      · simp only [List.map_cons, PyData.canLayAll0, i1, pairD, PyData.canLay0, lay_strs x.1 a1, lay_strs x.2 a2, Bool.and_self]
      · simp only [List.map_cons, PyData.depthAll, pairD, PyData.depth, d0]
        omega
  obtain ⟨k1, k2⟩ := key ps fun _ h => h
  unfold SeqAt.shaped
  simp [PyData.canLay0, PyData.depth, k1]
  omega
abbrev wayD (xs ys : List Int) : D := .tuple [dI xs, dI ys, .int 0]
def doX (e : Int × List Int) (xs : List D) : List D := e.2.filterMap (fun r => xs[(r - 1).toNat]?) ++ xs.drop e.1.toNat
theorem doX_strs {e : Int × List Int} {ss : List Str} : doX e (ss.map PyData.str) = (doS e ss).map PyData.str := by
  unfold doX doS
  rw [List.map_append, List.map_drop, List.map_filterMap]
  congr 2
  funext r
  rw [List.getElem?_map]
theorem fm_ints {n : Int} {is : List Int} (hn : n ≤ is.length) : ∀ {gs : List Int}, (∀ r ∈ gs, 1 ≤ r ∧ r ≤ n) → gs.filterMap (fun r => (is.map PyData.int)[(r - 1).toNat]?) = (gs.map fun r => is.getD (r - 1).toNat 0).map PyData.int
  | [], _ => rfl
  | r :: gs, h => by
    have hr := h r List.mem_cons_self
    have e1 : (is.map PyData.int)[(r - 1).toNat]? = some (.int (is.getD (r - 1).toNat 0)) := by
      rw [List.getElem?_map, List.getD_eq_getElem?_getD, List.getElem?_eq_getElem (by omega)]
      rfl
    rw [List.filterMap_cons, e1, fm_ints hn fun x m => h x (List.mem_cons_of_mem _ m)]
    rfl
theorem doX_ints {e : Int × List Int} {is : List Int} (ef : Eff e) (hn : e.1 ≤ is.length) : doX e (is.map PyData.int) = (doE e is).map PyData.int := by
  unfold doX doE
  rw [fm_ints hn fun r m => ⟨ef.ge r m, ef.le r m⟩, List.map_append, List.map_drop]
theorem fm_len {n : Int} {ss : List Str} (hn : n ≤ ss.length) : ∀ {gs : List Int}, (∀ r ∈ gs, 1 ≤ r ∧ r ≤ n) → (gs.filterMap (fun r => ss[(r - 1).toNat]?)).length = gs.length
  | [], _ => rfl
  | r :: gs, h => by
    have hr := h r List.mem_cons_self
    have e1 : ss[(r - 1).toNat]? = some (ss[(r - 1).toNat]'(by omega)) := List.getElem?_eq_getElem (by omega)
    rw [List.filterMap_cons, e1]
    show (_ :: _).length = _
    rw [List.length_cons, List.length_cons, fm_len hn fun x m => h x (List.mem_cons_of_mem _ m)]
theorem doS_lenE {e : Int × List Int} {ss : List Str} (ef : Eff e) (hn : e.1 ≤ ss.length) : ((doS e ss).length : Int) = e.2.length + ss.length - e.1 := by
  have n0 := ef.nn
  unfold doS
  rw [List.length_append, fm_len hn fun r m => ⟨ef.ge r m, ef.le r m⟩, List.length_drop]
  omega
/-- by how much a course grows -/
theorem from_far2 {e : Int × List Int} {r : Int} (h : (e.2.length : Int) < r) : fromE e r = r + (e.1 - e.2.length) := by
  unfold fromE
  rw [if_neg (by omega)]
  omega
theorem it_far2 {e : Int × List Int} (h0 : 0 ≤ e.1) : ∀ (k : Nat) {r : Int}, (k + 1) * (e.2.length : Int) < r → itE e k r = r + k * (e.1 - e.2.length)
  | 0, r, _ => by simp [itE]
  | k + 1, r, h => by
    have l0 : (0 : Int) ≤ (k : Int) * e.2.length := Int.mul_nonneg (by omega) (by omega)
    have e1 : (((k + 1 : Nat) : Int) + 1) * (e.2.length : Int) = (k + 1) * (e.2.length : Int) + e.2.length := by
      rw [Int.add_mul, Int.one_mul, Int.natCast_add]
      rfl
    rw [e1] at h
    have e2 : ((k : Int) + 1) * (e.2.length : Int) = k * e.2.length + e.2.length := by rw [Int.add_mul, Int.one_mul]
    show itE e k (fromE e r) = _
    rw [from_far2 (by omega), it_far2 h0 k (by omega), Int.natCast_add, Int.add_mul]
    omega
theorem crE_chg {a b c : Int × List Int} (ha : Eff a) (hb : Eff b) (hc : Eff c) (k : Nat) : ((crE a b c k).2.length : Int) - (crE a b c k).1 = (a.2.length - a.1) + k * ((b.2.length : Int) - b.1) + (c.2.length - c.1) := by
  have b0 := hb.nn
  have a0 := ha.nn
  have c0 := hc.nn
  have kb : (0 : Int) ≤ (k + 1) * (b.2.length : Int) := Int.mul_nonneg (by omega) (by omega)
  have k2 : (0 : Int) ≤ k * b.1 := Int.mul_nonneg (by omega) (by omega)
  have k3 : (0 : Int) ≤ k * (b.2.length : Int) := Int.mul_nonneg (by omega) (by omega)
  obtain ⟨r, hr⟩ : ∃ r : Int, r = (crE a b c k).2.length + c.2.length + (k + 1) * (b.2.length : Int) + a.2.length + k * (b.2.length : Int) + 1 := ⟨_, rfl⟩
  have h1 := crE_from (a := a) hb hc k (r := r) (by omega)
  rw [from_far2 (by omega)] at h1
  unfold crsE at h1
  have e3 : (k : Int) * (b.1 - b.2.length) = k * b.1 - k * b.2.length := Int.mul_sub _ _ _
  have e4 : (k : Int) * ((b.2.length : Int) - b.1) = k * b.2.length - k * b.1 := Int.mul_sub _ _ _
  rw [from_far2 (e := c) (by omega), it_far2 b0 k (by omega), from_far2 (by omega)] at h1
  omega
theorem fit_chg {a b c : Int × List Int} (ha : Eff a) (hb : Eff b) (hc : Eff c) {k : Nat} {p : List Str × List Str} (h : fitP (crE a b c k) p = true) : (p.2.length : Int) - p.1.length = (a.2.length - a.1) + k * ((b.2.length : Int) - b.1) + (c.2.length - c.1) := by
  unfold fitP at h
  rw [Bool.and_eq_true] at h
  have h1 := of_decide_eq_true h.1
  have h2 := of_decide_eq_true h.2
  have := doS_lenE (crE_eff ha hb hc k) h1
  have := crE_chg ha hb hc k
  rw [h2] at *
  omega
/-- the pile tells the course -/
theorem course_pile {a b c : Int × List Int} (ha : Eff a) (hb : Eff b) (hc : Eff c) {k : Nat} {d : Int} (hd : d = a.1 + b.1 + c.1 + k * max 0 (b.1 - b.2.length)) : a.1 ≤ d ∧ ((doE a (rg 1 (d + 1))).length : Int) = d + (a.2.length - a.1) ∧ (∀ j : Nat, j ≤ k → ((doN b j (doE a (rg 1 (d + 1)))).length : Int) = d + (a.2.length - a.1) + j * (b.2.length - b.1)) ∧ (∀ j : Nat, j < k → b.1 ≤ (doN b j (doE a (rg 1 (d + 1)))).length) ∧ c.1 ≤ (doN b k (doE a (rg 1 (d + 1)))).length ∧ Eff (d, endL a b c d k) ∧ leastE d (endL a b c d k) = crE a b c k := by
  have a0 := ha.nn
  have b0 := hb.nn
  have c0 := hc.nn
  have mm : (0 : Int) ≤ k * max 0 (b.1 - b.2.length) := Int.mul_nonneg (by omega) (by omega)
  have lr := rg_length 1 (d + 1)
  have l1 : ((doE a (rg 1 (d + 1))).length : Int) = d + (a.2.length - a.1) := by
    have := doN_len a0 (rg 1 (d + 1)) 1 fun j hj => by
      obtain rfl : j = 0 := by omega
      show a.1 ≤ ((rg 1 (d + 1)).length : Int)
      omega
    change ((doE a (rg 1 (d + 1))).length : Int) = _ at this
    omega
  have key := doN_ge b0 (hp := doE a (rg 1 (d + 1))) (K := k) (m := b.1 + c.1) (by omega) fun j hj => by
    rw [l1]
    by_cases cc : b.1 ≤ b.2.length
    · have : (0 : Int) ≤ j * (b.2.length - b.1) := Int.mul_nonneg (by omega) (by omega)
      omega
    · rw [show max 0 (b.1 - (b.2.length : Int)) = b.1 - b.2.length by omega] at hd mm
      have h2 : (j : Int) * (b.1 - b.2.length) ≤ k * (b.1 - b.2.length) := Int.mul_le_mul_of_nonneg_right (by omega) (by omega)
      have h3 : (j : Int) * (b.2.length - b.1) = - ((j : Int) * (b.1 - b.2.length)) := by
        rw [← Int.mul_neg]
        congr 1
        omega
      omega
  obtain ⟨k1, k2⟩ := key k (Nat.le_refl _)
  obtain ⟨q1, q2⟩ := end_okE ha hb hc (by omega) k1 (by omega)
  refine ⟨by omega, l1, fun j hj => ?_, k1, by omega, q1, ?_⟩
  · rw [doN_len b0 _ j fun i hi => k1 i (by omega), l1]
  · refine canon (leastE_ok q1).eff (crE_eff ha hb hc k) (leastE_ok q1).lst (crE_lst k) fun r hr => ?_
    rw [from_least hr, q2 r hr, crE_from hb hc k hr]
theorem rep_iff {u : Nat → Int} {s : Nat} : ∀ (q : Nat) {w : Nat → Int}, (List.replicate q ((List.range s).map u)).flatten = (List.range (q * s)).map w ↔ ∀ j : Nat, j < q → ∀ i : Nat, i < s → w (j * s + i) = u i
  | 0, w => by simp
  | q + 1, w => by
    have e1 : (List.range ((q + 1) * s)).map w = (List.range s).map w ++ (List.range (q * s)).map fun i => w (s + i) := by
      rw [Nat.succ_mul, Nat.add_comm, List.range_add, List.map_append, List.map_map]
      rfl
    rw [List.replicate_succ, List.flatten_cons, e1]
    constructor
    · intro h
      obtain ⟨h1, h2⟩ := List.append_inj h (by simp)
      have h2 := (rep_iff q (w := fun i => w (s + i))).mp h2
      intro j hj i hi
      cases j with
      | zero =>
        rw [Nat.zero_mul, Nat.zero_add]
        have := congrArg (fun l => l[i]?) h1
        try dsimp only at this
        rw [List.getElem?_map, List.getElem?_map, List.getElem?_range hi] at this
        exact (Option.some.inj this).symm
      | succ j =>
        have := h2 j (by omega) i hi
        rw [← this]
        congr 1
        rw [Nat.succ_mul]
        omega
    · intro h
      congr 1
      · refine List.map_congr_left fun i hi => ?_
        have := h 0 (by omega) i (List.mem_range.mp hi)
        rw [Nat.zero_mul, Nat.zero_add] at this
        exact this.symm
      · refine (rep_iff q (w := fun i => w (s + i))).mpr fun j hj i hi => ?_
        have := h (j + 1) (by omega) i hi
        rw [← this]
        congr 1
        rw [Nat.succ_mul]
        omega
theorem per_zero {v : Nat → Int} {T P d : Nat} {c : Int} (h : Per v T P 0) (hP : 1 ≤ P) (hd : d ∣ P) (k : Per v T d c) : c = 0 := by
  obtain ⟨q, rfl⟩ := hd
  have k2 := k.mul q
  rw [Nat.mul_comm q d] at k2
  have := k2.val h
  rcases Int.mul_eq_zero.mp this with z | z
  · have : q = 0 := by omega
    subst this
    simp at hP
  · exact z
theorem rep_ring {v : Nat → Int} {T P s : Nat} (h : Per v T P 0) (hP : 1 ≤ P) (hs : 1 ≤ s) : (List.replicate (P / s) ((List.range s).map fun j => v (T + j))).flatten = (List.range P).map (fun j => v (T + j)) ↔ s ∣ P ∧ Per v T s 0 := by
  constructor
  · intro e
    have len : P / s * s = P := by
      have := congrArg List.length e
      rw [List.length_flatten, List.map_replicate, List.sum_replicate_nat, List.length_map, List.length_map, List.length_range, List.length_range] at this
      exact this
    obtain ⟨q, hq⟩ : ∃ q, P / s = q := ⟨_, rfl⟩
    rw [hq] at len e
    subst len
    have e2 := (rep_iff q (u := fun j => v (T + j)) (w := fun j => v (T + j))).mp e
    refine ⟨⟨q, Nat.mul_comm _ _⟩, h.win hP fun j hj => ?_⟩
    rw [Int.add_zero]
    have dm : j / s * s + j % s = j := Nat.div_add_mod' j s
    have ml := Nat.mod_lt j hs
    have dq : j / s < q := (Nat.div_lt_iff_lt_mul hs).mpr hj
    have a1 := e2 (j / s) dq (j % s) ml
    try dsimp only at a1
    rw [dm] at a1
    by_cases c : j / s + 1 < q
    · have a2 := e2 (j / s + 1) c (j % s) ml
      try dsimp only at a2
      rw [Nat.succ_mul, show j / s * s + s + j % s = j + s by omega] at a2
      rw [Nat.add_assoc, a2, a1]
    · have dq2 : j / s + 1 = q := by omega
      have a3 : q * s = j / s * s + s := by rw [← dq2, Nat.succ_mul]
      have := h (T + j % s) (by omega)
      rw [a1, show T + j + s = T + j % s + q * s by omega, this, Int.add_zero]
  · rintro ⟨⟨q, rfl⟩, k⟩
    rw [Nat.mul_div_cancel_left q hs, Nat.mul_comm]
    refine (rep_iff q).mpr fun j hj i hi => ?_
    have := k.mul j (T + i) (by omega)
    rw [Int.mul_zero, Int.add_zero] at this
    rw [← this]
    congr 1
    omega
/-- what is told -/
def mkV (a b c : Int × List Int) (ps : List (List Str × List Str)) (k : Nat) : Int := if ps.all (fitP (crE a b c k)) = true then 1 else 0
def IsWay (a b c : Int × List Int) (ps : List (List Str × List Str)) (d : D) : Prop :=
  (ps = [] ∧ d = wayD [] [1]) ∨
  (ps ≠ [] ∧ b.1 ≠ b.2.length ∧ ((∃ k : Nat, k < 420 ∧ ps.all (fitP (crE a b c k)) = true ∧ d = wayD (List.replicate k 0 ++ [1]) [0]) ∨ ((∀ k : Nat, ps.all (fitP (crE a b c k)) = false) ∧ d = wayD [] [0]))) ∨
  (ps ≠ [] ∧ b.1 = b.2.length ∧ ∃ (h L : Nat), Tell (mkV a b c ps) h L 0 ∧ h ≤ 20 ∧ L ≤ 20 ∧ d = wayD ((List.range h).map (mkV a b c ps)) ((List.range L).map fun j => mkV a b c ps (h + j)))
theorem fit_one {a b c : Int × List Int} (ha : Eff a) (hb : Eff b) (hc : Eff c) {ps : List (List Str × List Str)} (ne : ps ≠ []) (nb : b.1 ≠ b.2.length) {k j : Nat} (h : ps.all (fitP (crE a b c k)) = true) (h' : ps.all (fitP (crE a b c j)) = true) : k = j := by
  obtain ⟨p, ps, rfl⟩ := List.exists_cons_of_ne_nil ne
  rw [List.all_cons, Bool.and_eq_true] at h h'
  have e1 := fit_chg ha hb hc h.1
  have e2 := fit_chg ha hb hc h'.1
  have e3 : ((k : Int) - j) * ((b.2.length : Int) - b.1) = 0 := by
    rw [Int.sub_mul]
    omega
  rcases Int.mul_eq_zero.mp e3 with z | z
  · omega
  · omega
theorem IsWay.uniq {a b c : Int × List Int} (ha : Eff a) (hb : Eff b) (hc : Eff c) {ps : List (List Str × List Str)} {d d' : D} (x : IsWay a b c ps d) (y : IsWay a b c ps d') : d = d' := by
  rcases x with ⟨x1, rfl⟩ | ⟨x1, x2, x3⟩ | ⟨x1, x2, h, L, t, _, _, rfl⟩
  · rcases y with ⟨_, rfl⟩ | ⟨y1, _⟩ | ⟨y1, _⟩
    · rfl
    · exact absurd x1 y1
    · exact absurd x1 y1
  · rcases y with ⟨y1, _⟩ | ⟨_, _, y3⟩ | ⟨_, y2, _⟩
    · exact absurd y1 x1
    · rcases x3 with ⟨k, _, f, rfl⟩ | ⟨n, rfl⟩
      · rcases y3 with ⟨j, _, g, rfl⟩ | ⟨m, rfl⟩
        · rw [fit_one ha hb hc x1 x2 f g]
        · rw [m k] at f
          exact nomatch f
      · rcases y3 with ⟨j, _, g, rfl⟩ | ⟨m, rfl⟩
        · rw [n j] at g
          exact nomatch g
        · rfl
    · exact absurd y2 x2
  · rcases y with ⟨y1, _⟩ | ⟨_, y2, _⟩ | ⟨_, _, h', L', t', _, _, rfl⟩
    · exact absurd y1 x1
    · exact absurd x2 y2
    · obtain ⟨rfl, rfl, _⟩ := t.uniq t'
      rfl
abbrev pwE (b : Int × List Int) (k : Nat) : Int × List Int := crE (0, []) b (0, []) k
def NoRound (b : Int × List Int) : Prop := ∀ j k : Nat, j < k → k < 14 → pwE b k ≠ pwE b j
theorem pw_it {b : Int × List Int} (hb : Eff b) (k : Nat) {r : Int} (hr : 1 ≤ r) : fromE (pwE b k) r = itE b k r := by
  rw [crE_from hb eff0 k hr]
  unfold crsE
  rw [from0 hr, from0 (it_ge hb k hr)]
theorem mk_per {a b c : Int × List Int} {ps : List (List Str × List Str)} {T P : Nat} (h : Per (fsV (crE a b c)) T P 0) : Per (mkV a b c ps) T P 0 := fun i hi => by
  have := h i hi
  rw [Int.add_zero] at this
  have e := fsV_eq.mp this
  unfold mkV
  rw [e, Int.add_zero]
theorem pw_per {a b c : Int × List Int} (ha : Eff a) (hb : Eff b) (hc : Eff c) (hl : b.1 = b.2.length) {ps : List (List Str × List Str)} {T N : Nat} (h : T < N) (e : pwE b N = pwE b T) : Per (mkV a b c ps) T (N - T) 0 := by
  refine mk_per (crs_per ha hb hc hl fun x x1 _ => ?_)
  rw [show T + (N - T) = N by omega, ← pw_it hb N x1, ← pw_it hb T x1, e]
/-- how far the rounds of a course go -/
theorem fs_few {a b c : Int × List Int} (f : Few a b c) (hl : b.1 = b.2.length) {h L : Nat} {g : Int} (t : Tell (fsV (crE a b c)) h L g) : 1 ≤ L ∧ L ≤ 6 ∧ h ≤ 6 ∧ ∀ ps, Per (mkV a b c ps) h L 0 := by
  obtain ⟨P, p1, p6, hP⟩ := again6 f.eb hl f.nb
  obtain ⟨rfl, l1, h6, hp⟩ := tell_few t p1 (crs_per f.ea f.eb f.ec hl hP)
  exact ⟨t.1, by omega, h6, fun ps => mk_per hp⟩
theorem nolist_str {ss : List Str} {y : D} (h : y ∈ ss.map PyData.str) : nolist y = true := by
  obtain ⟨s, _, rfl⟩ := List.mem_map.mp h
  rfl
theorem nolist_int {is : List Int} {y : D} (h : y ∈ is.map PyData.int) : nolist y = true := by
  obtain ⟨s, _, rfl⟩ := List.mem_map.mp h
  rfl
theorem ring_back2 {v : Nat → Int} {k s : Nat} (hs : 1 ≤ s) : v k :: ((List.range s).map fun j => v (k + 1 + j)).dropLast = (List.range s).map fun j => v (k + j) := by
  obtain ⟨t, rfl⟩ : ∃ t, s = t + 1 := ⟨s - 1, by omega⟩
  rw [List.range_succ, List.map_append, List.map_singleton, List.dropLast_concat, ← List.range_succ, List.range_succ_eq_map, List.map_cons, List.map_map]
  congr 1
  refine List.map_congr_left fun j _ => ?_
  show v (k + 1 + j) = v (k + (j + 1))
  congr 1
  omega
theorem range_drop {v : Nat → Int} {k : Nat} : ((List.range (k + 1)).map v).dropLast = (List.range k).map v := by
  rw [List.range_succ, List.map_append, List.map_singleton, List.dropLast_concat]
def OkPs (ps : List (List Str × List Str)) : Prop := ps.length ≤ 1000 ∧ ∀ p ∈ ps, (p.1.length ≤ 1000 ∧ (∀ s ∈ p.1, PyData.strOk s = true) ∧ ∀ s ∈ p.2, PyData.strOk s = true) ∧ p.2.length ≤ 1000 ∧ -360 ≤ (p.2.length : Int) - p.1.length ∧ (p.2.length : Int) - p.1.length ≤ 360
theorem rep_zero : ∀ k : Nat, (List.replicate k [(0 : Int)]).flatten = List.replicate k 0
  | 0 => rfl
  | k + 1 => by rw [List.replicate_succ, List.flatten_cons, rep_zero k]; rfl
/-- how great the number can be -/
theorem num_bd {x y z g : Int} {k : Nat} (g0 : g ≠ 0) (x0 : -360 ≤ x) (x1 : x ≤ 360) (y0 : -20 ≤ y) (y1 : y ≤ 20) (z0 : -20 ≤ z) (z1 : z ≤ 20) (e : x = y + k * g + z) : k * g ≤ 400 ∧ k * -g ≤ 400 ∧ k ≤ 400 := by
  have h1 : (k : Int) * -g = -(k * g) := Int.mul_neg _ _
  refine ⟨by omega, by omega, ?_⟩
  by_cases c : 0 < g
  · have : (k : Int) * 1 ≤ k * g := Int.mul_le_mul_of_nonneg_left (by omega) (by omega)
    omega
  · have : (k : Int) * 1 ≤ k * -g := Int.mul_le_mul_of_nonneg_left (by omega) (by omega)
    omega
theorem least_chg {e : Int × List Int} (h : Eff e) : ((leastE e.1 e.2).2.length : Int) - (leastE e.1 e.2).1 = e.2.length - e.1 := by
  have k := leastE_ok (n := e.1) (gs := e.2) h
  obtain ⟨r, hr⟩ : ∃ r : Int, r = e.2.length + (leastE e.1 e.2).2.length + 1 := ⟨_, rfl⟩
  have h1 := from_least (n := e.1) (gs := e.2) (r := r) (by omega)
  rw [from_far2 (by omega), show ((e.1, e.2) : Int × List Int) = e from rfl, from_far2 (e := e) (by omega)] at h1
  omega
theorem rm_drop {v : Nat → Int} {T P : Nat} : ((List.range (T + P)).map v).drop T = (List.range P).map fun j => v (T + j) := by
  rw [List.range_add, List.map_append, List.drop_append_of_le_length (by simp), List.drop_of_length_le (by simp), List.nil_append, List.map_map]
  rfl
theorem crE_small {a b c : Int × List Int} (ha : Eff a) (hb : Eff b) (hc : Eff c) {k : Nat} {n m : Int} (h1 : k * (b.1 - (b.2.length : Int)) ≤ n) (h2 : k * ((b.2.length : Int) - b.1) ≤ n) (hm : a.1 + b.1 + c.1 ≤ m) (l1 : (a.2.length : Int) - a.1 ≤ 20) (l2 : (c.2.length : Int) - c.1 ≤ 20) : (crE a b c k).1 ≤ m + n ∧ ((crE a b c k).2.length : Int) ≤ m + n + 40 := by
  obtain ⟨d, hd⟩ : ∃ d : Int, d = a.1 + b.1 + c.1 + k * max 0 (b.1 - b.2.length) := ⟨_, rfl⟩
  obtain ⟨_, _, _, _, _, p6, p7⟩ := course_pile ha hb hc hd
  have e1 : (k : Int) * ((b.2.length : Int) - b.1) = -(k * (b.1 - (b.2.length : Int))) := by
    rw [← Int.mul_neg]
    congr 1
    omega
  have lk := (leastE_ok p6).le
  have ch := crE_chg ha hb hc k
  have : leastE d (endL a b c d k) = crE a b c k := p7
  rw [show leastE d (endL a b c d k) = crE a b c k from p7] at lk
  by_cases h : b.1 ≤ b.2.length
  · rw [show max 0 (b.1 - (b.2.length : Int)) = 0 by omega, Int.mul_zero] at hd
    omega
  · rw [show max 0 (b.1 - (b.2.length : Int)) = b.1 - b.2.length by omega] at hd
    have : (0 : Int) ≤ k * (b.1 - (b.2.length : Int)) := Int.mul_nonneg (by omega) (by omega)
    omega
theorem shaped_way (xs ys : List Int) : SeqAt.shaped (wayD xs ys) = true := by
  unfold SeqAt.shaped
  simp [PyData.canLay0, PyData.canLayAll0, PyData.depth, PyData.depthAll, canLay_ints, depth_ints]
theorem nl_way (xs ys : List Int) : nl (wayD xs ys) ≤ 10 := by
  simp only [nl, nls, nls_ints]
  omega
theorem sh_pairs2 {p : List Str × List Str} (h1 : ∀ s ∈ p.1, s ∈ TxS) (h2 : ∀ s ∈ p.2, s ∈ TxS) (l1 : p.1.length ≤ 800) (l2 : p.2.length ≤ 800) : Sh 3 340000 (pairD p) := by
  have k : ∀ ss : List Str, (∀ s ∈ ss, s ∈ TxS) → ss.length ≤ 800 → Sh 2 166000 (dS ss) := fun ss hs hl => (sh_list (k := 1) (B := 205) (n := 800) (fun d hd => by
    obtain ⟨s, ms, rfl⟩ := List.mem_map.mp hd
    exact sh_ts (hs s ms)) (by rw [List.length_map]; exact hl)).mono (by omega) (by omega)
  refine (sh_tuple (k := 2) (B := 166000) (n := 2) (fun d hd => ?_) (by simp)).mono (by omega) (by omega)
  rcases List.mem_cons.mp hd with rfl | hd
  · exact k _ h1 l1
  rcases List.mem_cons.mp hd with rfl | hd
  · exact k _ h2 l2
  · cases hd
theorem IsWay.few {a b c : Int × List Int} {ps : List (List Str × List Str)} {d : D} (w : IsWay a b c ps d) : ∃ xs ys : List Int, d = wayD xs ys ∧ xs.length ≤ 421 ∧ ys.length ≤ 421 ∧ (∀ x ∈ xs, x = 0 ∨ x = 1) ∧ ∀ x ∈ ys, x = 0 ∨ x = 1 := by
  have mk : ∀ k, mkV a b c ps k = 0 ∨ mkV a b c ps k = 1 := fun k => by
    unfold mkV
    split
    · exact .inr rfl
    · exact .inl rfl
  rcases w with ⟨_, rfl⟩ | ⟨_, _, ⟨k, h, _, rfl⟩ | ⟨_, rfl⟩⟩ | ⟨_, _, h, L, _, h1, h2, rfl⟩
  · exact ⟨_, _, rfl, by simp, by simp, by simp, by simp⟩
  · refine ⟨_, _, rfl, by simp; omega, by simp, fun x m => ?_, by simp⟩
    rcases List.mem_append.mp m with m | m
    · exact .inl (List.mem_replicate.mp m).2
    · exact .inr (by simpa using m)
  · exact ⟨_, _, rfl, by simp, by simp, by simp, by simp⟩
  · refine ⟨_, _, rfl, by simp; omega, by simp; omega, fun x m => ?_, fun x m => ?_⟩
    · obtain ⟨k, _, rfl⟩ := List.mem_map.mp m
      exact mk k
    · obtain ⟨k, _, rfl⟩ := List.mem_map.mp m
      exact mk _
theorem IsWay.sh {a b c : Int × List Int} {ps : List (List Str × List Str)} {d : D} (w : IsWay a b c ps d) : Sh 4 400000 d ∧ d.hasDict = false ∧ nl d ≤ 10 ∧ d ≠ .none ∧ ∃ ts, d = .tuple ts := by
  obtain ⟨xs, ys, rfl, h1, h2, h3, h4⟩ := w.few
  have s1 : ∀ zs : List Int, zs.length ≤ 421 → (∀ x ∈ zs, x = 0 ∨ x = 1) → Sh 2 100000 (dI zs) := fun zs hl hz => (sh_ints (n := 421) (fun x m => by
    rcases hz x m with rfl | rfl <;> decide) hl).mono (by omega) (by omega)
  refine ⟨(sh_tuple (k := 2) (B := 100000) (n := 3) (fun d hd => ?_) (by simp)).mono (by omega) (by omega), ?_, ?_, (fun z => nomatch z), _, rfl⟩
  · simp only [List.mem_cons, List.not_mem_nil, or_false] at hd
    rcases hd with rfl | rfl | rfl
    · exact s1 xs h1 h3
    · exact s1 ys h2 h4
    · exact (sh_int (by decide)).mono (by omega) (by omega)
  · exact nd_shaped (shaped_way xs ys)
  · exact nl_way xs ys
theorem range_mid {n x : Nat} {pre post : List Nat} (h : List.range n = pre ++ x :: post) : x = pre.length ∧ x < n := by
  have e : (List.range n)[pre.length]? = some x := by rw [h]; simp
  have hl := congrArg List.length h
  rw [List.length_range, List.length_append, List.length_cons] at hl
  rw [List.getElem?_range (by omega)] at e
  have := Option.some.inj e
  omega
def topS (i : Nat) : Stmt := PySem.Challenge.pw_pileshifts_k41_how_often_a_course_was_do.main.body.getD i (.Pass ⟨0, 0, 0, 0⟩)
abbrev s_is_effect : Stmt := topS 4
abbrev N_is_effect : List Str := ["one", "needs", "gives", "spot"]
theorem sc_is_effect : FnScope N_is_effect ["one"] (defScope s_is_effect) := ⟨rfl, rfl, rfl, by decide +kernel, rfl, by decide +kernel, by decide +kernel⟩
abbrev s_least_of : Stmt := topS 5
abbrev N_least_of : List Str := ["needs", "gives", "tops", "spot", "size"]
theorem sc_least_of : FnScope N_least_of ["needs", "gives"] (defScope s_least_of) := ⟨rfl, rfl, rfl, by decide +kernel, rfl, by decide +kernel, by decide +kernel⟩
abbrev s_checked : Stmt := topS 6
abbrev N_checked : List Str := ["one", "needs", "gives"]
theorem sc_checked : FnScope N_checked ["one"] (defScope s_checked) := ⟨rfl, rfl, rfl, by decide +kernel, rfl, by decide +kernel, by decide +kernel⟩
abbrev s_join_of : Stmt := topS 7
abbrev N_join_of : List Str := ["one", "other", "needs", "gives", "deep", "later", "more", "upper", "spot"]
theorem sc_join_of : FnScope N_join_of ["one", "other"] (defScope s_join_of) := ⟨rfl, rfl, rfl, by decide +kernel, rfl, by decide +kernel, by decide +kernel⟩
abbrev s_power_of : Stmt := topS 8
abbrev N_power_of : List Str := ["one", "number", "found", "bit"]
theorem sc_power_of : FnScope N_power_of ["one", "number"] (defScope s_power_of) := ⟨rfl, rfl, rfl, by decide +kernel, rfl, by decide +kernel, by decide +kernel⟩
abbrev s_shifted : Stmt := topS 9
abbrev N_shifted : List Str := ["one", "pile", "needs", "gives", "spot"]
theorem sc_shifted : FnScope N_shifted ["one", "pile"] (defScope s_shifted) := ⟨rfl, rfl, rfl, by decide +kernel, rfl, by decide +kernel, by decide +kernel⟩
abbrev s_goes_on : Stmt := topS 11
abbrev N_goes_on : List Str := ["ring", "size", "step", "rank"]
theorem sc_goes_on : FnScope N_goes_on ["ring", "size", "step"] (defScope s_goes_on) := ⟨rfl, rfl, rfl, by decide +kernel, rfl, by decide +kernel, by decide +kernel⟩
abbrev s_told_way : Stmt := topS 12
abbrev N_told_way : List Str := ["numbers", "tail", "every", "more", "ring", "size", "step", "rest", "growth", "ahead"]
theorem sc_told_way : FnScope N_told_way ["numbers", "tail", "every", "more"] (defScope s_told_way) := ⟨rfl, rfl, rfl, by decide +kernel, rfl, by decide +kernel, by decide +kernel⟩
abbrev s_comes_again : Stmt := topS 14
abbrev N_comes_again : List Str := ["one", "needs", "gives", "seen", "rows", "first", "spot"]
theorem sc_comes_again : FnScope N_comes_again ["one"] (defScope s_comes_again) := ⟨rfl, rfl, rfl, by decide +kernel, rfl, by decide +kernel, by decide +kernel⟩
abbrev s_checked_course : Stmt := topS 16
abbrev N_checked_course : List Str := ["course", "before", "again", "after", "first", "middle"]
theorem sc_checked_course : FnScope N_checked_course ["course"] (defScope s_checked_course) := ⟨rfl, rfl, rfl, by decide +kernel, rfl, by decide +kernel, by decide +kernel⟩
abbrev s_effect_of_course : Stmt := topS 17
abbrev N_effect_of_course : List Str := ["course", "number", "before", "again", "after"]
theorem sc_effect_of_course : FnScope N_effect_of_course ["course", "number"] (defScope s_effect_of_course) := ⟨rfl, rfl, rfl, by decide +kernel, rfl, by decide +kernel, by decide +kernel⟩
abbrev s_comes_round : Stmt := topS 18
abbrev N_comes_round : List Str := ["course", "found", "ends", "rows", "ahead", "ring", "more", "number", "row"]
theorem sc_comes_round : FnScope N_comes_round ["course"] (defScope s_comes_round) := ⟨rfl, rfl, rfl, by decide +kernel, rfl, by decide +kernel, by decide +kernel⟩
abbrev s_turns_all : Stmt := topS 20
abbrev N_turns_all : List Str := ["one", "seen", "ahead", "behind"]
theorem sc_turns_all : FnScope N_turns_all ["one", "seen"] (defScope s_turns_all) := ⟨rfl, rfl, rfl, by decide +kernel, rfl, by decide +kernel, by decide +kernel⟩
abbrev s_mark_way : Stmt := topS 21
abbrev N_mark_way : List Str := ["ahead", "ring", "size"]
theorem sc_mark_way : FnScope N_mark_way ["ahead", "ring"] (defScope s_mark_way) := ⟨rfl, rfl, rfl, by decide +kernel, rfl, by decide +kernel, by decide +kernel⟩
abbrev s_course_power : Stmt := topS 22
abbrev N_course_power : List Str := ["course", "number", "before", "again", "after"]
theorem sc_course_power : FnScope N_course_power ["course", "number"] (defScope s_course_power) := ⟨rfl, rfl, rfl, by decide +kernel, rfl, by decide +kernel, by decide +kernel⟩
abbrev s_only_time : Stmt := topS 23
abbrev N_only_time : List Str := ["course", "seen", "ahead", "behind", "change", "number", "rest", "one"]
theorem sc_only_time : FnScope N_only_time ["course", "seen"] (defScope s_only_time) := ⟨rfl, rfl, rfl, by decide +kernel, rfl, by decide +kernel, by decide +kernel⟩
abbrev s_often : Stmt := topS 24
abbrev N_often : List Str := ["course", "seen", "plain", "first", "every", "number", "marks", "one"]
theorem sc_often : FnScope N_often ["course", "seen"] (defScope s_often) := ⟨rfl, rfl, rfl, by decide +kernel, rfl, by decide +kernel, by decide +kernel⟩
abbrev s__law_sx_sack : Stmt := topS 26
abbrev N__law_sx_sack : List Str := ["_law_script", "_law_spot", "_law_cell"]
theorem sc__law_sx_sack : FnScope N__law_sx_sack ["_law_script", "_law_spot"] (defScope s__law_sx_sack) := ⟨rfl, rfl, rfl, by decide +kernel, rfl, by decide +kernel, by decide +kernel⟩
abbrev s__law_sx_pick : Stmt := topS 27
abbrev N__law_sx_pick : List Str := ["_law_sack", "_law_many", "_law_drawn", "_law_stirred"]
theorem sc__law_sx_pick : FnScope N__law_sx_pick ["_law_sack", "_law_many"] (defScope s__law_sx_pick) := ⟨rfl, rfl, rfl, by decide +kernel, rfl, by decide +kernel, by decide +kernel⟩
abbrev s__law_sx_shuffled : Stmt := topS 28
abbrev N__law_sx_shuffled : List Str := ["_law_sack", "_law_row", "_law_pool", "_law_found", "_law_turn"]
theorem sc__law_sx_shuffled : FnScope N__law_sx_shuffled ["_law_sack", "_law_row"] (defScope s__law_sx_shuffled) := ⟨rfl, rfl, rfl, by decide +kernel, rfl, by decide +kernel, by decide +kernel⟩
abbrev s__law_sx_least : Stmt := topS 29
abbrev N__law_sx_least : List Str := ["_law_needs", "_law_gives", "_law_size", "_law_turn"]
theorem sc__law_sx_least : FnScope N__law_sx_least ["_law_needs", "_law_gives"] (defScope s__law_sx_least) := ⟨rfl, rfl, rfl, by decide +kernel, rfl, by decide +kernel, by decide +kernel⟩
abbrev s__law_sx_effect : Stmt := topS 30
abbrev N__law_sx_effect : List Str := ["_law_sack", "_law_needs", "_law_length", "_law_mode", "_law_deep", "_law_size", "_law_turn"]
theorem sc__law_sx_effect : FnScope N__law_sx_effect ["_law_sack", "_law_needs", "_law_length"] (defScope s__law_sx_effect) := ⟨rfl, rfl, rfl, by decide +kernel, rfl, by decide +kernel, by decide +kernel⟩
abbrev s__law_sx_wide : Stmt := topS 31
abbrev N__law_sx_wide : List Str := ["_law_sack", "_law_one", "_law_more"]
theorem sc__law_sx_wide : FnScope N__law_sx_wide ["_law_sack", "_law_one"] (defScope s__law_sx_wide) := ⟨rfl, rfl, rfl, by decide +kernel, rfl, by decide +kernel, by decide +kernel⟩
abbrev s__law_sx_do : Stmt := topS 32
abbrev N__law_sx_do : List Str := ["_law_one", "_law_things_here", "_law_spot"]
theorem sc__law_sx_do : FnScope N__law_sx_do ["_law_one", "_law_things_here"] (defScope s__law_sx_do) := ⟨rfl, rfl, rfl, by decide +kernel, rfl, by decide +kernel, by decide +kernel⟩
abbrev s__law_sx_copy : Stmt := topS 33
abbrev N__law_sx_copy : List Str := ["_law_thing", "_law_inner"]
theorem sc__law_sx_copy : FnScope N__law_sx_copy ["_law_thing"] (defScope s__law_sx_copy) := ⟨rfl, rfl, rfl, by decide +kernel, rfl, by decide +kernel, by decide +kernel⟩
abbrev s__law_sx_lists : Stmt := topS 34
abbrev N__law_sx_lists : List Str := ["_law_thing", "_law_found", "_law_inner"]
theorem sc__law_sx_lists : FnScope N__law_sx_lists ["_law_thing"] (defScope s__law_sx_lists) := ⟨rfl, rfl, rfl, by decide +kernel, rfl, by decide +kernel, by decide +kernel⟩
abbrev s__law_sx_alone : Stmt := topS 35
abbrev N__law_sx_alone : List Str := ["_law_found", "_law_due", "_law_rank", "_law_row"]
theorem sc__law_sx_alone : FnScope N__law_sx_alone ["_law_found", "_law_due"] (defScope s__law_sx_alone) := ⟨rfl, rfl, rfl, by decide +kernel, rfl, by decide +kernel, by decide +kernel⟩
abbrev s__law_sx_fits : Stmt := topS 36
abbrev N__law_sx_fits : List Str := ["_law_one", "_law_pairs", "_law_ahead", "_law_behind"]
theorem sc__law_sx_fits : FnScope N__law_sx_fits ["_law_one", "_law_pairs"] (defScope s__law_sx_fits) := ⟨rfl, rfl, rfl, by decide +kernel, rfl, by decide +kernel, by decide +kernel⟩
abbrev s__law_sx_seen : Stmt := topS 37
abbrev N__law_sx_seen : List Str := ["_law_sack", "_law_drawn", "_law_many", "_law_letters", "_law_found", "_law_menu", "_law_turn", "_law_size", "_law_ahead", "_law_behind", "_law_rank"]
theorem sc__law_sx_seen : FnScope N__law_sx_seen ["_law_sack", "_law_drawn", "_law_many", "_law_letters"] (defScope s__law_sx_seen) := ⟨rfl, rfl, rfl, by decide +kernel, rfl, by decide +kernel, by decide +kernel⟩
abbrev s__law_sx_course : Stmt := topS 38
abbrev N__law_sx_course : List Str := ["_law_course_here", "_law_number", "_law_change", "_law_deep", "_law_things_here", "_law_turn"]
theorem sc__law_sx_course : FnScope N__law_sx_course ["_law_course_here", "_law_number"] (defScope s__law_sx_course) := ⟨rfl, rfl, rfl, by decide +kernel, rfl, by decide +kernel, by decide +kernel⟩
abbrev s__law_sx_way : Stmt := topS 39
abbrev N__law_sx_way : List Str := ["_law_marks", "_law_first", "_law_ahead", "_law_ring_here", "_law_best", "_law_size", "_law_turn"]
theorem sc__law_sx_way : FnScope N__law_sx_way ["_law_marks", "_law_first"] (defScope s__law_sx_way) := ⟨rfl, rfl, rfl, by decide +kernel, rfl, by decide +kernel, by decide +kernel⟩
abbrev s__law_sx_often : Stmt := topS 40
abbrev N__law_sx_often : List Str := ["_law_course_here", "_law_pairs", "_law_again", "_law_number", "_law_size", "_law_powers", "_law_marks", "_law_turn", "_law_one"]
theorem sc__law_sx_often : FnScope N__law_sx_often ["_law_course_here", "_law_pairs"] (defScope s__law_sx_often) := ⟨rfl, rfl, rfl, by decide +kernel, rfl, by decide +kernel, by decide +kernel⟩
abbrev s__law_sx_drawn_course : Stmt := topS 41
abbrev N__law_sx_drawn_course : List Str := ["_law_sack", "_law_top", "_law_found", "_law_deep", "_law_turn"]
theorem sc__law_sx_drawn_course : FnScope N__law_sx_drawn_course ["_law_sack"] (defScope s__law_sx_drawn_course) := ⟨rfl, rfl, rfl, by decide +kernel, rfl, by decide +kernel, by decide +kernel⟩
abbrev s__law_sx_right : Stmt := topS 42
abbrev N__law_sx_right : List Str := ["_law_sack", "_law_course_here", "_law_letters", "_law_change", "_law_mode", "_law_number", "_law_hidden", "_law_pairs", "_law_due", "_law_passed", "_law_given_course", "_law_one"]
theorem sc__law_sx_right : FnScope N__law_sx_right ["_law_sack"] (defScope s__law_sx_right) := ⟨rfl, rfl, rfl, by decide +kernel, rfl, by decide +kernel, by decide +kernel⟩
abbrev s_law : Stmt := topS 43
abbrev N_law : List Str := ["_law_script", "_law_spot", "_law_sack"]
theorem sc_law : FnScope N_law ["_law_script"] (defScope s_law) := ⟨rfl, rfl, rfl, by decide +kernel, rfl, by decide +kernel, by decide +kernel⟩
structure Prog (K : PySem.W.Frag) (mg : Str → Option Value) where
  blt : Blt mg
  f_is_effect : Addr
  fd_is_effect : FuncData
  d_is_effect : DefAt K mg "is_effect" s_is_effect f_is_effect fd_is_effect ["one"]
  f_least_of : Addr
  fd_least_of : FuncData
  d_least_of : DefAt K mg "least_of" s_least_of f_least_of fd_least_of ["needs", "gives"]
  f_checked : Addr
  fd_checked : FuncData
  d_checked : DefAt K mg "checked" s_checked f_checked fd_checked ["one"]
  f_join_of : Addr
  fd_join_of : FuncData
  d_join_of : DefAt K mg "join_of" s_join_of f_join_of fd_join_of ["one", "other"]
  f_power_of : Addr
  fd_power_of : FuncData
  d_power_of : DefAt K mg "power_of" s_power_of f_power_of fd_power_of ["one", "number"]
  f_shifted : Addr
  fd_shifted : FuncData
  d_shifted : DefAt K mg "shifted" s_shifted f_shifted fd_shifted ["one", "pile"]
  f_goes_on : Addr
  fd_goes_on : FuncData
  d_goes_on : DefAt K mg "goes_on" s_goes_on f_goes_on fd_goes_on ["ring", "size", "step"]
  f_told_way : Addr
  fd_told_way : FuncData
  d_told_way : DefAt K mg "told_way" s_told_way f_told_way fd_told_way ["numbers", "tail", "every", "more"]
  f_comes_again : Addr
  fd_comes_again : FuncData
  d_comes_again : DefAt K mg "comes_again" s_comes_again f_comes_again fd_comes_again ["one"]
  f_checked_course : Addr
  fd_checked_course : FuncData
  d_checked_course : DefAt K mg "checked_course" s_checked_course f_checked_course fd_checked_course ["course"]
  f_effect_of_course : Addr
  fd_effect_of_course : FuncData
  d_effect_of_course : DefAt K mg "effect_of_course" s_effect_of_course f_effect_of_course fd_effect_of_course ["course", "number"]
  f_comes_round : Addr
  fd_comes_round : FuncData
  d_comes_round : DefAt K mg "comes_round" s_comes_round f_comes_round fd_comes_round ["course"]
  f_turns_all : Addr
  fd_turns_all : FuncData
  d_turns_all : DefAt K mg "turns_all" s_turns_all f_turns_all fd_turns_all ["one", "seen"]
  f_mark_way : Addr
  fd_mark_way : FuncData
  d_mark_way : DefAt K mg "mark_way" s_mark_way f_mark_way fd_mark_way ["ahead", "ring"]
  f_course_power : Addr
  fd_course_power : FuncData
  d_course_power : DefAt K mg "course_power" s_course_power f_course_power fd_course_power ["course", "number"]
  f_only_time : Addr
  fd_only_time : FuncData
  d_only_time : DefAt K mg "only_time" s_only_time f_only_time fd_only_time ["course", "seen"]
  f_often : Addr
  fd_often : FuncData
  d_often : DefAt K mg "often" s_often f_often fd_often ["course", "seen"]
  f__law_sx_sack : Addr
  fd__law_sx_sack : FuncData
  d__law_sx_sack : DefAt K mg "_law_sx_sack" s__law_sx_sack f__law_sx_sack fd__law_sx_sack ["_law_script", "_law_spot"]
  f__law_sx_pick : Addr
  fd__law_sx_pick : FuncData
  d__law_sx_pick : DefAt K mg "_law_sx_pick" s__law_sx_pick f__law_sx_pick fd__law_sx_pick ["_law_sack", "_law_many"]
  f__law_sx_shuffled : Addr
  fd__law_sx_shuffled : FuncData
  d__law_sx_shuffled : DefAt K mg "_law_sx_shuffled" s__law_sx_shuffled f__law_sx_shuffled fd__law_sx_shuffled ["_law_sack", "_law_row"]
  f__law_sx_least : Addr
  fd__law_sx_least : FuncData
  d__law_sx_least : DefAt K mg "_law_sx_least" s__law_sx_least f__law_sx_least fd__law_sx_least ["_law_needs", "_law_gives"]
  f__law_sx_effect : Addr
  fd__law_sx_effect : FuncData
  d__law_sx_effect : DefAt K mg "_law_sx_effect" s__law_sx_effect f__law_sx_effect fd__law_sx_effect ["_law_sack", "_law_needs", "_law_length"]
  f__law_sx_wide : Addr
  fd__law_sx_wide : FuncData
  d__law_sx_wide : DefAt K mg "_law_sx_wide" s__law_sx_wide f__law_sx_wide fd__law_sx_wide ["_law_sack", "_law_one"]
  f__law_sx_do : Addr
  fd__law_sx_do : FuncData
  d__law_sx_do : DefAt K mg "_law_sx_do" s__law_sx_do f__law_sx_do fd__law_sx_do ["_law_one", "_law_things_here"]
  f__law_sx_copy : Addr
  fd__law_sx_copy : FuncData
  d__law_sx_copy : DefAt K mg "_law_sx_copy" s__law_sx_copy f__law_sx_copy fd__law_sx_copy ["_law_thing"]
  f__law_sx_lists : Addr
  fd__law_sx_lists : FuncData
  d__law_sx_lists : DefAt K mg "_law_sx_lists" s__law_sx_lists f__law_sx_lists fd__law_sx_lists ["_law_thing"]
  f__law_sx_alone : Addr
  fd__law_sx_alone : FuncData
  d__law_sx_alone : DefAt K mg "_law_sx_alone" s__law_sx_alone f__law_sx_alone fd__law_sx_alone ["_law_found", "_law_due"]
  f__law_sx_fits : Addr
  fd__law_sx_fits : FuncData
  d__law_sx_fits : DefAt K mg "_law_sx_fits" s__law_sx_fits f__law_sx_fits fd__law_sx_fits ["_law_one", "_law_pairs"]
  f__law_sx_seen : Addr
  fd__law_sx_seen : FuncData
  d__law_sx_seen : DefAt K mg "_law_sx_seen" s__law_sx_seen f__law_sx_seen fd__law_sx_seen ["_law_sack", "_law_drawn", "_law_many", "_law_letters"]
  f__law_sx_course : Addr
  fd__law_sx_course : FuncData
  d__law_sx_course : DefAt K mg "_law_sx_course" s__law_sx_course f__law_sx_course fd__law_sx_course ["_law_course_here", "_law_number"]
  f__law_sx_way : Addr
  fd__law_sx_way : FuncData
  d__law_sx_way : DefAt K mg "_law_sx_way" s__law_sx_way f__law_sx_way fd__law_sx_way ["_law_marks", "_law_first"]
  f__law_sx_often : Addr
  fd__law_sx_often : FuncData
  d__law_sx_often : DefAt K mg "_law_sx_often" s__law_sx_often f__law_sx_often fd__law_sx_often ["_law_course_here", "_law_pairs"]
  f__law_sx_drawn_course : Addr
  fd__law_sx_drawn_course : FuncData
  d__law_sx_drawn_course : DefAt K mg "_law_sx_drawn_course" s__law_sx_drawn_course f__law_sx_drawn_course fd__law_sx_drawn_course ["_law_sack"]
  f__law_sx_right : Addr
  fd__law_sx_right : FuncData
  d__law_sx_right : DefAt K mg "_law_sx_right" s__law_sx_right f__law_sx_right fd__law_sx_right ["_law_sack"]
  f_law : Addr
  fd_law : FuncData
  d_law : DefAt K mg "law" s_law f_law fd_law ["_law_script"]
section
variable {P : Program} {w : World} {K : PySem.W.Frag} {mg : Str → Option Value} {base : Heap}
def w_is_effect : Tw := fun ds Q => ∃ n gs, ds = [.tuple [.int n, dI gs]] ∧ gs.length ≤ 1000000 ∧ Q (.bool (decide (0 ≤ n) && gs.all fun x => decide (1 ≤ x) && decide (x ≤ n)))
theorem ok_is_effect (p : Prog K mg) : FnG P w K mg base CX0 1 p.f_is_effect p.fd_is_effect ["one"] (spT w_is_effect) := by
  refine okG p.d_is_effect.F sc_is_effect (fun vs H Q E h => ?_) (fun cdv A outer s H vs Q E hg hr h => ?_)
  · obtain ⟨S, ds, G, r, ⟨n, gs, rfl, _⟩, _⟩ := h
    exact r.length
  · obtain ⟨S, ds, G, r, ⟨n, gs, rfl, len, q⟩, k⟩ := h
    obtain ⟨v, rfl, hS⟩ := enter1 r
    obtain ⟨t, v1, v2, rfl, hS⟩ := hS.ftup2 (by walk_at "mem")
    obtain rfl := hS.fint (by walk_at "mem")
    obtain ⟨a, rfl, ha⟩ := hS.rints (.fz (by walk_at "mem"))
    refine ⟨_, (pss_cons (ps_asg (pv 0) (pg_tup rfl (pgs_cons (pg_name (i := 1) sc_is_effect.nd rfl (Or.inr rfl)) (pgs_cons (pg_name (i := 2) sc_is_effect.nd rfl (Or.inl rfl)) pgs_nil))))
      (pss_one (ps_ret (pe_and (pe_cmpR op_ge (pv 1) pe_int (nomark _)) (pe_one (pe_callB (cr_all rfl) (by rfl) p.blt.all (by decide +kernel) (pa_cons (pe_lc (own := [("spot", 3)]) (g := gName 3) (tt := tYes) rfl sc_is_effect.nd (pi_list (pv 2)) (blkOk_by (N := N_is_effect) (sc := defScope s_is_effect) (by decide +kernel)) (fun _ _ _ _ _ => pg_name (i := 3) sc_is_effect.nd rfl (Or.inl rfl)) (fun _ _ _ _ _ => pts_nil) (fun _ _ _ _ _ => (pe_chain op_le op_le pe_int (pv 3) (pv 1)))) pa_nil))))))), ?_⟩
    refine ⟨_, rfl, t, _, rfl, SqT.of (hS.tp (by walk_at "mem")), rfl, _, _, rfl, _, _, rfl, rfl, ?_⟩
    refine ⟨_, rfl, _, _, rfl, rfl, _, rfl, ?_⟩
    by_cases h0 : 0 ≤ n
    · rw [decide_eq_true h0] at q ⊢
      refine iteT ?_
      refine ⟨_, rfl, a, rfl, ⟨_, SqL.of ha⟩, fun D hD => ?_⟩
      refine lc_ints (fun pre H1 => Same H H1 ∧ H1 D = some (.lst ((pre.map fun x => decide (1 ≤ x) && decide (x ≤ n)).map V.bl))) ⟨same_upd hD, upd_same⟩ (fun pre H1 h => h.1 _ _ ha) (fun pre x post H1 e h => ?_) (fun H1 h => ?_)
      · refine ⟨rfl, _, rfl, _, _, rfl, rfl, _, rfl, ?_⟩
        have fin : ∀ b : Bool, b = (decide (1 ≤ x) && decide (x ≤ n)) → ∃ acc, H1 D = some (.lst acc) ∧ acc.length < sizeLine ∧ (fun (pre : List Int) (H1 : Hp) => Same H H1 ∧ H1 D = some (.lst ((pre.map fun x => decide (1 ≤ x) && decide (x ≤ n)).map V.bl))) (pre ++ [x]) (upd H1 D (.lst (acc ++ [V.bl b]))) := fun b eb => by
          subst e
          refine ⟨_, h.2, szlt (by simp at len ⊢; omega), fun c o eo => ?_, ?_⟩
          · rw [upd_ne (ne_of_none eo hD)]
            exact h.1 _ _ eo
          · rw [upd_same, eb]
            simp
        refine iteB (fun h1 => ?_) (fun h1 => ?_)
        · refine ⟨_, rfl, _, _, rfl, rfl, ?_⟩
          exact fin _ (by rw [h1]; rfl)
        · exact fin _ (by rw [h1]; rfl)
      · refine ⟨D, _, rfl, SqL.of h.2, ?_⟩
        have e2 : ((gs.map fun x => decide (1 ≤ x) && decide (x ≤ n)).all id) = gs.all fun x => decide (1 ≤ x) && decide (x ≤ n) := by
          rw [List.all_map]
          rfl
        rw [e2]
        exact k _ _ _ q h.1 ⟨[], .bl _, by simp, by simp⟩
    · rw [decide_eq_false h0] at q ⊢
      exact iteF (k _ _ _ q (Same.refl _) ⟨[], .bl _, by simp, by simp⟩)
def w_least_of : Tw := fun ds Q => ∃ n gs, ds = [.int n, dI gs] ∧ (∀ x ∈ gs, 1 ≤ x) ∧ gs.length ≤ 1000000 ∧ Q (dE (leastE n gs))
theorem ok_least_of (p : Prog K mg) : FnG P w K mg base CX0 1 p.f_least_of p.fd_least_of ["needs", "gives"] (spT w_least_of) := by
  refine okG p.d_least_of.F sc_least_of (fun vs H Q E h => ?_) (fun cdv A outer s H vs Q E hg hr h => ?_)
  · obtain ⟨S, ds, G, r, ⟨n, gs, rfl, _⟩, _⟩ := h
    exact r.length
  · obtain ⟨S, ds, G, r, ⟨n, gs, rfl, pos, len, q⟩, kk⟩ := h
    obtain ⟨v1, v2, rfl, hS⟩ := enter2 r
    obtain rfl := hS.fint (by walk_at "mem")
    obtain ⟨a, rfl, ha⟩ := hS.rints (.fz (by walk_at "mem"))
    refine ⟨_, (pss_cons (ps_set (i := 2) sc_least_of.nd rfl (Or.inl rfl) (pe_lst (pa_cons pe_int pa_nil)))
      (pss_cons (ps_for PassesOwn.never rfl (pi_list (pv 1)) (pg_name (i := 3) sc_least_of.nd rfl (Or.inl rfl))
      (pss_one (ps_expr (pe_bm PySem.F.plainAttrs_list PySem.F.slot_list_append PySem.F.type_list_append mt_append (pv 2) (pa_cons (pe_callB (call_max2 rfl) (by rfl) p.blt.max (by decide +kernel) (pa_cons (pe_ix ix_list (pv 2) (pe_un un_neg pe_int) (fun _ _ => rfl)) (pa_cons (pv 3) pa_nil))) pa_nil)))))
      (pss_cons (ps_set (i := 4) sc_least_of.nd rfl (Or.inl rfl) (pe_callB call_len_seq (by rfl) p.blt.len PySem.boot_len (pa_cons (pv 1) pa_nil)))
      (pss_cons (ps_while PassesOwn.never (PW.pt (pw_and (pt_cmpR op_gt (pv 4) pe_int (nomark _)) (pw_and (pt_cmpR op_eq (pe_ix ix_list (pv 1) (pe_op op_sub (pv 4) pe_int) (fun _ _ => rfl)) (pv 0) (nomark _)) (pw_and1 (pt_cmpR op_lt (pe_ix ix_list (pv 2) (pe_op op_sub (pv 4) pe_int) (fun _ _ => rfl)) (pv 0) (nomark _))))))
      (pss_one (ps_par (i := 4) (j := 0) rfl sc_least_of.nd rfl rfl (by decide) rfl rfl (pa_cons (pe_op op_sub (pv 4) pe_int) (pa_cons (pe_op op_sub (pv 0) pe_int) pa_nil)) (by rfl))))
      (pss_one (ps_ret (pe_tup (pa_cons (pv 0) (pa_cons (pe_callTy call_list_of (by rfl) p.blt.list (by decide +kernel) (pa_cons (pe_slice sl_list (pv 1) po_none (po_some (pv 4))) pa_nil)) pa_nil))))))))), ?_⟩
    -- tops = [0]
    refine ⟨szle (by simp), fun t ht => ?_⟩
    have hS1 := hS.mkInts (ns := [0]) ht
    have hat : H a = some (.lst (gs.map V.int)) := ha
    -- the loop over gives
    refine ⟨_, rfl, a, rfl, ⟨_, SqL.of (same_upd ht _ _ ha)⟩, for_ints (ns := gs) (fun pre σ H1 => ∃ y3 y4, σ = [some (.int n), some (.ref a), some (.ref t), y3, y4] ∧ St H .none .none [(.int n, .int n), (.ref a, dI gs)] [(.ref t, dI (tops pre))] [] H1) ⟨none, none, rfl, hS1⟩ (fun pre σ H1 h => ?_) (fun pre x post σ H1 e h => ?_) (fun σ H1 h => ?_)⟩
    · obtain ⟨_, _, _, h⟩ := h
      obtain ⟨a', e, h'⟩ := h.rints (v := .ref a) (.fz (by walk_at "mem"))
      cases e
      exact h'
    · obtain ⟨y3, y4, rfl, h⟩ := h
      obtain ⟨ht1, k⟩ := h.putInts
      have hl : (tops pre).length = pre.length + 1 := tops_len pre
      have hlast : (tops pre)[pre.length]? = some (top pre) := by
        rw [tops_at (Nat.le_refl _), List.take_length]
      have hlastI : atI ((tops pre).map V.int) (-1) = some (.int (top pre)) := by
        unfold atI
        have e1 : ixN ((tops pre).map V.int).length (-1) = some pre.length := by
          unfold ixN
          rw [ints_len, hl, if_neg (by decide), if_pos (by omega)]
          congr 1
          omega
        rw [e1]
        exact ints_at hlast
      refine ⟨_, rfl, .inl ⟨rfl, _, SqL.of ht1⟩, _, rfl, _, rfl, _, _, _, _, rfl, rfl, SqL.of ht1, hlastI, _, rfl, _, _, rfl, t, _, _, rfl, rfl, ht1, szlt ?_, ?_⟩
      · rw [ints_len, hl]
        subst e
        simp at len
        omega
      · refine ⟨some (.int x), y4, rfl, ?_⟩
        have k' := k (tops (pre ++ [x]))
        rw [tops_app] at k'
        rw [tops_app]
        have e2 : (if x > top pre then x else top pre) = max (top pre) x := by omega
        rw [e2]
        simpa using k'
    · obtain ⟨y3, y4, rfl, h⟩ := h
      obtain ⟨ht1, _⟩ := h.putInts
      obtain ⟨a', e, ha1⟩ := h.rints (v := .ref a) (.fz (by walk_at "mem"))
      cases e
      -- size = len(gives)
      refine ⟨_, rfl, a, _, rfl, .inl (SqL.of ha1), ?_⟩
      rw [ints_len]
      -- the while
      refine ⟨fun m σ H2 => H2 = H1 ∧ ∃ n', σ = [some (.int n'), some (.ref a), some (.ref t), y3, some (.int (m : Int))] ∧ m ≤ gs.length ∧ trim gs gs.length n = trim gs m n', ⟨gs.length, rfl, n, rfl, Nat.le_refl _, rfl⟩, fun m σ H2 h2 => ?_⟩
      obtain ⟨rfl, n', rfl, hm, et⟩ := h2
      refine ⟨_, rfl, _, _, rfl, rfl, _, rfl, ?_⟩
      -- the way out: (needs, list(gives[:size]))
      have out : trim gs m n' = (m, n') → tRet (tTup (tCons (tVar 0) (tCons (tCB (fun xs H Q => ∃ p ys, xs = [.ref p] ∧ (SqL K H p ys ∨ SqT K H p ys) ∧ ∀ l, H l = none → Q (.ref l) (upd H l (.lst ys))) (tCons (tSl (rSlL K) (tVar 1) tNoPart (tPart (tVar 4))) tNil)) tNil))) ⟨fun _ H' => Q .non H', Q, fun _ _ => False, fun _ _ => False⟩ [some (.int n'), some (.ref a), some (.ref t), y3, some (.int (m : Int))] H2 := fun eo => by
        have eL : leastE n gs = (n', gs.take m) := by
          unfold leastE
          rw [et, eo]
        rw [eL] at q
        refine ⟨_, rfl, _, rfl, _, rfl, _, rfl, a, _, rfl, SqL.of ha1, fun c hc => ?_⟩
        rw [cutV_to, ← List.map_take]
        have hS2 := h.mkInts (ns := gs.take m) hc
        obtain ⟨hc1, _⟩ := hS2.putInts
        refine ⟨c, _, rfl, .inl (SqL.of hc1), fun l hl => ?_⟩
        have hS3 := hS2.mkInts (ns := gs.take m) hl
        refine ⟨szle (by simp), fun u hu => ?_⟩
        have hS4 := (hS3.mkTup hu).take (.tp2 (List.Mem.head _) (.int n') (.own .hd))
        obtain ⟨sm, nw⟩ := hS4.leave
        exact kk _ _ _ q sm nw
      cases m with
      | zero =>
        refine iteF ?_
        refine iteF (out ?_)
        rfl
      | succ k =>
        have hk : gs[k]? = some gs[k] := List.getElem?_eq_getElem (by omega)
        rw [decide_eq_true (show (0 : Int) < ((k + 1 : Nat) : Int) by omega)]
        refine iteT ?_
        have ei : ((k + 1 : Nat) : Int) - 1 = (k : Int) := by omega
        refine ⟨_, rfl, _, rfl, _, _, rfl, rfl, _, _, _, _, rfl, rfl, SqL.of ha1, at_nat ei (ints_at hk), _, rfl, rfl, _, rfl, ?_⟩
        rw [dec_eq_int]
        have g1 : 1 ≤ gs[k] := pos _ (List.getElem_mem ..)
        by_cases e1 : gs[k] = n'
        · rw [decide_eq_true e1]
          refine iteT ?_
          have htop : (tops gs)[k]? = some (top (gs.take k)) := tops_at (by omega)
          refine ⟨_, rfl, _, rfl, _, _, rfl, rfl, _, _, _, _, rfl, rfl, SqL.of ht1, at_nat ei (ints_at htop), _, rfl, _, _, rfl, rfl, _, rfl, ?_⟩
          by_cases e2 : top (gs.take k) < n'
          · rw [decide_eq_true e2]
            refine iteT ⟨fun σ' H' => ∃ m', m' < k + 1 ∧ (H' = H2 ∧ ∃ n', σ' = [some (.int n'), some (.ref a), some (.ref t), y3, some (.int (m' : Int))] ∧ m' ≤ gs.length ∧ trim gs gs.length n = trim gs m' n'), fun σ' H' z => z, ?_⟩
            refine ⟨_, rfl, _, _, rfl, rfl, _, rfl, _, _, rfl, rfl, _, _, rfl, k, by omega, rfl, n' - 1, ?_, by omega, ?_⟩
            · exact congrArg (fun z => [some (V.int (n' - 1)), some (V.ref a), some (V.ref t), y3, some (V.int z)]) ei
            · rw [et]
              conv => lhs; unfold trim
              rw [if_pos ⟨by rw [hk, e1], (top_lt (by omega)).mp e2⟩]
          · rw [decide_eq_false e2]
            refine iteF (out ?_)
            unfold trim
            rw [if_neg fun z => e2 ((top_lt (by omega)).mpr z.2)]
        · rw [decide_eq_false e1]
          refine iteF (iteF (out ?_))
          unfold trim
          rw [if_neg fun z => e1 (by rw [hk] at z; exact Option.some.inj z.1)]
def w_checked : Tw := fun ds Q => ∃ n gs, ds = [.tuple [.int n, dI gs]] ∧ Eff (n, gs) ∧ gs.length ≤ 1000000 ∧ Q (dE (leastE n gs))
theorem ok_checked (p : Prog K mg) : FnG P w K mg base CX0 2 p.f_checked p.fd_checked ["one"] (spT w_checked) := by
  refine okG p.d_checked.F sc_checked (fun vs H Q E h => ?_) (fun cdv A outer s H vs Q E hg hr h => ?_)
  · obtain ⟨S, ds, G, r, ⟨n, gs, rfl, _⟩, _⟩ := h
    exact r.length
  · obtain ⟨S, ds, G, r, ⟨n, gs, rfl, ef, len, q⟩, k⟩ := h
    obtain ⟨v, rfl, hS⟩ := enter1 r
    obtain ⟨t, v1, v2, rfl, hS⟩ := hS.ftup2 (by walk_at "mem")
    obtain rfl := hS.fint (by walk_at "mem")
    refine ⟨_, (pss_cons (ps_asg (pv 0) (pg_tup rfl (pgs_cons (pg_name (i := 1) sc_checked.nd rfl (Or.inl rfl)) (pgs_cons (pg_name (i := 2) sc_checked.nd rfl (Or.inl rfl)) pgs_nil))))
      (pss_cons (ps_if (pt_not (pt_val (pe_callG ((ok_is_effect p).mono (by decide)) hg hr (by rfl) p.d_is_effect.gl p.d_is_effect.kp p.d_is_effect.bd pass0 (pa_cons (pv 0) pa_nil))))
      (pss_one ps_never) pss_nil)
      (pss_one (ps_ret (pe_callG ((ok_least_of p).mono (by decide)) hg hr (by rfl) p.d_least_of.gl p.d_least_of.kp p.d_least_of.bd pass0 (pa_cons (pv 1) (pa_cons (pv 2) pa_nil))))))), ?_⟩
    refine ⟨_, rfl, t, _, rfl, SqT.of (hS.tp (by walk_at "mem")), rfl, _, _, rfl, _, _, rfl, rfl, ?_⟩
    -- if not is_effect(one)
    refine ⟨_, rfl, hS.call (vs := [.ref t]) (.cons (.fz (by walk_at "mem")) .nil) ⟨n, gs, rfl, len, fun v' H1 h1 => ?_⟩⟩
    obtain ⟨rfl, h1⟩ := h1.bool
    have et : (decide (0 ≤ n) && gs.all fun x => decide (1 ≤ x) && decide (x ≤ n)) = true := by
      rw [Bool.and_eq_true, decide_eq_true_eq, List.all_eq_true]
      refine ⟨ef.nn, fun x hx => ?_⟩
      rw [Bool.and_eq_true, decide_eq_true_eq, decide_eq_true_eq]
      exact ⟨ef.ge x hx, ef.le x hx⟩
    rw [et]
    refine ⟨_, rfl, iteF ?_⟩
    -- return least_of(needs, gives)
    refine ⟨_, rfl, _, rfl, h1.call (vs := [.int n, v2]) (.cons (.int n) (.cons (.fz (by walk_at "mem")) .nil)) ⟨n, gs, rfl, ef.ge, len, fun v' H2 h2 => ?_⟩⟩
    obtain ⟨sm, nw⟩ := h2.leave
    exact k _ _ _ q sm nw
def w_join_of : Tw := fun ds Q => ∃ n gs d ls, ds = [.tuple [.int n, dI gs], .tuple [.int d, dI ls]] ∧ Eff (n, gs) ∧ Eff (d, ls) ∧ n ≤ 10000 ∧ d ≤ 10000 ∧ gs.length ≤ 10000 ∧ ls.length ≤ 10000 ∧ Q (dE (joinE (n, gs) (d, ls)))
theorem ok_join_of (p : Prog K mg) : FnG P w K mg base CX0 2 p.f_join_of p.fd_join_of ["one", "other"] (spT w_join_of) := by
  refine okG p.d_join_of.F sc_join_of (fun vs H Q E h => ?_) (fun cdv A outer s H vs Q E hg hr h => ?_)
  · obtain ⟨S, ds, Gq, r, ⟨n, gs, d, ls, rfl, _⟩, _⟩ := h
    exact r.length
  · obtain ⟨S, ds, Gq, r, ⟨n, gs, d, ls, rfl, ef, eg, n1, d1, l1, l2, q⟩, k⟩ := h
    obtain ⟨v1, v2, rfl, hS⟩ := enter2 r
    have n0 : 0 ≤ n := ef.nn
    have d0 : 0 ≤ d := eg.nn
    obtain ⟨t, w1, w2, rfl, h1⟩ := hS.ftup2 (v := v1) (by walk_at "mem")
    obtain rfl := h1.fint (v := w1) (by walk_at "mem")
    obtain ⟨a, rfl, ha⟩ := h1.rints (v := w2) (ns := gs) (.fz (by walk_at "mem"))
    obtain ⟨t2, w1, w2, rfl, h2⟩ := h1.ftup2 (v := v2) (by walk_at "mem")
    obtain rfl := h2.fint (v := w1) (by walk_at "mem")
    obtain ⟨b, rfl, hb⟩ := h2.rints (v := w2) (ns := ls) (.fz (by walk_at "mem"))
    refine ⟨_, (pss_cons (ps_asg (pv 0) (pg_tup rfl (pgs_cons (pg_name (i := 2) sc_join_of.nd rfl (Or.inl rfl)) (pgs_cons (pg_name (i := 3) sc_join_of.nd rfl (Or.inl rfl)) pgs_nil))))
      (pss_cons (ps_asg (pv 1) (pg_tup rfl (pgs_cons (pg_name (i := 4) sc_join_of.nd rfl (Or.inl rfl)) (pgs_cons (pg_name (i := 5) sc_join_of.nd rfl (Or.inl rfl)) pgs_nil))))
      (pss_cons (ps_set (i := 6) sc_join_of.nd rfl (Or.inl rfl) (pe_callB (call_max2 rfl) (by rfl) p.blt.max (by decide +kernel) (pa_cons pe_int (pa_cons (pe_op op_sub (pv 4) (pe_callB call_len_seq (by rfl) p.blt.len PySem.boot_len (pa_cons (pv 3) pa_nil))) pa_nil))))
      (pss_cons (ps_set (i := 7) sc_join_of.nd rfl (Or.inr rfl) (pe_op op_cat (pv 3) (pe_listRg rfl (by rfl) p.blt.list (prg_2 (by rfl) p.blt.range (pe_op op_add (pv 2) pe_int) (pe_op op_add (pe_op op_add (pv 2) (pv 6)) pe_int)))))
      (pss_one (ps_ret (pe_callG ((ok_least_of p).mono (by decide)) hg hr (by rfl) p.d_least_of.gl p.d_least_of.kp p.d_least_of.bd pass0 (pa_cons (pe_op op_add (pv 2) (pv 6)) (pa_cons (pe_op op_cat (pe_lc (own := [("spot", 8)]) (g := gName 8) (tt := tYes) rfl sc_join_of.nd (pi_list (pv 5)) (blkOk_by (N := N_join_of) (sc := defScope s_join_of) (by decide +kernel)) (fun _ _ _ _ _ => pg_name (i := 8) sc_join_of.nd rfl (Or.inl rfl)) (fun _ _ _ _ _ => pts_nil) (fun _ _ _ _ _ => (pe_ix (show IxR _ (rIxL K) from ix_list) (pv 7) (pe_op op_sub (pv 8) pe_int) (fun _ _ => rfl)))) (pe_slice sl_list (pv 7) (po_some (pv 4)) po_none)) pa_nil))))))))), ?_⟩
    refine ⟨_, rfl, t, _, rfl, SqT.of (h2.tp (by walk_at "mem")), rfl, _, _, rfl, _, _, rfl, rfl, ?_⟩
    refine ⟨_, rfl, t2, _, rfl, SqT.of (h2.tp (by walk_at "mem")), rfl, _, _, rfl, _, _, rfl, rfl, ?_⟩
    -- more = max(0, deep - len(gives))
    refine ⟨_, rfl, _, rfl, a, _, rfl, .inl (SqL.of ha), _, _, rfl, rfl, _, _, rfl, ?_⟩
    rw [ints_len]
    obtain ⟨m, em, hm0, hmd⟩ : ∃ m, moreE (n, gs) d = m ∧ 0 ≤ m ∧ d ≤ gs.length + m := ⟨_, rfl, more_ok⟩
    have em2 : (if 0 < d - (gs.length : Nat) then d - (gs.length : Nat) else 0) = m := em
    rw [em2]
    have mle : m ≤ 10000 := by
      revert em2
      split <;> omega
    -- upper = gives + list(range(needs + 1, needs + more + 1))
    refine ⟨_, rfl, _, rfl, _, _, rfl, rfl, _, rfl, _, rfl, _, _, rfl, rfl, _, _, rfl, rfl, _, _, rfl, rfl, RgOk.of_le (by omega) (by omega) (by omega) (by omega), fun l hl => ?_⟩
    rw [rgV_map]
    have h3 := h2.mkInts (ns := rg (n + 1) (n + m + 1)) hl
    obtain ⟨hl1, _⟩ := h3.putInts
    have lr := rg_length (n + 1) (n + m + 1)
    refine ⟨a, l, _, _, rfl, rfl, same_upd hl _ _ ha, hl1, szle (by rw [ints_len, ints_len]; omega), fun o ho => ?_⟩
    rw [← List.map_append]
    have h4 := h3.mkInts (ns := upE (n, gs) m) ho
    -- return least_of(needs + more, [upper[spot - 1] for spot in later] + upper[deep:])
    obtain ⟨b', e', hb4⟩ := h4.rints (v := .ref b) (ns := ls) (.fz (by walk_at "mem"))
    cases e'
    have ul := up_len (e := (n, gs)) hm0
    have ule : ((upE (n, gs) m).length : Int) = gs.length + m := ul
    refine ⟨_, rfl, _, rfl, _, _, rfl, rfl, _, rfl, b, rfl, ⟨_, SqL.of hb4⟩, fun Dl hD => ?_⟩
    refine lc_map (fun x => (upE (n, gs) m).getD (x - 1).toNat 0) h4 hD (fun _ => (.fz (by walk_at "mem"))) (by omega) (fun x hxm gs' H1 h5 R hR => ?_) (fun H1 h5 => ?_)
    · obtain ⟨o', e, ho1⟩ := h5.rints (v := .ref o) (ns := upE (n, gs) m) (.ow (by walk_at "mem"))
      cases e
      have b1 := eg.ge x hxm
      have b2 : x ≤ d := eg.le x hxm
      have e : (upE (n, gs) m)[(x - 1).toNat]? = some (upE (n, gs) m)[(x - 1).toNat] := List.getElem?_eq_getElem (by omega)
      refine ⟨_, rfl, _, rfl, _, _, rfl, rfl, o, _, x - 1, _, rfl, rfl, SqL.of ho1, at_nat (k := (x - 1).toNat) (by omega) (ints_at e), ?_⟩
      rw [List.getD_eq_getElem?_getD, e] at hR
      exact hR
    · obtain ⟨o', e, ho1⟩ := h5.rints (v := .ref o) (ns := upE (n, gs) m) (.ow (by walk_at "mem"))
      cases e
      refine ⟨_, rfl, _, rfl, _, rfl, o, _, rfl, SqL.of ho1, fun c hc => ?_⟩
      obtain ⟨e, rfl⟩ : ∃ e : Nat, d = (e : Int) := ⟨d.toNat, by omega⟩
      rw [cutV_from, ← List.map_drop]
      have h6 := h5.mkInts (ns := (upE (n, gs) m).drop e) hc
      obtain ⟨hc1, _⟩ := h6.putInts
      obtain ⟨hD1, _⟩ := h5.putInts
      have ldo : (ls.map (fun x => (upE (n, gs) m).getD (x - 1).toNat 0) ++ (upE (n, gs) m).drop e).length ≤ 100000 := by
        rw [List.length_append, List.length_map, List.length_drop]
        omega
      refine ⟨Dl, c, _, _, rfl, rfl, same_upd hc _ _ hD1, hc1, szle (by rw [ints_len, ints_len, ← List.length_append]; omega), fun z hz => ?_⟩
      rw [← List.map_append]
      have h7 := h6.mkInts (ns := ls.map (fun x => (upE (n, gs) m).getD (x - 1).toNat 0) ++ (upE (n, gs) m).drop e) hz
      have ce := cE_eff (m := m) ef eg hm0 hmd
      refine h7.call (vs := [.int (n + m), .ref z]) (.cons (.int _) (.cons (.ow (by walk_at "mem")) .nil)) ⟨n + m, ls.map (fun x => (upE (n, gs) m).getD (x - 1).toNat 0) ++ (upE (n, gs) m).drop e, rfl, ce.ge, by omega, fun v H6 h8 => ?_⟩
      have ej : leastE (n + m) (ls.map (fun x => (upE (n, gs) m).getD (x - 1).toNat 0) ++ (upE (n, gs) m).drop e) = joinE (n, gs) ((e : Int), ls) := by
        unfold joinE
        show _ = leastE (cE (n, gs) ((e : Int), ls) (moreE (n, gs) (e : Int))).1 _
        rw [em]
        rfl
      rw [ej] at h8
      obtain ⟨sm, nw⟩ := h8.leave
      exact k _ _ _ q sm nw
def w_power_of : Tw := fun ds Q => ∃ n gs k, ds = [dE (n, gs), .int k] ∧ Eff (n, gs) ∧ Lst (n, gs) ∧ 0 ≤ k ∧ k ≤ 450 ∧ n ≤ 20 ∧ gs.length ≤ 20 ∧ Q (dE (powE (n, gs) k.toNat))
theorem ar_power_of : ∀ ds G, w_power_of ds G → ds.length = 2 := by
  rintro ds G ⟨n, gs, k, rfl, _⟩
  rfl
def kr_power_of_1 : KS := (kIfS (kTest (kOp (vEq false) (kOp (vI noC fun i j => Builtin.bitAnd i j) (kOp (vI (fun _ j => 0 ≤ j) fun i j => i / 2 ^ j.toNat) (kVar 1) (kVar 3)) (kC (.int 1))) (kC (.int 1))))
  (kAsg (kCallT w_join_of 2 (kCons (kVar 2) (kCons (kVar 0) kNil))) (kgName 2))
  kNext)
def kb_power_of_2 : KS := (kSeq (kAsg (kCallT w_join_of 2 (kCons (kVar 2) (kCons (kVar 2) kNil))) (kgName 2))
  kr_power_of_1)
def kr_power_of_3 : KS := (kRet (kMov 2))
def kr_power_of_4 : KS := (kSeq (kFor (kRngD (kOp (vI noC fun i j => i - j) (kUn vBits (kVar 1)) (kC (.int 1))) (kUn vNeg (kC (.int 1))) (kUn vNeg (kC (.int 1)))) (kgName 3) kb_power_of_2)
  kr_power_of_3)
def k_power_of : KS := (kSeq (kAsg (kLit (.tuple [(.int 0), (.list [])])) (kgName 2))
  kr_power_of_4)
local macro_rules | `(tactic| walk_at "go") => `(tactic| ((first | unfold kr_power_of_1 | unfold kr_power_of_3 | unfold kr_power_of_4); walk_at "ev"))
theorem bits_lt {k : Int} (h : 0 ≤ k) : k < 2 ^ Builtin.Int.intBits k := by
  have e1 : k.natAbs < 2 ^ (Builtin.Int.intBits k) := by
    unfold Builtin.Int.intBits
    split
    · rename_i z
      have : k = 0 := by simpa using z
      subst this
      decide
    · exact Nat.lt_log2_self
  have e2 : ((2 ^ Builtin.Int.intBits k : Nat) : Int) = 2 ^ Builtin.Int.intBits k := by simp
  omega
theorem val_power_of : ∀ ds G, w_power_of ds G → k_power_of ⟨ds.map Sl.fz ++ [.jk, .jk], [], 0⟩ (edT G) := by
  rintro ds Gq ⟨n, gs, k, rfl, ef, lf, k0, k1, n1, l1, q⟩
  have bl := bits_lt k0
  have bs : Builtin.Int.intBits k ≤ 64 := by
    have := PySem.Flt.log2_lt_of (n := k.natAbs) (k := 60) (by decide) (by omega)
    unfold Builtin.Int.intBits
    split <;> omega
  obtain ⟨B, hB⟩ : ∃ B, Builtin.Int.intBits k = B := ⟨_, rfl⟩
  rw [hB] at bl bs
  unfold k_power_of
  walk_at "ev"
  walk_at "go"
  rw [hB]
  refine ⟨⟨by omega, by omega, by omega, by omega⟩, ?_⟩
  have lr := rgD_len ((B : Int) - 1) (-1)
  have lr' : (rgD ((B : Int) - 1) (-1)).length = B := by rw [lr]; omega
  -- behind j turns: the upper j bits
  refine forL_ints (rgD ((B : Int) - 1) (-1)) (fun pre γ => ∃ x, γ = ⟨[.fz (dE (n, gs)), .fz (.int k), .ow true (dE (powE (n, gs) (k / 2 ^ (B - pre.length)).toNat)), x], [], 0⟩) (fun pre x post γ N hl ht hP hN => ?_) (fun γ ht hP => ?_) _ rfl ⟨.jk, ?_⟩
  · obtain ⟨y, rfl⟩ := hP
    have hlen := congrArg List.length hl
    rw [lr', List.length_append, List.length_cons] at hlen
    have hx : x = ((B - pre.length - 1 : Nat) : Int) := by
      have e1 : (rgD ((B : Int) - 1) (-1))[pre.length]? = some x := by rw [hl]; simp
      unfold rgD at e1
      rw [List.getElem?_map, List.getElem?_range (by omega)] at e1
      have := Option.some.inj e1
      dsimp only at this
      omega
    obtain ⟨b, hb⟩ : ∃ b, B - pre.length - 1 = b := ⟨_, rfl⟩
    have hb1 : B - pre.length = b + 1 := by omega
    rw [hb] at hx
    subst hx
    rw [hb1]
    obtain ⟨m, hm⟩ : ∃ m : Nat, (k / 2 ^ (b + 1)).toNat = m := ⟨_, rfl⟩
    have kd : k / 2 ^ b = 2 * (k / 2 ^ (b + 1)) + (k / 2 ^ b) % 2 := by
      have e1 : (2 : Int) ^ (b + 1) = 2 ^ b * 2 := by rw [Int.pow_succ]
      rw [e1, ← Int.ediv_ediv_of_nonneg (Int.le_of_lt (Int.pow_pos (by decide)))]
      have := Int.mul_ediv_add_emod (k / 2 ^ b) 2
      omega
    have kp : 0 ≤ k / 2 ^ (b + 1) := Int.ediv_nonneg k0 (Int.le_of_lt (Int.pow_pos (by decide)))
    have kle : k / 2 ^ (b + 1) ≤ k := Int.ediv_le_self _ k0
    have km : k / 2 ^ (b + 1) = (m : Int) := by omega
    have p0 := pow_bd ef m
    have pe := pow_eff ef m
    have kle2 : k / 2 ^ b ≤ k := Int.ediv_le_self _ k0
    have m100 : m ≤ 225 := by
      have := Int.emod_nonneg (k / 2 ^ b) (show (2 : Int) ≠ 0 by decide)
      omega
    have q1 : (powE (n, gs) m).1 ≤ 4500 := Int.le_trans p0.1 (Int.le_trans (Int.mul_le_mul (show (m : Int) ≤ 225 by omega) n1 ef.nn (by decide)) (by decide))
    have q2 : (powE (n, gs) m).2.length ≤ 4500 := Nat.le_trans p0.2 (Nat.le_trans (Nat.mul_le_mul m100 l1) (by decide))
    have d2 := pow_add ef m m
    have p2 := join_bd pe pe
    rw [d2] at p2
    have pe2 := pow_eff ef (m + m)
    have j2 : joinE (powE (n, gs) (m + m)) (n, gs) = powE (n, gs) (m + m + 1) := rfl
    obtain ⟨⟨u, us⟩, eu⟩ : ∃ e, powE (n, gs) m = e := ⟨_, rfl⟩
    rw [hm]
    rw [eu] at d2 p2 pe q1 q2 ⊢
    dsimp only at q1 q2
    unfold kb_power_of_2
    walk_at "ev"
    refine ⟨u, us, u, us, rfl, pe, pe, by omega, by omega, by omega, by omega, ?_⟩
    rw [d2]
    have n100 : n ≤ 10000 := by omega
    obtain ⟨⟨w1, ws⟩, ew⟩ : ∃ e, powE (n, gs) (m + m) = e := ⟨_, rfl⟩
    rw [ew] at p2 pe2 j2 ⊢
    dsimp only at p2
    walk_at "ev"
    walk_at "go"
    refine ⟨by omega, ?_⟩
    have ebit : Builtin.bitAnd (k / 2 ^ ((b : Nat) : Int).toNat) 1 = (k / 2 ^ b) % 2 := by
      rw [bitAnd_m1]
      rfl
    rw [ebit]
    have fin : ∀ (f : Int × List Int), f = powE (n, gs) (k / 2 ^ b).toNat → N ⟨[.fz (dE (n, gs)), .fz (.int k), .ow true (dE f), .fz (.int (b : Nat))], [], 0⟩ := fun f efq => hN _ rfl ⟨.fz (.int (b : Nat)), by
      have e3 : B - (pre ++ [((b : Nat) : Int)]).length = b := by rw [List.length_append, List.length_singleton]; omega
      rw [e3, ← efq]⟩
    refine iteB (fun c => ?_) (fun c => ?_)
    · have c := of_decide_eq_true c
      refine ⟨w1, ws, n, gs, rfl, pe2, ef, by omega, by omega, by omega, by omega, ?_⟩
      walk_at "ev"
      refine fin _ ?_
      rw [j2]
      congr 1
      omega
    · have c := of_decide_eq_false c
      refine fin (w1, ws) ?_
      rw [← ew]
      congr 1
      have := Int.emod_nonneg (k / 2 ^ b) (show (2 : Int) ≠ 0 by decide)
      have := Int.emod_lt_of_pos (k / 2 ^ b) (show (0 : Int) < 2 by decide)
      omega
  · obtain ⟨y, rfl⟩ := hP
    unfold kr_power_of_3
    walk_at "ev"
    rw [lr', Nat.sub_self] at *
    have e1 : k / 2 ^ 0 = k := by simp
    rw [e1]
    exact q
  · have e1 : k / 2 ^ (B - ([] : List Int).length) = 0 := by
      show k / 2 ^ B = 0
      exact Int.ediv_eq_zero_of_lt k0 bl
    rw [e1]
    rfl
theorem ok_power_of (p : Prog K mg) : FnG P w K mg base CX0 3 p.f_power_of p.fd_power_of ["one", "number"] (spT w_power_of) :=
  okT p.d_power_of.F sc_power_of (by decide) ar_power_of (fun cdv A outer s H E hg hr => ⟨_, (pss_cons (ps_set (i := 2) sc_power_of.nd rfl (Or.inl rfl) (pe_tup (pa_cons pe_int (pa_cons (pe_lst pa_nil) pa_nil))))
      (pss_cons (ps_for PassesOwn.never rfl (pi_range3 (by rfl) p.blt.range (pa_cons (pe_op op_sub (pe_bits (pv 1)) pe_int) (pa_cons (pe_un un_neg pe_int) (pa_cons (pe_un un_neg pe_int) pa_nil)))) (pg_name (i := 3) sc_power_of.nd rfl (Or.inl rfl))
      (pss_cons (ps_set (i := 2) sc_power_of.nd rfl (Or.inl rfl) (pe_callG ((ok_join_of p).mono (by decide)) hg hr (by rfl) p.d_join_of.gl p.d_join_of.kp p.d_join_of.bd pass0 (pa_cons (pv 2) (pa_cons (pv 2) pa_nil))))
      (pss_one (ps_if (pt_cmpR op_eq (pe_op op_and (pe_op op_shr (pv 1) (pv 3)) pe_int) pe_int (nomark _))
      (pss_one (ps_set (i := 2) sc_power_of.nd rfl (Or.inl rfl) (pe_callG ((ok_join_of p).mono (by decide)) hg hr (by rfl) p.d_join_of.gl p.d_join_of.kp p.d_join_of.bd pass0 (pa_cons (pv 2) (pa_cons (pv 0) pa_nil))))) pss_nil))))
      (pss_one (ps_ret (pv 2))))),
    fun C xc => (so_seq (so_asg (so_lit_tup (so_lits_cons (so_lit_c (sca_int _) rfl) (so_lits_cons (so_lit_lst so_lits_nil) so_lits_nil))) (so_gname (i := 2)))
      (so_seq (so_for (so_rngD (so_op sr_I0 (so_bits (so_var (i := 1))) (so_c (sca_int _))) (so_neg (so_c (sca_int _))) (so_neg (so_c (sca_int _)))) (so_gname (i := 3))
      (so_seq (so_asg (so_callT (so_cons (so_var (i := 2)) (so_cons (so_var (i := 2)) so_nil))) (so_gname (i := 2)))
      (so_ifS (so_test (so_op sr_eq (so_op sr_I0 (so_op sr_I (so_var (i := 1)) (so_var (i := 3))) (so_c (sca_int _))) (so_c (sca_int _))))
      (so_asg (so_callT (so_cons (so_var (i := 2)) (so_cons (so_var (i := 0)) so_nil))) (so_gname (i := 2))) so_next)))
      (so_ret (so_mov (i := 2)))))⟩) val_power_of
def w_shifted : Tw := fun ds Q => ∃ (e : Int × List Int) (ss : List Str), ds = [dE e, dS ss] ∧ Eff e ∧ e.1 ≤ ss.length ∧ e.2.length ≤ 1000 ∧ ss.length ≤ 1000 ∧ Q (dS (doS e ss))
theorem ar_shifted : ∀ ds G, w_shifted ds G → ds.length = 2 := by
  rintro ds G ⟨e, ss, rfl, _⟩
  rfl
def kr_shifted_1 : KS := (kRet (kCat (kLc (kIt true (kFrz 3)) 4 kYes (kIx true (kVar 1) (kOp (vI noC fun i j => i - j) (kVar 4) (kC (.int 1))))) (kSl (kVar 1) (kPart (kVar 2)) kNo)))
def k_shifted : KS := (kSeq (kAsg (kFrz 0) (kgTup 2 (kgCons (kgName 2) (kgCons (kgName 3) kgNil))))
  kr_shifted_1)
local macro_rules | `(tactic| walk_at "go") => `(tactic| ((first | unfold kr_shifted_1); walk_at "ev"))
theorem val_shifted : ∀ ds G, w_shifted ds G → k_shifted ⟨ds.map Sl.fz ++ [.jk, .jk, .jk], [], 0⟩ (edT G) := by
  rintro ds Gq ⟨e, ss, rfl, ef, hn, le, ls, q⟩
  have n0 := ef.nn
  unfold k_shifted
  walk_at "ev"
  walk_at "go"
  refine lc_inv (j := 4) true e.2 PyData.int (fun pre acc n' => acc = (pre.filterMap fun r => ss[(r - 1).toNat]?).map PyData.str ∧ n' = 0 ∧ ∃ post, e.2 = pre ++ post) rfl rfl (fun pre acc n' hp => ?_) (fun pre r post acc n' Y X hl hp hY hX => ?_) (fun acc n' hp => ?_) [] 0 ⟨rfl, rfl, _, rfl⟩
  · obtain ⟨rfl, _, post, h⟩ := hp
    have a := List.length_filterMap_le (fun r : Int => ss[(r - 1).toNat]?) pre
    have b := congrArg List.length h
    rw [List.length_append] at b
    rw [List.length_map]
    omega
  · obtain ⟨rfl, rfl, _⟩ := hp
    have hr : r ∈ e.2 := by rw [hl]; simp
    have r1 := ef.ge r hr
    have r2 := ef.le r hr
    walk_at "ev"
    refine ixD_strs (by omega) (by omega) fun s _ _ hs => ?_
    walk_at "ev"
    refine hY (.fz (.str s)) true (.str s) 0 rfl rfl ⟨?_, rfl, post, by rw [hl]; simp⟩
    rw [List.filterMap_append, List.map_append]
    rw [List.filterMap_cons, hs]
    rfl
  · obtain ⟨rfl, rfl, _⟩ := hp
    walk_at "ev"
    have nn : ∀ us vs : List Str, (nolists (us.map PyData.str) && nolists (vs.map PyData.str)) = true := fun us vs => by rw [nolists_strs, nolists_strs]; rfl
    obtain ⟨n, hn'⟩ : ∃ n : Nat, e.1 = n := ⟨e.1.toNat, by omega⟩
    have fl := List.length_filterMap_le (fun r : Int => ss[(r - 1).toNat]?) e.2
    have dd : doS e ss = e.2.filterMap (fun r => ss[(r - 1).toNat]?) ++ ss.drop e.1.toNat := rfl
    rw [hn'] at dd ⊢
    rw [cutD_from, ← List.map_drop, nn, ← List.map_append]
    rw [Int.toNat_natCast] at dd
    rw [← dd]
    refine ⟨by rw [List.length_map, List.length_drop]; omega, ?_⟩
    exact q
theorem ok_shifted (p : Prog K mg) : FnG P w K mg base CX0 1 p.f_shifted p.fd_shifted ["one", "pile"] (spT w_shifted) :=
  okT p.d_shifted.F sc_shifted (by decide) ar_shifted (fun cdv A outer s H E hg hr => ⟨_, (pss_cons (ps_asg (pv 0) (pg_tup rfl (pgs_cons (pg_name (i := 2) sc_shifted.nd rfl (Or.inl rfl)) (pgs_cons (pg_name (i := 3) sc_shifted.nd rfl (Or.inl rfl)) pgs_nil))))
      (pss_one (ps_ret (pe_op op_cat (pe_lc (own := [("spot", 4)]) (g := gName 4) (tt := tYes) rfl sc_shifted.nd (pi_list (pv 3)) (blkOk_by (N := N_shifted) (sc := defScope s_shifted) (by decide +kernel)) (fun _ _ _ _ _ => pg_name (i := 4) sc_shifted.nd rfl (Or.inl rfl)) (fun _ _ _ _ _ => pts_nil) (fun _ _ _ _ _ => (pe_ix (show IxR _ (rIxL K) from ix_list) (pv 1) (pe_op op_sub (pv 4) pe_int) (fun _ _ => rfl)))) (pe_slice sl_list (pv 1) (po_some (pv 2)) po_none))))),
    fun C xc => (so_seq (so_asg (so_frz (i := 0)) (so_gtup (so_gcons (so_gname (i := 2)) (so_gcons (so_gname (i := 3)) so_gnil))))
      (so_ret (so_cat (so_lc (so_itL (so_frz (i := 3))) so_yes (so_ixL (so_var (i := 1)) (so_op sr_I0 (so_var (i := 4)) (so_c (sca_int _))))) (so_sl (so_var (i := 1)) (so_part (so_var (i := 2))) so_no))))⟩) val_shifted
def w_goes_on : Tw := fun ds Q => ∃ (ns : List Int) (s : Nat) (c : Int), ds = [dI ns, .int s, .int c] ∧ s ≤ ns.length ∧ ns.length ≤ 10000 ∧ ∀ b : Bool, (b = true ↔ ∀ i : Nat, i + s < ns.length → ns.getD (i + s) 0 = ns.getD i 0 + c) → Q (.bool b)
theorem ar_goes_on : ∀ ds G, w_goes_on ds G → ds.length = 3 := by
  rintro ds G ⟨ns, s, c, rfl, _⟩
  rfl
def k_goes_on : KS := (kRet (kF 1 (vAll fun bs => bs.all id) (kCons (kLc (kRng1 (kOp (vI noC fun i j => i - j) (kF 1 vLen (kCons (kVar 0) kNil)) (kVar 1))) 3 kYes (kOp (vEq false) (kIx true (kVar 0) (kOp (vI noC fun i j => i + j) (kVar 3) (kVar 1))) (kOp (vI noC fun i j => i + j) (kIx true (kVar 0) (kVar 3)) (kVar 2)))) kNil)))
theorem lc_boolsN {j : Nat} {ke : KE} {q : VSt → Prop} {sl T : List Sl} {n : Int} (l : List Int) (h : Int → Bool) (hj : (sl.set j .jk) = sl) (na : noAl j T = true) (len : l.length < 10000000)
    (step : ∀ x ∈ l, ∀ acc (Y : VSt → Prop), Y ⟨sl.set j (.fz (.int x)), .fz (.bool (h x)) :: .ow true (.list acc) :: T, n⟩ → ke ⟨sl.set j (.fz (.int x)), .ow true (.list acc) :: T, n⟩ Y)
    (fin : q ⟨sl, .ow true (.list ((l.map h).map PyData.bool)) :: T, n⟩) : lcL j kYes ke (l.map PyData.int) ⟨sl, .ow true (.list []) :: T, n⟩ q := by
  refine lc_inv (j := j) true l PyData.int (fun pre acc n' => acc = (pre.map h).map PyData.bool ∧ n' = n ∧ ∃ post, l = pre ++ post) hj na (fun pre acc n' hp => ?_) (fun pre x post acc n' Y X hl hp hY hX => ?_) (fun acc n' hp => ?_) [] n ⟨rfl, rfl, l, rfl⟩
  · obtain ⟨rfl, _, post, rfl⟩ := hp
    rw [List.length_map, List.length_map]
    rw [List.length_append] at len
    omega
  · obtain ⟨rfl, rfl, _⟩ := hp
    refine ⟨rfl, ?_⟩
    rw [if_pos rfl]
    refine step x (by rw [hl]; simp) _ _ (hY _ true (.bool (h x)) n' rfl rfl ⟨by simp, rfl, post, by rw [hl]; simp⟩)
  · obtain ⟨rfl, rfl, _⟩ := hp
    exact fin
theorem val_goes_on : ∀ ds G, w_goes_on ds G → k_goes_on ⟨ds.map Sl.fz ++ [.jk], [], 0⟩ (edT G) := by
  rintro ds Gq ⟨ns, s, c, rfl, hs, hl, q⟩
  unfold k_goes_on
  walk_at "ev"
  refine ⟨by omega, ?_⟩
  refine lc_boolsN (rg 0 ((ns.length : Int) - s)) (fun x => decide (ns.getD (x + s).toNat 0 = ns.getD x.toNat 0 + c)) rfl rfl (by rw [rg_length]; omega) (fun x hx acc Y hY => ?_) ?_
  · have hx := mem_rg.mp hx
    walk_at "ev"
    refine ixD_ints (by omega) (by omega) ?_
    refine ixD_ints (by omega) (by omega) ?_
    walk_at "ev"
    exact hY
  · walk_at "ev"
    refine q _ ?_
    simp only [List.all_map, List.all_eq_true, Function.comp, id, mem_rg, decide_eq_true_eq]
    constructor
    · intro h i hi
      have := h i (by omega)
      rwa [Int.toNat_natCast, show ((i : Int) + s).toNat = i + s by omega] at this
    · intro h x hx
      have := h x.toNat (by omega)
      rwa [show (x + s).toNat = x.toNat + s by omega]
theorem ok_goes_on (p : Prog K mg) : FnG P w K mg base CX0 1 p.f_goes_on p.fd_goes_on ["ring", "size", "step"] (spT w_goes_on) :=
  okT p.d_goes_on.F sc_goes_on (by decide) ar_goes_on (fun cdv A outer s H E hg hr => ⟨_, (pss_one (ps_ret (pe_callB (cr_all rfl) (by rfl) p.blt.all (by decide +kernel) (pa_cons (pe_lc (own := [("rank", 3)]) (g := gName 3) (tt := tYes) rfl sc_goes_on.nd (pi_range1 (by rfl) p.blt.range (pa_cons (pe_op op_sub (pe_callB call_len_seq (by rfl) p.blt.len PySem.boot_len (pa_cons (pv 0) pa_nil)) (pv 1)) pa_nil)) (blkOk_by (N := N_goes_on) (sc := defScope s_goes_on) (by decide +kernel)) (fun _ _ _ _ _ => pg_name (i := 3) sc_goes_on.nd rfl (Or.inl rfl)) (fun _ _ _ _ _ => pts_nil) (fun _ _ _ _ _ => (pe_cmpR op_eq (pe_ix (show IxR _ (rIxL K) from ix_list) (pv 0) (pe_op op_add (pv 3) (pv 1)) (fun _ _ => rfl)) (pe_op op_add (pe_ix (show IxR _ (rIxL K) from ix_list) (pv 0) (pv 3) (fun _ _ => rfl)) (pv 2)) (nomark _)))) pa_nil)))),
    fun C xc => (so_ret (so_f sc_bools (so_cons (so_lc (so_rng1 (so_op sr_I0 (so_f sc_len (so_cons (so_var (i := 0)) so_nil)) (so_var (i := 1)))) so_yes (so_op sr_eq (so_ixL (so_var (i := 0)) (so_op sr_I0 (so_var (i := 3)) (so_var (i := 1)))) (so_op sr_I0 (so_ixL (so_var (i := 0)) (so_var (i := 3))) (so_var (i := 2))))) so_nil)))⟩) val_goes_on
def w_told_way : Tw := fun ds Q => ∃ (v : Nat → Int) (N T P : Nat) (c : Int), ds = [dI ((List.range N).map v), .int T, .int P, .int c] ∧ T + P ≤ N ∧ Per v T P c ∧ 1 ≤ P ∧ P ≤ 1000 ∧ T ≤ 3000 ∧ -(2 ^ 60) ≤ c ∧ c ≤ 2 ^ 60 ∧
  ∀ (h L : Nat) (g : Int), Tell v h L g → h ≤ T → L ≤ P → Q (.tuple [dI ((List.range h).map v), dI ((List.range L).map fun j => v (h + j)), .int g])
theorem ar_told_way : ∀ ds G, w_told_way ds G → ds.length = 4 := by
  rintro ds G ⟨v, N, T, P, c, rfl, _⟩
  rfl
def kr_told_way_1 : KS := (kAug 5 (fun i j => i + j) (kC (.int 1)))
def kr_told_way_2 : KS := (kSeq (kIfS (kTAnd (kTest (kOp (vEq false) (kOp (vI (fun _ j => 0 < j) fun i j => i % j) (kVar 2) (kVar 5)) (kC (.int 0)))) (kTAnd (kTest (kOp (vEq false) (kVar 7) (kC (.int 0)))) (kTest (kCallT w_goes_on 3 (kCons (kVar 4) (kCons (kVar 5) (kCons (kVar 6) kNil)))))))
  kBreak
  kNext)
  kr_told_way_1)
def kb_told_way_3 : KS := (kSeq (kAsg (kDivmod (kCons (kOp (vI CMulB fun i j => i * j) (kVar 3) (kVar 5)) (kCons (kVar 2) kNil))) (kgTup 2 (kgCons (kgName 6) (kgCons (kgName 7) kgNil))))
  kr_told_way_2)
def kb_told_way_4 : KS := (kAsg (kCat (kMk true 1 (kCons (kPop (kVar 9)) kNil)) (kSl (kVar 4) kNo (kPart (kUn vNeg (kC (.int 1)))))) (kgName 4))
def kr_told_way_5 : KS := (kRet (kMk false 3 (kCons (kMov 9) (kCons (kMov 4) (kCons (kVar 8) kNil)))))
def kr_told_way_6 : KS := (kSeq (kWhile (kTAnd (kTest (kOp (vEqD true) (kVar 9) (kLit (.list [])))) (kTest (kOp (vEq false) (kOp (vI noC fun i j => i + j) (kIx true (kVar 9) (kUn vNeg (kC (.int 1)))) (kVar 8)) (kIx true (kVar 4) (kUn vNeg (kC (.int 1))))))) kb_told_way_4)
  kr_told_way_5)
def kr_told_way_7 : KS := (kSeq (kPar3 8 4 9 (kCons (kOp (vI CDivW fun i j => i / j) (kOp (vI CMulB fun i j => i * j) (kVar 3) (kVar 5)) (kVar 2)) (kCons (kSl (kVar 4) kNo (kPart (kVar 5))) (kCons (kSl (kVar 0) kNo (kPart (kVar 1))) kNil))))
  kr_told_way_6)
def kr_told_way_8 : KS := (kSeq (kWhile (kTest (kOp (vB fun i j => decide (i < j)) (kVar 5) (kVar 2))) kb_told_way_3)
  kr_told_way_7)
def k_told_way : KS := (kSeq (kPar 4 5 (kCons (kSl (kVar 0) (kPart (kVar 1)) (kPart (kOp (vI noC fun i j => i + j) (kVar 1) (kVar 2)))) (kCons (kC (.int 1)) kNil)))
  kr_told_way_8)
local macro_rules | `(tactic| walk_at "go") => `(tactic| ((first | unfold kr_told_way_1 | unfold kr_told_way_2 | unfold kr_told_way_5 | unfold kr_told_way_6 | unfold kr_told_way_7 | unfold kr_told_way_8); walk_at "ev"))
theorem ring_back {v : Nat → Int} {k s : Nat} (hs : 1 ≤ s) : v k :: ((List.range s).map fun j => v (k + 1 + j)).dropLast = (List.range s).map fun j => v (k + j) := by
  obtain ⟨t, rfl⟩ : ∃ t, s = t + 1 := ⟨s - 1, by omega⟩
  rw [List.range_succ, List.map_append, List.map_singleton, List.dropLast_concat, ← List.range_succ, List.range_succ_eq_map, List.map_cons, List.map_map]
  congr 1
  refine List.map_congr_left fun j _ => ?_
  show v (k + 1 + j) = v (k + (j + 1))
  congr 1
  omega
theorem erase_end {v : Nat → Int} {k : Nat} : (((List.range (k + 1)).map v).map PyData.int).eraseIdx k = ((List.range k).map v).map PyData.int := by
  rw [List.range_succ, List.map_append, List.map_append, List.eraseIdx_append_of_length_le (by simp)]
  simp
theorem val_told_way : ∀ ds G, w_told_way ds G → k_told_way ⟨ds.map Sl.fz ++ [.jk, .jk, .jk, .jk, .jk, .jk], [], 0⟩ (edT G) := by
  rintro ds Gq ⟨v, N, T, P, c, rfl, hN, hp, p0, p1, t1, c0, c1, q⟩
  unfold k_told_way
  walk_at "ev"
  rw [cut_rm hN]
  walk_at "ev"
  obtain ⟨nums, hnums⟩ : ∃ d, dI ((List.range N).map v) = d := ⟨_, rfl⟩
  obtain ⟨ring, hring⟩ : ∃ r, (List.range P).map (fun j => v (T + j)) = r := ⟨_, rfl⟩
  have rl : ring.length = P := by rw [← hring]; simp
  have rg0 : ∀ i : Nat, i < P → ring.getD i 0 = v (T + i) := fun i hi => by
    rw [← hring]
    exact rm_get (v := fun j => v (T + j)) hi
  have e60 : (2 : Int) ^ 60 = 1152921504606846976 := by decide
  rw [e60] at c0 c1
  -- behind the first loop
  have rest : ∀ (s : Nat) (a b : Sl), 1 ≤ s → s ≤ P → Per v T s (c * s / P) → (∀ d : Nat, 1 ≤ d → d < s → d ∣ P → ∀ c', ¬ Per v T d c') → kr_told_way_7 ⟨[.fz (dI ((List.range N).map v)), .fz (.int T), .fz (.int P), .fz (.int c), .ow true (dI ring), .fz (.int s), a, b, .jk, .jk], [], 0⟩ (edT Gq) := fun s a b s1 sP hs no => by
    walk_at "go"
    have cs : -(1152921504606846976 * 1000) ≤ c * s ∧ c * s ≤ 1152921504606846976 * 1000 := by
      have a1 : c * s ≤ 1152921504606846976 * s := Int.mul_le_mul_of_nonneg_right c1 (by omega)
      have a2 : -1152921504606846976 * (s : Int) ≤ c * s := Int.mul_le_mul_of_nonneg_right c0 (by omega)
      omega
    refine ⟨cmulB_of (by omega) (by omega), wide_div (b := 20) (by omega) (by omega) (by decide) (by decide), ?_⟩
    obtain ⟨g, hg⟩ : ∃ g, c * s / P = g := ⟨_, rfl⟩
    rw [hg] at hs ⊢
    rw [cut_rm0 (by omega), ← hring, cut_rm0 (v := fun j => v (T + j)) sP]
    walk_at "ev"
    have least := Per.least hp p0 no
    unfold kr_told_way_6
    refine ⟨fun m γ => ∃ h : Nat, γ = ⟨[.fz (dI ((List.range N).map v)), .fz (.int T), .fz (.int P), .fz (.int c), .ow true (dI ((List.range s).map fun j => v (h + j))), .fz (.int s), a, b, .fz (.int g), .ow true (dI ((List.range h).map v))], [], 0⟩ ∧ m = h ∧ h ≤ T ∧ Per v h s g, ⟨_, T, rfl, rfl, Nat.le_refl _, hs⟩, ?_⟩
    rintro m γ ⟨h, rfl, em, hT, hh⟩
    have out : (0 < h → v (h - 1 + s) ≠ v (h - 1) + g) → kr_told_way_5 ⟨[.fz (dI ((List.range N).map v)), .fz (.int T), .fz (.int P), .fz (.int c), .ow true (dI ((List.range s).map fun j => v (h + j))), .fz (.int s), a, b, .fz (.int g), .ow true (dI ((List.range h).map v))], [], 0⟩ (edT Gq) := fun ho => by
      walk_at "go"
      exact q h s g ⟨s1, hh, least, ho⟩ hT sP
    walk_at "ev"
    refine ⟨shaped_ints _, rfl, ?_⟩
    rw [eqv_il0]
    refine iteB (fun c1 => ?_) (fun c1 => out fun h0 => ?_)
    · have h0 : 1 ≤ h := by
        cases h with
        | zero => simp at c1
        | succ h => omega
      refine ixD_last (by rw [List.length_map, List.length_range]; exact h0) ?_
      rw [List.length_map, List.length_range, rm_get (by omega)]
      walk_at "ev"
      refine ixD_last (by rw [List.length_map, List.length_range]; exact s1) ?_
      rw [List.length_map, List.length_range, rm_get (v := fun j => v (h + j)) (by omega)]
      walk_at "ev"
      refine iteB (fun c2 => ?_) (fun c2 => out fun h0 e => of_decide_eq_false c2 ?_)
      · have c2 := of_decide_eq_true c2
        unfold kb_told_way_4
        walk_at "ev"
        obtain ⟨k, rfl⟩ : ∃ k, h = k + 1 := ⟨h - 1, by omega⟩
        rw [List.length_range, show ((k + 1 - 1 : Nat) : Int).toNat = k by omega, erase_end]
        have e1 : (((List.range (k + 1)).map v).map PyData.int)[k]? = some (.int (v k)) := by simp
        rw [e1]
        have e2 := ring_back (v := v) (k := k) s1
        have dl : ((List.range s).map fun j => v (k + 1 + j)).dropLast.length ≤ 1000 := by rw [List.length_dropLast, List.length_map, List.length_range]; omega
        walk_at "ev"
        refine ⟨⟨⟨by omega, by omega, by omega⟩, by omega, k, by omega, k, ?_, rfl, by omega, fun i hi => ?_⟩, by simp⟩
        · rw [← e2]
          rfl
        · by_cases hk : i = k
          · subst hk
            rw [show i + 1 + (s - 1) = i + s by omega, show i + 1 - 1 = i by omega] at c2
            exact c2.symm
          · exact hh i (by omega)
      · rw [← e]
        congr 1
        omega
    · cases h with
      | zero => omega
      | succ h => simp at c1
  unfold kr_told_way_8
  refine ⟨fun m γ => ∃ (s : Nat) (a b : Sl), γ = ⟨[.fz (dI ((List.range N).map v)), .fz (.int T), .fz (.int P), .fz (.int c), .ow true (dI ring), .fz (.int s), a, b, .jk, .jk], [], 0⟩ ∧ m = P - s ∧ 1 ≤ s ∧ s ≤ P ∧ (∀ d : Nat, 1 ≤ d → d < s → d ∣ P → ∀ c', ¬ Per v T d c'), ⟨_, 1, .jk, .jk, by rw [← hring]; rfl, rfl, by omega, p0, fun d d1 d2 => by omega⟩, ?_⟩
  rintro m γ ⟨s, a, b, rfl, rfl, s1, sP, no⟩
  walk_at "ev"
  refine iteB (fun cc => ?_) (fun cc => ?_)
  · have cc := of_decide_eq_true cc
    unfold kb_told_way_3
    walk_at "ev"
    have cs : -(1152921504606846976 * 1000) ≤ c * s ∧ c * s ≤ 1152921504606846976 * 1000 := by
      have a1 : c * s ≤ 1152921504606846976 * s := Int.mul_le_mul_of_nonneg_right c1 (by omega)
      have a2 : -1152921504606846976 * (s : Int) ≤ c * s := Int.mul_le_mul_of_nonneg_right c0 (by omega)
      omega
    refine ⟨cmulB_of (by omega) (by omega), ⟨by omega, by omega⟩, ?_⟩
    have next : ∀ De : KEd, (∀ γ2, (∃ m', m' < P - s ∧ ∃ (s : Nat) (a b : Sl), γ2 = (⟨[.fz (dI ((List.range N).map v)), .fz (.int T), .fz (.int P), .fz (.int c), .ow true (dI ring), .fz (.int s), a, b, .jk, .jk], [], 0⟩ : VSt) ∧ m' = P - s ∧ 1 ≤ s ∧ s ≤ P ∧ (∀ d : Nat, 1 ≤ d → d < s → d ∣ P → ∀ c', ¬ Per v T d c')) → De.nx γ2) → (s ∣ P → ∀ c', ¬ Per v T s c') → kr_told_way_1 ⟨[.fz (dI ((List.range N).map v)), .fz (.int T), .fz (.int P), .fz (.int c), .ow true (dI ring), .fz (.int s), .fz (.int (c * s / P)), .fz (.int (c * s % P)), .jk, .jk], [], 0⟩ De := fun De hN no1 => by
      unfold kr_told_way_1
      walk_at "ev"
      refine hN _ ⟨P - (s + 1), by omega, s + 1, _, _, rfl, rfl, by omega, by omega, fun d d1 d2 dd c' => ?_⟩
      by_cases hd : d = s
      · subst hd
        exact no1 dd c'
      · exact no d d1 (by omega) dd c'
    have rh := hp.ring p0 (l := s) s1
    walk_at "go"
    refine ⟨by omega, ?_⟩
    refine iteB (fun d1 => ?_) (fun d1 => next _ (fun γ2 h => h) fun hd => ?_)
    · have d1 := of_decide_eq_true d1
      have dv : s ∣ P := by
        have : (P % s : Nat) = 0 := by omega
        exact Nat.dvd_of_mod_eq_zero this
      have rh := rh dv
      refine iteB (fun d2 => ?_) (fun d2 => next _ (fun γ2 h => h) fun hd c' hc => of_decide_eq_false d2 (rh.mp ⟨c', hc⟩).1)
      have d2 := of_decide_eq_true d2
      refine ⟨ring, s, c * s / P, rfl, by omega, by omega, fun bb hb => ?_⟩
      have hb : bb = true ↔ ∃ c', Per v T s c' := by
        rw [hb, rh, rl]
        constructor
        · intro z
          refine ⟨d2, fun i hi => ?_⟩
          have := z i hi
          rwa [rg0 _ hi, rg0 _ (by omega)] at this
        · rintro ⟨_, z⟩ i hi
          rw [rg0 _ hi, rg0 _ (by omega)]
          exact z i hi
      cases bb with
      | true =>
        walk_at "ev"
        obtain ⟨c', hc⟩ := hb.mp rfl
        refine rest s _ _ s1 sP ?_ no
        exact hp.grow p0 s1 dv hc
      | false =>
        walk_at "ev"
        refine next _ (fun γ2 h => h) fun hd c' hc => ?_
        have := hb.mpr ⟨c', hc⟩
        cases this
    · have d1 := of_decide_eq_false d1
      obtain ⟨m, rfl⟩ := hd
      exact absurd (by simp) d1
  · have cc := of_decide_eq_false cc
    have : s = P := by omega
    subst this
    refine rest s a b s1 (Nat.le_refl _) ?_ no
    rw [Int.mul_ediv_cancel _ (by omega)]
    exact hp
theorem ok_told_way (p : Prog K mg) : FnG P w K mg base CX0 2 p.f_told_way p.fd_told_way ["numbers", "tail", "every", "more"] (spT w_told_way) :=
  okT p.d_told_way.F sc_told_way (by decide) ar_told_way (fun cdv A outer s H E hg hr => ⟨_, (pss_cons (ps_par (i := 4) (j := 5) rfl sc_told_way.nd rfl rfl (by decide) rfl rfl (pa_cons (pe_slice sl_list (pv 0) (po_some (pv 1)) (po_some (pe_op op_add (pv 1) (pv 2)))) (pa_cons pe_int pa_nil)) (by rfl))
      (pss_cons (ps_while PassesOwn.never (pt_cmpR op_lt (pv 5) (pv 2) (nomark _))
      (pss_cons (ps_asg (pe_callB call_divmod (by rfl) p.blt.divmod (by decide +kernel) (pa_cons (pe_op op_mulB (pv 3) (pv 5)) (pa_cons (pv 2) pa_nil))) (pg_tup rfl (pgs_cons (pg_name (i := 6) sc_told_way.nd rfl (Or.inl rfl)) (pgs_cons (pg_name (i := 7) sc_told_way.nd rfl (Or.inl rfl)) pgs_nil))))
      (pss_cons (ps_if (PW.pt (pw_and (pt_cmpR op_eq (pe_op op_mod (pv 2) (pv 5)) pe_int (nomark _)) (pw_and (pt_cmpR op_eq (pv 7) pe_int (nomark _)) (pw_and1 (pt_val (pe_callG ((ok_goes_on p).mono (by decide)) hg hr (by rfl) p.d_goes_on.gl p.d_goes_on.kp p.d_goes_on.bd pass0 (pa_cons (pv 4) (pa_cons (pv 5) (pa_cons (pv 6) pa_nil)))))))))
      (pss_one ps_break) pss_nil)
      (pss_one (ps_aug (i := 5) sc_told_way.nd rfl (Or.inl rfl) pe_int ip_add)))))
      (pss_cons (ps_par3 (i := 8) (j := 4) (l := 9) rfl sc_told_way.nd rfl rfl rfl (by decide) (by decide) (by decide) rfl rfl rfl (pa_cons (pe_op op_fdivW (pe_op op_mulB (pv 3) (pv 5)) (pv 2)) (pa_cons (pe_slice sl_list (pv 4) po_none (po_some (pv 5))) (pa_cons (pe_slice sl_list (pv 0) po_none (po_some (pv 1))) pa_nil))) (by rfl))
      (pss_cons (ps_while PassesOwn.never (PW.pt (pw_and (pt_cmpR (op_neD hr.units) (pv 9) (pe_lst pa_nil) (nomark _)) (pw_and1 (pt_cmpR op_eq (pe_op op_add (pe_ix ix_list (pv 9) (pe_un un_neg pe_int) (fun _ _ => rfl)) (pv 8)) (pe_ix ix_list (pv 4) (pe_un un_neg pe_int) (fun _ _ => rfl)) (nomark _)))))
      (pss_one (ps_set (i := 4) sc_told_way.nd rfl (Or.inl rfl) (pe_op op_cat (pe_lst (pa_cons (pe_bm0 PySem.F.plainAttrs_list PySem.F.slot_list_pop PySem.F.type_list_pop mt_pop (pv 9)) pa_nil)) (pe_slice sl_list (pv 4) po_none (po_some (pe_un un_neg pe_int)))))))
      (pss_one (ps_ret (pe_tup (pa_cons (pv 9) (pa_cons (pv 4) (pa_cons (pv 8) pa_nil)))))))))),
    fun C xc => (so_seq (so_par (i := 4) (j := 5) (by decide) (so_cons (so_sl (so_var (i := 0)) (so_part (so_var (i := 1))) (so_part (so_op sr_I0 (so_var (i := 1)) (so_var (i := 2))))) (so_cons (so_c (sca_int _)) so_nil)))
      (so_seq (so_while (so_test (so_op sr_B (so_var (i := 5)) (so_var (i := 2))))
      (so_seq (so_asg (so_divmod (so_cons (so_op sr_I (so_var (i := 3)) (so_var (i := 5))) (so_cons (so_var (i := 2)) so_nil))) (so_gtup (so_gcons (so_gname (i := 6)) (so_gcons (so_gname (i := 7)) so_gnil))))
      (so_seq (so_ifS (so_tand (so_test (so_op sr_eq (so_op sr_I (so_var (i := 2)) (so_var (i := 5))) (so_c (sca_int _)))) (so_tand (so_test (so_op sr_eq (so_var (i := 7)) (so_c (sca_int _)))) (so_test (so_callT (so_cons (so_var (i := 4)) (so_cons (so_var (i := 5)) (so_cons (so_var (i := 6)) so_nil)))))))
      so_break so_next)
      (so_aug (i := 5) (so_c (sca_int _))))))
      (so_seq (so_par3 (i := 8) (j := 4) (l := 9) (by decide) (by decide) (by decide) (so_cons (so_op sr_I (so_op sr_I (so_var (i := 3)) (so_var (i := 5))) (so_var (i := 2))) (so_cons (so_sl (so_var (i := 4)) so_no (so_part (so_var (i := 5)))) (so_cons (so_sl (so_var (i := 0)) so_no (so_part (so_var (i := 1)))) so_nil))))
      (so_seq (so_while (so_tand (so_test (so_op sr_neD (so_var (i := 9)) (so_lit_lst so_lits_nil))) (so_test (so_op sr_eq (so_op sr_I0 (so_ixL (so_var (i := 9)) (so_neg (so_c (sca_int _)))) (so_var (i := 8))) (so_ixL (so_var (i := 4)) (so_neg (so_c (sca_int _)))))))
      (so_asg (so_cat (so_lst (so_cons (so_pop (so_var (i := 9))) so_nil)) (so_sl (so_var (i := 4)) so_no (so_part (so_neg (so_c (sca_int _)))))) (so_gname (i := 4))))
      (so_ret (so_tup (so_cons (so_mov (i := 9)) (so_cons (so_mov (i := 4)) (so_cons (so_var (i := 8)) so_nil)))))))))⟩) val_told_way
def w_comes_again : Tw := fun ds Q => ∃ (n : Int) (gs : List Int), ds = [dE (n, gs)] ∧ Eff (n, gs) ∧ n ≤ 6 ∧ gs.length ≤ 1000 ∧ ∀ o, CO (leastE n gs) o → (∀ i p, o = some (i, p) → i + p ≤ 18) → Q (caD o)
theorem ar_comes_again : ∀ ds G, w_comes_again ds G → ds.length = 1 := by
  rintro ds G ⟨n, gs, rfl, _⟩
  rfl
def kr_comes_again_1 : KS := (kAsg (kLc (kIt true (kFrz 4)) 6 kYes (kIx true (kVar 2) (kOp (vI noC fun i j => i - j) (kVar 6) (kC (.int 1))))) (kgName 4))
def kb_comes_again_2 : KS := (kSeq (kDPut 3 (kLenD 3) (kTupOf (kCons (kVar 4) kNil)))
  kr_comes_again_1)
def kr_comes_again_3 : KS := (kRet (kMk false 2 (kCons (kVar 5) (kCons (kOp (vI noC fun i j => i - j) (kLenD 3) (kVar 5)) kNil))))
def kr_comes_again_4 : KS := (kSeq (kAsg (kDGet 3 (kTupOf (kCons (kVar 4) kNil))) (kgName 5))
  kr_comes_again_3)
def kr_comes_again_5 : KS := (kSeq (kWhile (kTest (kDIn true (kTupOf (kCons (kVar 4) kNil)) 3)) kb_comes_again_2)
  kr_comes_again_4)
def kr_comes_again_6 : KS := (kSeq (kPar 3 4 (kCons kDNewT (kCons (kListRg (kRg2 (kC (.int 1)) (kOp (vI noC fun i j => i + j) (kVar 1) (kC (.int 1))))) kNil)))
  kr_comes_again_5)
def kr_comes_again_7 : KS := (kSeq (kIfS (kTest (kOp (vEq true) (kVar 1) (kF 1 vLen (kCons (kVar 2) kNil))))
  (kRet (kC .none))
  kNext)
  kr_comes_again_6)
def k_comes_again : KS := (kSeq (kAsg (kCallT w_checked 1 (kCons (kVar 0) kNil)) (kgTup 2 (kgCons (kgName 1) (kgCons (kgName 2) kgNil))))
  kr_comes_again_7)
local macro_rules | `(tactic| walk_at "go") => `(tactic| ((first | unfold kr_comes_again_1 | unfold kr_comes_again_3 | unfold kr_comes_again_4 | unfold kr_comes_again_5 | unfold kr_comes_again_6 | unfold kr_comes_again_7); walk_at "ev"))
theorem val_comes_again : ∀ ds G, w_comes_again ds G → k_comes_again ⟨ds.map Sl.fz ++ [.jk, .jk, .jk, .jk, .jk, .jk], [], 0⟩ (edT G) := by
  rintro ds Gq ⟨n, gs, rfl, ef, n1, l1, q⟩
  have lk := leastE_ok ef
  unfold k_comes_again
  walk_at "ev"
  refine ⟨n, gs, rfl, ef, by omega, ?_⟩
  obtain ⟨⟨p, ps⟩, ep⟩ : ∃ e, leastE n gs = e := ⟨_, rfl⟩
  rw [ep] at lk q ⊢
  have epf : Eff (p, ps) := lk.eff
  have pn : p ≤ n := lk.le
  have pl : ps.length ≤ gs.length := lk.len
  have p0 : 0 ≤ p := epf.nn
  walk_at "ev"
  walk_at "go"
  refine iteB (fun c => ?_) (fun c => ?_)
  · exact q none (fun z => absurd (show p = (ps.length : Int) from z) (by simpa using c)) (fun i p h => nomatch h)
  have c : p = (ps.length : Int) := by simpa using c
  have s6 : p ≤ 6 := by omega
  have lrp := rg_length 1 (p + 1)
  walk_at "go"
  refine ⟨⟨by decide, by decide, by omega, by omega, by omega⟩, ?_⟩
  rw [← rowE_0 (e := (p, ps))]
  walk_at "go"
  refine ⟨fun m γ => ∃ t : Nat, m + t = 18 ∧ (∀ a b : Nat, a < b → b < t → rowE (p, ps) a ≠ rowE (p, ps) b) ∧ γ = ⟨[.fz (dE (n, gs)), .fz (.int p), .ow true (dI ps), .dt (mkDT (p, ps) t), .ow true (dI (rowE (p, ps) t)), .jk, .jk], [], 0⟩, ⟨18, 0, rfl, fun a b _ h => absurd h (by omega), rfl⟩, ?_⟩
  rintro m γ ⟨t, hm, hne, rfl⟩
  walk_at "ev"
  rw [keysD_ints]
  walk_at "ev"
  cases hv : valM (mkDT (p, ps) t) ((rowE (p, ps) t).map Sum.inl) with
  | none =>
    have no := mkDT_none hv
    have hne2 : ∀ a b : Nat, a < b → b < t + 1 → rowE (p, ps) a ≠ rowE (p, ps) b := fun a b h1 h2 => by
      by_cases h : b < t
      · exact hne a b h1 h
      · have : b = t := by omega
        subst this
        exact no a h1
    have ht : t + 1 ≤ 18 := by
      obtain ⟨a, b, h1, h2, h3⟩ := rows_again epf c s6
      apply Classical.byContradiction
      intro no2
      exact hne2 a b h1 (by omega) h3
    unfold kb_comes_again_2
    walk_at "ev"
    rw [keysD_ints]
    walk_at "ev"
    rw [mkDT_len, mkDT_put hv]
    refine ⟨by omega, ?_⟩
    have mem := fun s (h : s ∈ rowE (p, ps) t) => rowE_mem (e := (p, ps)) epf c h
    have ln : (rowE (p, ps) t).length ≤ 6 := by unfold rowE; rw [List.length_map, lrp]; omega
    have sc := rowE_succ (e := (p, ps)) epf c t
    walk_at "go"
    refine lc_ints' (rowE (p, ps) t) (fun s => ps.getD (s - 1).toNat 0) rfl rfl (by omega) (fun x hx acc Y hY => ?_) ?_
    · have := mem x hx
      walk_at "ev"
      refine ixD_ints (by omega) (by omega) ?_
      walk_at "ev"
      exact hY
    · walk_at "ev"
      rw [show ((rowE (p, ps) t).map fun s => ps.getD (s - 1).toNat 0) = rowE (p, ps) (t + 1) from sc]
      exact ⟨m - 1, by omega, t + 1, by omega, hne2, rfl⟩
  | some d =>
    obtain ⟨j, hj, hr, rfl⟩ := mkDT_some hv
    walk_at "go"
    rw [keysD_ints]
    walk_at "ev"
    rw [hv]
    walk_at "ev"
    refine ⟨_, rfl, ?_⟩
    walk_at "go"
    rw [mkDT_len]
    have := q (some (j, t - j)) ⟨c, ⟨by omega, by rw [show j + (t - j) = t by omega, hr], fun a b h1 h2 => hne a b h1 (by omega)⟩⟩ (fun i p h => by cases h; omega)
    rw [caD, show ((t - j : Nat) : Int) = (t : Int) - j by omega] at this
    exact this
theorem ok_comes_again (p : Prog K mg) : FnG P w K mg base CX0 3 p.f_comes_again p.fd_comes_again ["one"] (spT w_comes_again) :=
  okT p.d_comes_again.F sc_comes_again (by decide) ar_comes_again (fun cdv A outer s H E hg hr => ⟨_, (pss_cons (ps_asg (pe_callG ((ok_checked p).mono (by decide)) hg hr (by rfl) p.d_checked.gl p.d_checked.kp p.d_checked.bd pass0 (pa_cons (pv 0) pa_nil)) (pg_tup rfl (pgs_cons (pg_name (i := 1) sc_comes_again.nd rfl (Or.inl rfl)) (pgs_cons (pg_name (i := 2) sc_comes_again.nd rfl (Or.inr rfl)) pgs_nil))))
      (pss_cons (ps_if (pt_cmpR op_ne (pv 1) (pe_callB call_len_seq (by rfl) p.blt.len PySem.boot_len (pa_cons (pv 2) pa_nil)) (nomark _))
      (pss_one (ps_ret pe_non)) pss_nil)
      (pss_cons (ps_par (i := 3) (j := 4) rfl sc_comes_again.nd rfl rfl (by decide) rfl rfl (pa_cons pe_dnewT (pa_cons (pe_listRg rfl (by rfl) p.blt.list (prg_2 (by rfl) p.blt.range pe_int (pe_op op_add (pv 1) pe_int))) pa_nil)) (by rfl))
      (pss_cons (ps_while PassesOwn.never (pt_cmp (pc_dnotin (Nat.lt_of_le_of_lt (Nat.add_le_add_left (show 1 ≤ 64 by decide) _) hr.units) (pe_callTy call_tuple_of (by rfl) p.blt.tuple (by decide +kernel) (pa_cons (pv 4) pa_nil)) (pv 3)))
      (pss_cons (ps_dput (Nat.lt_of_le_of_lt (Nat.add_le_add_left (show 1 ≤ 64 by decide) _) hr.units) (pv 3) (pe_callTy call_tuple_of (by rfl) p.blt.tuple (by decide +kernel) (pa_cons (pv 4) pa_nil)) (pe_callB call_lenDT (by rfl) p.blt.len PySem.boot_len (pa_cons (pv 3) pa_nil)) (by rfl))
      (pss_one (ps_setLc (i := 4) (own := [("spot", 6)]) (g := gName 6) (tt := tYes) rfl sc_comes_again.nd rfl rfl (sw_true rfl rfl rfl (by decide +kernel)) (pi_list (pv 4)) (blkOk_by (N := N_comes_again) (sc := defScope s_comes_again) (by decide +kernel)) (fun _ _ _ _ _ => pg_name (i := 6) sc_comes_again.nd rfl (Or.inl rfl)) (fun _ _ _ _ _ => pts_nil) (fun _ _ _ _ _ => (pe_ix (show IxR _ (rIxL K) from ix_list) (pv 2) (pe_op op_sub (pv 6) pe_int) (fun _ _ => rfl)))))))
      (pss_cons (ps_set (i := 5) sc_comes_again.nd rfl (Or.inl rfl) (pe_dget (Nat.lt_of_le_of_lt (Nat.add_le_add_left (show 1 ≤ 64 by decide) _) hr.units) (pv 3) (pe_callTy call_tuple_of (by rfl) p.blt.tuple (by decide +kernel) (pa_cons (pv 4) pa_nil)) (fun _ _ => rfl)))
      (pss_one (ps_ret (pe_tup (pa_cons (pv 5) (pa_cons (pe_op op_sub (pe_callB call_lenDT (by rfl) p.blt.len PySem.boot_len (pa_cons (pv 3) pa_nil)) (pv 5)) pa_nil)))))))))),
    fun C xc => (so_seq (so_asg (so_callT (so_cons (so_var (i := 0)) so_nil)) (so_gtup (so_gcons (so_gname (i := 1)) (so_gcons (so_gname (i := 2)) so_gnil))))
      (so_seq (so_ifS (so_test (so_op sr_ne (so_var (i := 1)) (so_f sc_len (so_cons (so_var (i := 2)) so_nil))))
      (so_ret (so_c sca_non)) so_next)
      (so_seq (so_par (i := 3) (j := 4) (by decide) (so_cons so_dnewT (so_cons (so_listRg2 (so_c (sca_int _)) (so_op sr_I0 (so_var (i := 1)) (so_c (sca_int _)))) so_nil)))
      (so_seq (so_while (so_test (so_dnotin (i := 3) (so_tupOf (so_cons (so_var (i := 4)) so_nil))))
      (so_seq (so_dput (i := 3) (so_lenD (i := 3)) (so_tupOf (so_cons (so_var (i := 4)) so_nil)))
      (so_asg (so_lc (so_itL (so_frz (i := 4))) so_yes (so_ixL (so_var (i := 2)) (so_op sr_I0 (so_var (i := 6)) (so_c (sca_int _))))) (so_gname (i := 4)))))
      (so_seq (so_asg (so_dget (i := 3) (so_tupOf (so_cons (so_var (i := 4)) so_nil))) (so_gname (i := 5)))
      (so_ret (so_tup (so_cons (so_var (i := 5)) (so_cons (so_op sr_I0 (so_lenD (i := 3)) (so_var (i := 5))) so_nil)))))))))⟩) val_comes_again
def w_checked_course : Tw := fun ds Q => ∃ a b c : Int × List Int, ds = [dC a b c] ∧ (Eff a ∧ Eff b ∧ Eff c) ∧ (a.2.length ≤ 1000000 ∧ b.2.length ≤ 1000000 ∧ c.2.length ≤ 1000000) ∧ Q (dC (leastE a.1 a.2) (leastE b.1 b.2) (leastE c.1 c.2))
theorem ar_checked_course : ∀ ds G, w_checked_course ds G → ds.length = 1 := by
  rintro ds G ⟨a, b, c, rfl, _⟩
  rfl
def kr_checked_course_1 : KS := (kRet (kMk false 3 (kCons (kMov 4) (kCons (kMov 5) (kCons (kCallT w_checked 1 (kCons (kVar 3) kNil)) kNil)))))
def kr_checked_course_2 : KS := (kSeq (kAsg (kCallT w_checked 1 (kCons (kVar 2) kNil)) (kgName 5))
  kr_checked_course_1)
def kr_checked_course_3 : KS := (kSeq (kAsg (kCallT w_checked 1 (kCons (kVar 1) kNil)) (kgName 4))
  kr_checked_course_2)
def k_checked_course : KS := (kSeq (kAsg (kFrz 0) (kgTup 3 (kgCons (kgName 1) (kgCons (kgName 2) (kgCons (kgName 3) kgNil)))))
  kr_checked_course_3)
local macro_rules | `(tactic| walk_at "go") => `(tactic| ((first | unfold kr_checked_course_1 | unfold kr_checked_course_2 | unfold kr_checked_course_3); walk_at "ev"))
theorem val_checked_course : ∀ ds G, w_checked_course ds G → k_checked_course ⟨ds.map Sl.fz ++ [.jk, .jk, .jk, .jk, .jk], [], 0⟩ (edT G) := by
  rintro ds Gq ⟨a, b, c, rfl, ⟨ea, eb, ec⟩, ⟨la, lb, lc⟩, q⟩
  unfold k_checked_course
  walk_at "ev"
  walk_at "go"
  refine ⟨a.1, a.2, rfl, ea, la, ?_⟩
  walk_at "ev"
  walk_at "go"
  refine ⟨b.1, b.2, rfl, eb, lb, ?_⟩
  walk_at "ev"
  walk_at "go"
  refine ⟨c.1, c.2, rfl, ec, lc, ?_⟩
  walk_at "ev"
  exact q
theorem ok_checked_course (p : Prog K mg) : FnG P w K mg base CX0 3 p.f_checked_course p.fd_checked_course ["course"] (spT w_checked_course) :=
  okT p.d_checked_course.F sc_checked_course (by decide) ar_checked_course (fun cdv A outer s H E hg hr => ⟨_, (pss_cons (ps_asg (pv 0) (pg_tup rfl (pgs_cons (pg_name (i := 1) sc_checked_course.nd rfl (Or.inl rfl)) (pgs_cons (pg_name (i := 2) sc_checked_course.nd rfl (Or.inl rfl)) (pgs_cons (pg_name (i := 3) sc_checked_course.nd rfl (Or.inl rfl)) pgs_nil)))))
      (pss_cons (ps_set (i := 4) sc_checked_course.nd rfl (Or.inl rfl) (pe_callG ((ok_checked p).mono (by decide)) hg hr (by rfl) p.d_checked.gl p.d_checked.kp p.d_checked.bd pass0 (pa_cons (pv 1) pa_nil)))
      (pss_cons (ps_set (i := 5) sc_checked_course.nd rfl (Or.inl rfl) (pe_callG ((ok_checked p).mono (by decide)) hg hr (by rfl) p.d_checked.gl p.d_checked.kp p.d_checked.bd pass0 (pa_cons (pv 2) pa_nil)))
      (pss_one (ps_ret (pe_tup (pa_cons (pv 4) (pa_cons (pv 5) (pa_cons (pe_callG ((ok_checked p).mono (by decide)) hg hr (by rfl) p.d_checked.gl p.d_checked.kp p.d_checked.bd pass0 (pa_cons (pv 3) pa_nil)) pa_nil))))))))),
    fun C xc => (so_seq (so_asg (so_frz (i := 0)) (so_gtup (so_gcons (so_gname (i := 1)) (so_gcons (so_gname (i := 2)) (so_gcons (so_gname (i := 3)) so_gnil)))))
      (so_seq (so_asg (so_callT (so_cons (so_var (i := 1)) so_nil)) (so_gname (i := 4)))
      (so_seq (so_asg (so_callT (so_cons (so_var (i := 2)) so_nil)) (so_gname (i := 5)))
      (so_ret (so_tup (so_cons (so_mov (i := 4)) (so_cons (so_mov (i := 5)) (so_cons (so_callT (so_cons (so_var (i := 3)) so_nil)) so_nil))))))))⟩) val_checked_course
def w_effect_of_course : Tw := fun ds Q => ∃ (a b c : Int × List Int) (k : Int), ds = [dC a b c, .int k] ∧ (Eff a ∧ Eff b ∧ Eff c) ∧ Lst b ∧ 0 ≤ k ∧ k ≤ 450 ∧ (a.1 ≤ 20 ∧ b.1 ≤ 20 ∧ c.1 ≤ 20) ∧ (a.2.length ≤ 20 ∧ b.2.length ≤ 20 ∧ c.2.length ≤ 20) ∧ Q (dE (crE a b c k.toNat))
theorem ar_effect_of_course : ∀ ds G, w_effect_of_course ds G → ds.length = 2 := by
  rintro ds G ⟨a, b, c, k, rfl, _⟩
  rfl
def kr_effect_of_course_1 : KS := (kRet (kCallT w_join_of 2 (kCons (kCallT w_join_of 2 (kCons (kVar 2) (kCons (kCallT w_power_of 2 (kCons (kVar 3) (kCons (kVar 1) kNil))) kNil))) (kCons (kVar 4) kNil))))
def k_effect_of_course : KS := (kSeq (kAsg (kFrz 0) (kgTup 3 (kgCons (kgName 2) (kgCons (kgName 3) (kgCons (kgName 4) kgNil)))))
  kr_effect_of_course_1)
local macro_rules | `(tactic| walk_at "go") => `(tactic| ((first | unfold kr_effect_of_course_1); walk_at "ev"))
theorem val_effect_of_course : ∀ ds G, w_effect_of_course ds G → k_effect_of_course ⟨ds.map Sl.fz ++ [.jk, .jk, .jk], [], 0⟩ (edT G) := by
  rintro ds Gq ⟨a, b, c, k, rfl, ⟨ea, eb, ec⟩, lb, k0, k1, ⟨na, nb, nc⟩, ⟨la, l2, l3⟩, q⟩
  unfold k_effect_of_course
  walk_at "ev"
  walk_at "go"
  refine ⟨b.1, b.2, k, rfl, eb, lb, k0, k1, nb, l2, ?_⟩
  have pe := pow_eff eb k.toNat
  have pb := pow_bd eb k.toNat
  have b0 := eb.nn
  have p1 : (powE b k.toNat).1 ≤ 9000 := Int.le_trans pb.1 (Int.le_trans (Int.mul_le_mul (show ((k.toNat : Nat) : Int) ≤ 450 by omega) nb b0 (by decide)) (by decide))
  have p2 : (powE b k.toNat).2.length ≤ 9000 := Nat.le_trans pb.2 (Nat.le_trans (Nat.mul_le_mul (show k.toNat ≤ 450 by omega) l2) (by decide))
  have jb := join_bd ea pe
  have je := join_eff ea pe
  have j1 := jb.1
  have j2 := jb.2
  walk_at "ev"
  refine ⟨a.1, a.2, (powE b k.toNat).1, (powE b k.toNat).2, rfl, ea, pe, by omega, by omega, by omega, by omega, ?_⟩
  walk_at "ev"
  refine ⟨(joinE a (powE b k.toNat)).1, (joinE a (powE b k.toNat)).2, c.1, c.2, rfl, je, ec, by omega, by omega, by omega, by omega, ?_⟩
  walk_at "ev"
  exact q
theorem ok_effect_of_course (p : Prog K mg) : FnG P w K mg base CX0 4 p.f_effect_of_course p.fd_effect_of_course ["course", "number"] (spT w_effect_of_course) :=
  okT p.d_effect_of_course.F sc_effect_of_course (by decide) ar_effect_of_course (fun cdv A outer s H E hg hr => ⟨_, (pss_cons (ps_asg (pv 0) (pg_tup rfl (pgs_cons (pg_name (i := 2) sc_effect_of_course.nd rfl (Or.inl rfl)) (pgs_cons (pg_name (i := 3) sc_effect_of_course.nd rfl (Or.inl rfl)) (pgs_cons (pg_name (i := 4) sc_effect_of_course.nd rfl (Or.inl rfl)) pgs_nil)))))
      (pss_one (ps_ret (pe_callG ((ok_join_of p).mono (by decide)) hg hr (by rfl) p.d_join_of.gl p.d_join_of.kp p.d_join_of.bd pass0 (pa_cons (pe_callG ((ok_join_of p).mono (by decide)) hg hr (by rfl) p.d_join_of.gl p.d_join_of.kp p.d_join_of.bd pass0 (pa_cons (pv 2) (pa_cons (pe_callG ((ok_power_of p).mono (by decide)) hg hr (by rfl) p.d_power_of.gl p.d_power_of.kp p.d_power_of.bd pass0 (pa_cons (pv 3) (pa_cons (pv 1) pa_nil))) pa_nil))) (pa_cons (pv 4) pa_nil)))))),
    fun C xc => (so_seq (so_asg (so_frz (i := 0)) (so_gtup (so_gcons (so_gname (i := 2)) (so_gcons (so_gname (i := 3)) (so_gcons (so_gname (i := 4)) so_gnil)))))
      (so_ret (so_callT (so_cons (so_callT (so_cons (so_var (i := 2)) (so_cons (so_callT (so_cons (so_var (i := 3)) (so_cons (so_var (i := 1)) so_nil))) so_nil))) (so_cons (so_var (i := 4)) so_nil)))))⟩) val_effect_of_course
def w_comes_round : Tw := fun ds Q => ∃ a b c : Int × List Int, ds = [dC a b c] ∧ Few a b c ∧ ((leastE b.1 b.2).1 ≠ (leastE b.1 b.2).2.length → Q .none) ∧ ((leastE b.1 b.2).1 = (leastE b.1 b.2).2.length → ∀ (h L : Nat) (g : Int), Tell (fsV (crE a b c)) h L g → Q (.tuple [.int h, .int L]))
theorem ar_comes_round : ∀ ds G, w_comes_round ds G → ds.length = 1 := by
  rintro ds G ⟨a, b, c, rfl, _⟩
  rfl
def kr_comes_round_1 : KS := (kRet (kMk false 2 (kCons (kF 1 vLen (kCons (kVar 4) kNil)) (kCons (kF 1 vLen (kCons (kVar 5) kNil)) kNil))))
def kr_comes_round_2 : KS := (kSeq (kAsg (kCallT w_told_way 4 (kCons (kLc (kIt true (kFrz 3)) 8 kYes (kM 1 vIdxD (kVar 3) (kCons (kVar 8) kNil))) (kCons (kIx false (kVar 2) (kC (.int 0))) (kCons (kIx false (kVar 2) (kC (.int 1))) (kCons (kC (.int 0)) kNil))))) (kgTup 3 (kgCons (kgName 4) (kgCons (kgName 5) (kgCons (kgName 6) kgNil)))))
  kr_comes_round_1)
def kr_comes_round_3 : KS := (kSeq (kAsg (kLc (kRng1 (kF 1 vSumT (kCons (kVar 2) kNil))) 7 kYes (kCallT w_effect_of_course 2 (kCons (kVar 1) (kCons (kVar 7) kNil)))) (kgName 3))
  kr_comes_round_2)
def kr_comes_round_4 : KS := (kSeq (kIfS (kTest (kOp (vIsN false) (kVar 2) (kC .none)))
  (kRet (kC .none))
  kNext)
  kr_comes_round_3)
def kr_comes_round_5 : KS := (kSeq (kAsg (kCallT w_comes_again 1 (kCons (kIx false (kVar 1) (kC (.int 1))) kNil)) (kgName 2))
  kr_comes_round_4)
def k_comes_round : KS := (kSeq (kAsg (kCallT w_checked_course 1 (kCons (kVar 0) kNil)) (kgName 1))
  kr_comes_round_5)
local macro_rules | `(tactic| walk_at "go") => `(tactic| ((first | unfold kr_comes_round_1 | unfold kr_comes_round_2 | unfold kr_comes_round_3 | unfold kr_comes_round_4 | unfold kr_comes_round_5); walk_at "ev"))
theorem val_comes_round : ∀ ds G, w_comes_round ds G → k_comes_round ⟨ds.map Sl.fz ++ [.jk, .jk, .jk, .jk, .jk, .jk, .jk, .jk], [], 0⟩ (edT G) := by
  rintro ds Gq ⟨a, b, c, rfl, h, qn, qs⟩
  unfold k_comes_round
  walk_at "ev"
  obtain ⟨ea, eb, ec, na, nb, nc, la, lb, lc⟩ := id h
  refine ⟨a, b, c, rfl, ⟨ea, eb, ec⟩, ⟨by omega, by omega, by omega⟩, ?_⟩
  have ka := leastE_ok (n := a.1) (gs := a.2) ea
  have kb := leastE_ok (n := b.1) (gs := b.2) eb
  have kc := leastE_ok (n := c.1) (gs := c.2) ec
  obtain ⟨_, _, _, na', nb', nc', la', lb', lc'⟩ := h.least
  walk_at "ev"
  walk_at "go"
  refine ⟨(leastE b.1 b.2).1, (leastE b.1 b.2).2, rfl, kb.eff, by omega, by omega, fun o co ob => ?_⟩
  have kb2 : leastE (leastE b.1 b.2).1 (leastE b.1 b.2).2 = leastE b.1 b.2 := kb.lst
  rw [kb2] at co
  cases o with
  | none =>
    unfold caD
    walk_at "ev"
    walk_at "go"
    exact qn co
  | some x =>
  obtain ⟨i, p⟩ := x
  obtain ⟨hl, ca⟩ := co
  have ip := ob i p rfl
  have pp := ca.pos
  unfold caD
  walk_at "ev"
  walk_at "go"
  walk_at "go"
  rw [show intsOf [PyData.int (i : Int), PyData.int (p : Int)] = some [(i : Int), (p : Int)] from rfl]
  walk_at "ev"
  obtain ⟨N, hN⟩ : ∃ N : Nat, i + p = N := ⟨_, rfl⟩
  rw [show [(i : Int), (p : Int)].sum = (N : Int) by simp; omega]
  refine ⟨⟨by omega, by omega⟩, ?_⟩
  have lrg := rg_length 0 (N : Int)
  refine lc_inv (j := 7) true (rg 0 N) PyData.int (fun pre acc n => acc = (List.range pre.length).map (fun k => dE (crE a b c k)) ∧ pre.length ≤ N ∧ n = 0) rfl rfl (fun pre acc n hp => ?_) (fun pre x post acc n Y X hl hp hY hX => ?_) (fun acc n hp => ?_) [] 0 ⟨rfl, by simp, rfl⟩
  · obtain ⟨rfl, h1, _⟩ := hp
    rw [List.length_map, List.length_range]
    omega
  · obtain ⟨rfl, h1, rfl⟩ := hp
    obtain ⟨ex, hx⟩ := rg_mid hl
    walk_at "ev"
    refine ⟨_, _, _, x, rfl, ⟨ka.eff, kb.eff, kc.eff⟩, kb.lst, by omega, by omega, ⟨by omega, by omega, by omega⟩, ⟨by omega, by omega, by omega⟩, ?_⟩
    rw [crE_least ea eb ec]
    refine hY _ true _ _ rfl rfl ⟨?_, ?_, rfl⟩
    · rw [List.length_append, List.length_singleton, List.range_succ, List.map_append, List.map_singleton]
      rw [show x.toNat = pre.length by omega]
    · rw [List.length_append, List.length_singleton]
      omega
  obtain ⟨rfl, _, rfl⟩ := hp
  rw [lrg, show ((N : Int) - 0).toNat = N by omega]
  have per : Per (fsV (crE a b c)) i p 0 := by
    rw [← crE_fun ea eb ec]
    exact crs_per ka.eff kb.eff kc.eff hl ca.back
  have big : ∀ k : Nat, k < N → Sh 3 1700000 (dE (crE a b c k)) := fun k hk => by
    have bd := crE_bd ea eb ec k
    have b0 := eb.nn
    have m1 : (k : Int) * b.1 ≤ 18 * 6 := Int.mul_le_mul (by omega) (by omega) b0 (by omega)
    have m2 : k * b.2.length ≤ 18 * 20 := Nat.mul_le_mul (by omega) lb
    exact sh_effE (crE_eff ea eb ec k) (by omega) (by omega)
  have few : ∀ k : Nat, k < N → fsI (crE a b c) k < N := fun k hk => by
    have := (fsI_ok (crE a b c) k).1
    omega
  walk_at "ev"
  walk_at "go"
  refine lc_inv (j := 8) true (List.range N) (fun k => dE (crE a b c k)) (fun pre acc n => acc = ((List.range pre.length).map (fsV (crE a b c))).map PyData.int ∧ pre.length ≤ N ∧ n = 0) rfl rfl (fun pre acc n hp => ?_) (fun pre k post acc n Y X hl hp hY hX => ?_) (fun acc n hp => ?_) [] 0 ⟨rfl, by simp, rfl⟩
  · obtain ⟨rfl, h1, _⟩ := hp
    rw [List.length_map, List.length_map, List.length_range]
    omega
  · obtain ⟨rfl, h1, rfl⟩ := hp
    obtain ⟨ek, hk⟩ := range_mid hl
    have ok := fsI_ok (crE a b c) k
    have bk := big k hk
    have fk := few k hk
    walk_at "ev"
    refine ⟨fsI (crE a b c) k, ⟨shaped_dE _, Nat.le_trans bk.dp (by decide)⟩, lay_crs _ _, ⟨dE (crE a b c (fsI (crE a b c) k)), ?_, ?_⟩, fun m e hm he => ?_, by omega, ?_⟩
    · rw [List.getElem?_map, List.getElem?_range fk]
      rfl
    · rw [eqv_dE, ok.2.1]
      exact decide_eq_true rfl
    · rw [List.getElem?_map, List.getElem?_range (by omega)] at he
      obtain rfl : dE (crE a b c m) = e := by simpa using he
      rw [eqv_dE]
      exact decide_eq_false (ok.2.2 m hm)
    refine hY _ true _ _ rfl rfl ⟨?_, ?_, rfl⟩
    · rw [List.length_append, List.length_singleton, List.range_succ, List.map_append, List.map_append, List.map_singleton, ← ek]
      rfl
    · rw [List.length_append, List.length_singleton]
      omega
  obtain ⟨rfl, _, rfl⟩ := hp
  rw [List.length_range]
  walk_at "ev"
  refine ⟨fsV (crE a b c), N, i, p, 0, rfl, by omega, per, by omega, by omega, by omega, by decide, by decide, fun h L g t hT hL => ?_⟩
  walk_at "ev"
  walk_at "go"
  rw [List.length_range, List.length_range]
  exact qs hl h L g t
theorem ok_comes_round (p : Prog K mg) : FnG P w K mg base CX0 5 p.f_comes_round p.fd_comes_round ["course"] (spT w_comes_round) :=
  okT p.d_comes_round.F sc_comes_round (by decide) ar_comes_round (fun cdv A outer s H E hg hr => ⟨_, (pss_cons (ps_set (i := 1) sc_comes_round.nd rfl (Or.inr rfl) (pe_callG ((ok_checked_course p).mono (by decide)) hg hr (by rfl) p.d_checked_course.gl p.d_checked_course.kp p.d_checked_course.bd pass0 (pa_cons (pv 0) pa_nil)))
      (pss_cons (ps_set (i := 2) sc_comes_round.nd rfl (Or.inl rfl) (pe_callG ((ok_comes_again p).mono (by decide)) hg hr (by rfl) p.d_comes_again.gl p.d_comes_again.kp p.d_comes_again.bd pass0 (pa_cons (pe_ix ix_tup (pv 1) pe_int (fun _ _ => rfl)) pa_nil)))
      (pss_cons (ps_if (pt_cmpR op_isN (pv 2) pe_non (nomark _))
      (pss_one (ps_ret pe_non)) pss_nil)
      (pss_cons (ps_set (i := 3) sc_comes_round.nd rfl (Or.inr rfl) (pe_lc (own := [("number", 7)]) (g := gName 7) (tt := tYes) rfl sc_comes_round.nd (pi_range1 (by rfl) p.blt.range (pa_cons (pe_callB (cr_sumT rfl) (by rfl) p.blt.sum (by decide +kernel) (pa_cons (pv 2) pa_nil)) pa_nil)) (blkOk_by (N := N_comes_round) (sc := defScope s_comes_round) (by decide +kernel)) (fun _ _ _ _ _ => pg_name (i := 7) sc_comes_round.nd rfl (Or.inl rfl)) (fun _ _ _ _ _ => pts_nil) (fun _ _ _ _ _ => (pe_callG ((ok_effect_of_course p).mono (by decide)) hg hr (by rfl) p.d_effect_of_course.gl p.d_effect_of_course.kp p.d_effect_of_course.bd pass0 (pa_cons (pv 1) (pa_cons (pv 7) pa_nil))))))
      (pss_cons (ps_asg (pe_callG ((ok_told_way p).mono (by decide)) hg hr (by rfl) p.d_told_way.gl p.d_told_way.kp p.d_told_way.bd pass0 (pa_cons (pe_lc (own := [("row", 8)]) (g := gName 8) (tt := tYes) rfl sc_comes_round.nd (pi_list (pv 3)) (blkOk_by (N := N_comes_round) (sc := defScope s_comes_round) (by decide +kernel)) (fun _ _ _ _ _ => pg_name (i := 8) sc_comes_round.nd rfl (Or.inl rfl)) (fun _ _ _ _ _ => pts_nil) (fun _ _ _ _ _ => (pe_bm PySem.F.plainAttrs_list PySem.F.slot_list_index PySem.F.type_list_index (mt_indexD hr.units) (pv 3) (pa_cons (pv 8) pa_nil)))) (pa_cons (pe_ix ix_tup (pv 2) pe_int (fun _ _ => rfl)) (pa_cons (pe_ix ix_tup (pv 2) pe_int (fun _ _ => rfl)) (pa_cons pe_int pa_nil))))) (pg_tup rfl (pgs_cons (pg_name (i := 4) sc_comes_round.nd rfl (Or.inl rfl)) (pgs_cons (pg_name (i := 5) sc_comes_round.nd rfl (Or.inl rfl)) (pgs_cons (pg_name (i := 6) sc_comes_round.nd rfl (Or.inl rfl)) pgs_nil)))))
      (pss_one (ps_ret (pe_tup (pa_cons (pe_callB call_len_seq (by rfl) p.blt.len PySem.boot_len (pa_cons (pv 4) pa_nil)) (pa_cons (pe_callB call_len_seq (by rfl) p.blt.len PySem.boot_len (pa_cons (pv 5) pa_nil)) pa_nil)))))))))),
    fun C xc => (so_seq (so_asg (so_callT (so_cons (so_var (i := 0)) so_nil)) (so_gname (i := 1)))
      (so_seq (so_asg (so_callT (so_cons (so_ixT (so_var (i := 1)) (so_c (sca_int _))) so_nil)) (so_gname (i := 2)))
      (so_seq (so_ifS (so_test (so_op sr_isN (so_var (i := 2)) (so_c sca_non)))
      (so_ret (so_c sca_non)) so_next)
      (so_seq (so_asg (so_lc (so_rng1 (so_f sc_sumT (so_cons (so_var (i := 2)) so_nil))) so_yes (so_callT (so_cons (so_var (i := 1)) (so_cons (so_var (i := 7)) so_nil)))) (so_gname (i := 3)))
      (so_seq (so_asg (so_callT (so_cons (so_lc (so_itL (so_frz (i := 3))) so_yes (so_m sm_indexD (so_var (i := 3)) (so_cons (so_var (i := 8)) so_nil))) (so_cons (so_ixT (so_var (i := 2)) (so_c (sca_int _))) (so_cons (so_ixT (so_var (i := 2)) (so_c (sca_int _))) (so_cons (so_c (sca_int _)) so_nil))))) (so_gtup (so_gcons (so_gname (i := 4)) (so_gcons (so_gname (i := 5)) (so_gcons (so_gname (i := 6)) so_gnil)))))
      (so_ret (so_tup (so_cons (so_f sc_len (so_cons (so_var (i := 4)) so_nil)) (so_cons (so_f sc_len (so_cons (so_var (i := 5)) so_nil)) so_nil)))))))))⟩) val_comes_round
def w_turns_all : Tw := fun ds Q => ∃ (e : Int × List Int) (ps : List (List Str × List Str)), ds = [dE e, .list (ps.map pairD)] ∧ Eff e ∧ e.2.length ≤ 1000 ∧ ps.length ≤ 1000 ∧ (∀ p ∈ ps, p.1.length ≤ 1000 ∧ (∀ s ∈ p.1, PyData.strOk s = true) ∧ ∀ s ∈ p.2, PyData.strOk s = true) ∧ Q (.bool (ps.all (fitP e)))
theorem ar_turns_all : ∀ ds G, w_turns_all ds G → ds.length = 2 := by
  rintro ds G ⟨e, ps, rfl, _⟩
  rfl
def kb_turns_all_1 : KS := (kIfS (kTOr (kTest (kOp (vB fun i j => decide (j < i)) (kIx false (kVar 0) (kC (.int 0))) (kF 1 vLen (kCons (kVar 2) kNil)))) (kTest (kOp (vEqD true) (kCallT w_shifted 2 (kCons (kVar 0) (kCons (kVar 2) kNil))) (kVar 3))))
  (kRet (kC (.bool false)))
  kNext)
def kr_turns_all_2 : KS := (kRet (kC (.bool true)))
def k_turns_all : KS := (kSeq (kFor (kIt true (kFrz 1)) (kgTup 2 (kgCons (kgName 2) (kgCons (kgName 3) kgNil))) kb_turns_all_1)
  kr_turns_all_2)
local macro_rules | `(tactic| walk_at "go") => `(tactic| ((first | unfold kr_turns_all_2); walk_at "ev"))
theorem val_turns_all : ∀ ds G, w_turns_all ds G → k_turns_all ⟨ds.map Sl.fz ++ [.jk, .jk], [], 0⟩ (edT G) := by
  rintro ds Gq ⟨e, ps, rfl, ef, le, lp, hp, q⟩
  unfold k_turns_all
  walk_at "ev"
  have go : ∀ ps' : List (List Str × List Str), True := fun _ => trivial
  refine forL_inv ps pairD (fun pre γ => pre.all (fitP e) = true ∧ ∃ u v : Sl, γ = ⟨[.fz (dE e), .fz (.list (ps.map pairD)), u, v], [.fz (.list (ps.map pairD))], 0⟩) (fun pre x post γ N hl ht hP hN => ?_) (fun γ ht hP => ?_) _ rfl ⟨rfl, _, _, rfl⟩
  · obtain ⟨hall, u, v, rfl⟩ := hP
    have hx : x ∈ ps := by rw [hl]; simp
    obtain ⟨xl, xo, xo2⟩ := hp x hx
    unfold kb_turns_all_1
    walk_at "ev"
    have bad : fitP e x = false → Gq (.bool false) := fun hf => by
      have : ps.all (fitP e) = false := by
        rw [List.all_eq_false]
        exact ⟨x, hx, by simp [hf]⟩
      rw [this] at q
      exact q
    refine iteB (fun c1 => ?_) (fun c1 => ?_)
    · have c1 := of_decide_eq_true c1
      exact bad (by unfold fitP; rw [decide_eq_false (by omega)]; rfl)
    · have c1 := of_decide_eq_false c1
      refine ⟨e, x.1, rfl, ef, by omega, by omega, by omega, ?_⟩
      walk_at "ev"
      refine ⟨shaped_strs fun s hs => xo s (doS_mem hs), shaped_strs xo2, ?_⟩
      rw [eqv_strs]
      refine iteB (fun c2 => ?_) (fun c2 => ?_)
      · have c2 : doS e x.1 ≠ x.2 := by simpa using c2
        exact bad (by unfold fitP; rw [decide_eq_false c2, Bool.and_false])
      · have c2 : doS e x.1 = x.2 := by simpa using c2
        refine hN _ rfl ⟨?_, .fz (dS x.1), .fz (dS x.2), rfl⟩
        rw [List.all_append, hall]
        simp only [List.all_cons, List.all_nil, Bool.and_true, Bool.true_and]
        unfold fitP
        rw [decide_eq_true c2, decide_eq_true (by omega)]
        rfl
  · obtain ⟨hall, u, v, rfl⟩ := hP
    walk_at "go"
    rw [hall] at q
    exact q
theorem ok_turns_all (p : Prog K mg) : FnG P w K mg base CX0 2 p.f_turns_all p.fd_turns_all ["one", "seen"] (spT w_turns_all) :=
  okT p.d_turns_all.F sc_turns_all (by decide) ar_turns_all (fun cdv A outer s H E hg hr => ⟨_, (pss_cons (ps_for PassesOwn.never rfl (pi_list (pv 1)) (pg_tup rfl (pgs_cons (pg_name (i := 2) sc_turns_all.nd rfl (Or.inl rfl)) (pgs_cons (pg_name (i := 3) sc_turns_all.nd rfl (Or.inl rfl)) pgs_nil)))
      (pss_one (ps_if (PW.pt (pw_or (pt_cmpR op_gt (pe_ix ix_tup (pv 0) pe_int (fun _ _ => rfl)) (pe_callB call_len_seq (by rfl) p.blt.len PySem.boot_len (pa_cons (pv 2) pa_nil)) (nomark _)) (pw_or1 (pt_cmpR (op_neD hr.units) (pe_callG ((ok_shifted p).mono (by decide)) hg hr (by rfl) p.d_shifted.gl p.d_shifted.kp p.d_shifted.bd pass0 (pa_cons (pv 0) (pa_cons (pv 2) pa_nil))) (pv 3) (nomark _)))))
      (pss_one (ps_ret pe_bl)) pss_nil)))
      (pss_one (ps_ret pe_bl))),
    fun C xc => (so_seq (so_for (so_itL (so_frz (i := 1))) (so_gtup (so_gcons (so_gname (i := 2)) (so_gcons (so_gname (i := 3)) so_gnil)))
      (so_ifS (so_tor (so_test (so_op sr_B (so_ixT (so_var (i := 0)) (so_c (sca_int _))) (so_f sc_len (so_cons (so_var (i := 2)) so_nil)))) (so_test (so_op sr_neD (so_callT (so_cons (so_var (i := 0)) (so_cons (so_var (i := 2)) so_nil))) (so_var (i := 3)))))
      (so_ret (so_c (sca_bl _))) so_next))
      (so_ret (so_c (sca_bl _))))⟩) val_turns_all
def w_mark_way : Tw := fun ds Q => ∃ (v : Nat → Int) (T P : Nat), ds = [dI ((List.range T).map v), dI ((List.range P).map fun j => v (T + j))] ∧ Per v T P 0 ∧ 1 ≤ P ∧ P ≤ 1000 ∧ T ≤ 1000 ∧
  ∀ (h L : Nat), Tell v h L 0 → h ≤ T → L ≤ P → Q (wayD ((List.range h).map v) ((List.range L).map fun j => v (h + j)))
theorem ar_mark_way : ∀ ds G, w_mark_way ds G → ds.length = 2 := by
  rintro ds G ⟨v, T, P, rfl, _⟩
  rfl
def kb_mark_way_1 : KS := (kAug 2 (fun i j => i + j) (kC (.int 1)))
def kr_mark_way_2 : KS := (kAsg (kSl (kVar 0) kNo (kPart (kUn vNeg (kC (.int 1))))) (kgName 0))
def kb_mark_way_3 : KS := (kSeq (kAsg (kStarF (kIx true (kVar 1) (kUn vNeg (kC (.int 1)))) (kSl (kVar 1) kNo (kPart (kUn vNeg (kC (.int 1)))))) (kgName 1))
  kr_mark_way_2)
def kr_mark_way_4 : KS := (kRet (kMk false 3 (kCons (kMov 0) (kCons (kMov 1) (kCons (kC (.int 0)) kNil)))))
def kr_mark_way_5 : KS := (kSeq (kWhile (kTAnd (kTest (kOp (vB fun i j => decide (j < i)) (kF 1 vLen (kCons (kVar 0) kNil)) (kC (.int 0)))) (kTest (kOp (vEq false) (kIx true (kVar 0) (kUn vNeg (kC (.int 1)))) (kIx true (kVar 1) (kUn vNeg (kC (.int 1))))))) kb_mark_way_3)
  kr_mark_way_4)
def kr_mark_way_6 : KS := (kSeq (kAsg (kSl (kVar 1) kNo (kPart (kVar 2))) (kgName 1))
  kr_mark_way_5)
def kr_mark_way_7 : KS := (kSeq (kWhile (kTest (kOp (vEqD true) (kRepM (kSl (kVar 1) kNo (kPart (kVar 2))) (kOp (vI CDivW fun i j => i / j) (kF 1 vLen (kCons (kVar 1) kNil)) (kVar 2))) (kVar 1))) kb_mark_way_1)
  kr_mark_way_6)
def k_mark_way : KS := (kSeq (kAsg (kC (.int 1)) (kgName 2))
  kr_mark_way_7)
local macro_rules | `(tactic| walk_at "go") => `(tactic| ((first | unfold kr_mark_way_2 | unfold kr_mark_way_4 | unfold kr_mark_way_5 | unfold kr_mark_way_6 | unfold kr_mark_way_7); walk_at "ev"))
theorem val_mark_way : ∀ d0 d1 G, w_mark_way [d0, d1] G → k_mark_way ⟨own d0 :: own d1 :: [.jk], [], 0⟩ (edT G) := by
  rintro d0 d1 Gq ⟨v, T, P, e, hp, p0, p1, t1, q⟩
  cases e
  unfold k_mark_way
  walk_at "ev"
  obtain ⟨ring, hring⟩ : ∃ r, (List.range P).map (fun j => v (T + j)) = r := ⟨_, rfl⟩
  have rl : ring.length = P := by rw [← hring]; simp
  rw [hring]
  -- behind the first loop
  have rest : ∀ (s : Nat), 1 ≤ s → s ≤ P → Per v T s 0 → (∀ d : Nat, 1 ≤ d → d < s → d ∣ P → ∀ c', ¬ Per v T d c') → kr_mark_way_6 ⟨[.ow true (dI ((List.range T).map v)), .ow true (dI ring), .fz (.int s)], [], 0⟩ (edT Gq) := fun s s1 sP hs no => by
    walk_at "go"
    rw [← hring, cut_rm0 (v := fun j => v (T + j)) sP]
    walk_at "ev"
    have least := Per.least hp p0 no
    unfold kr_mark_way_5
    refine ⟨fun m γ => ∃ h : Nat, γ = ⟨[.ow true (dI ((List.range h).map v)), .ow true (dI ((List.range s).map fun j => v (h + j))), .fz (.int s)], [], 0⟩ ∧ m = h ∧ h ≤ T ∧ Per v h s 0, ⟨T, T, rfl, rfl, Nat.le_refl _, hs⟩, ?_⟩
    rintro m γ ⟨h, rfl, em, hT, hh⟩
    have out : (0 < h → v (h - 1 + s) ≠ v (h - 1) + 0) → kr_mark_way_4 ⟨[.ow true (dI ((List.range h).map v)), .ow true (dI ((List.range s).map fun j => v (h + j))), .fz (.int s)], [], 0⟩ (edT Gq) := fun ho => by
      walk_at "go"
      exact q h s ⟨s1, hh, least, ho⟩ hT sP
    walk_at "ev"
    refine iteB (fun c1 => ?_) (fun c1 => out fun h0 => ?_)
    · have c1 := of_decide_eq_true c1
      have h0 : 1 ≤ h := by simp at c1; omega
      refine ixD_last (by rw [List.length_map, List.length_range]; exact h0) ?_
      rw [List.length_map, List.length_range, rm_get (by omega)]
      walk_at "ev"
      refine ixD_last (by rw [List.length_map, List.length_range]; exact s1) ?_
      rw [List.length_map, List.length_range, rm_get (v := fun j => v (h + j)) (by omega)]
      walk_at "ev"
      refine iteB (fun c2 => ?_) (fun c2 => out fun h0 e => of_decide_eq_false c2 ?_)
      · have c2 := of_decide_eq_true c2
        unfold kb_mark_way_3
        walk_at "ev"
        refine ixD_last (by rw [List.length_map, List.length_range]; exact s1) ?_
        rw [List.length_map, List.length_range, rm_get (v := fun j => v (h + j)) (by omega)]
        have dl : ((List.range s).map fun j => v (h + j)).dropLast.length ≤ 1000 := by rw [List.length_dropLast, List.length_map, List.length_range]; omega
        walk_at "ev"
        obtain ⟨k, rfl⟩ : ∃ k, h = k + 1 := ⟨h - 1, by omega⟩
        have e2 := ring_back2 (v := v) (k := k) s1
        rw [show k + 1 - 1 = k by omega] at c2
        refine ⟨by omega, ?_⟩
        walk_at "go"
        refine ⟨k, by omega, k, ?_, rfl, by omega, fun i hi => ?_⟩
        · rw [range_drop, show PyData.int (v (k + 1 + (s - 1))) :: List.map PyData.int ((List.range s).map fun j => v (k + 1 + j)).dropLast = (v (k + 1 + (s - 1)) :: ((List.range s).map fun j => v (k + 1 + j)).dropLast).map PyData.int from rfl, ← show v k = v (k + 1 + (s - 1)) from c2, e2]
        · by_cases hk : i = k
          · subst hk
            rw [show i + 1 + (s - 1) = i + s by omega] at c2
            omega
          · exact hh i (by omega)
      · rw [Int.add_zero] at e
        rw [← e]
        congr 1
        omega
    · have := of_decide_eq_false c1
      simp at this
      omega
  unfold kr_mark_way_7
  refine ⟨fun m γ => ∃ (s : Nat), γ = ⟨[.ow true (dI ((List.range T).map v)), .ow true (dI ring), .fz (.int s)], [], 0⟩ ∧ m = P - s ∧ 1 ≤ s ∧ s ≤ P ∧ (∀ d : Nat, 1 ≤ d → d < s → d ∣ P → ∀ c', ¬ Per v T d c'), ⟨P - 1, 1, rfl, rfl, by omega, p0, fun d d1 d2 => by omega⟩, ?_⟩
  rintro m γ ⟨s, rfl, rfl, s1, sP, no⟩
  walk_at "ev"
  refine ⟨wide_div (b := 20) (by omega) (by omega) (by decide) (by decide), ?_⟩
  have ed : ((ring.length : Int) / (s : Int)).toNat = P / s := by rw [rl]; exact Int.toNat_natCast _
  have eb : (ring.length : Int) / (s : Int) = ((P / s : Nat) : Int) := by rw [rl]; rfl
  have pd : P / s ≤ P := Nat.div_le_self _ _
  have tk : ring.take s = (List.range s).map fun j => v (T + j) := by rw [← hring]; exact rm_take (v := fun j => v (T + j)) sP
  rw [cutD_toN, tk]
  walk_at "ev"
  rw [ed, eb]
  refine ⟨⟨by omega, by omega, by rw [List.length_range]; omega⟩, shaped_ints _, shaped_ints _, ?_⟩
  rw [eqv_il]
  have rr := rep_ring hp p0 s1
  rw [hring] at rr
  by_cases c : (List.replicate (P / s) ((List.range s).map fun j => v (T + j))).flatten = ring
  · rw [decide_eq_true c]
    obtain ⟨dv, pr⟩ := rr.mp c
    exact rest s s1 sP pr no
  · rw [decide_eq_false c]
    have sl : s < P := by
      refine Nat.lt_of_le_of_ne sP fun e => c ?_
      subst e
      exact rr.mpr ⟨Nat.dvd_refl _, hp⟩
    show kb_mark_way_1 _ _
    unfold kb_mark_way_1
    walk_at "ev"
    refine ⟨P - (s + 1), by omega, s + 1, rfl, rfl, by omega, by omega, fun d d1 d2 dd c' k => ?_⟩
    by_cases hd : d = s
    · subst hd
      have := per_zero hp p0 dd k
      subst this
      exact c (rr.mpr ⟨dd, k⟩)
    · exact no d d1 (by omega) dd c' k
theorem ok_mark_way (p : Prog K mg) : FnG P w K mg base CX0 1 p.f_mark_way p.fd_mark_way ["ahead", "ring"] (spW2 w_mark_way) :=
  okW2 p.d_mark_way.F sc_mark_way (by decide) ar_mark_way (fun cdv A outer s H E hg hr => ⟨_, (pss_cons (ps_set (i := 2) sc_mark_way.nd rfl (Or.inl rfl) pe_int)
      (pss_cons (ps_while PassesOwn.never (pt_cmpR (op_neD hr.units) (pe_op op_rep (pe_slice sl_list (pv 1) po_none (po_some (pv 2))) (pe_op op_fdivW (pe_callB call_len_seq (by rfl) p.blt.len PySem.boot_len (pa_cons (pv 1) pa_nil)) (pv 2))) (pv 1) (nomark _))
      (pss_one (ps_aug (i := 2) sc_mark_way.nd rfl (Or.inl rfl) pe_int ip_add)))
      (pss_cons (ps_set (i := 1) sc_mark_way.nd rfl (Or.inl rfl) (pe_slice sl_list (pv 1) po_none (po_some (pv 2))))
      (pss_cons (ps_while PassesOwn.never (PW.pt (pw_and (pt_cmpR op_gt (pe_callB call_len_seq (by rfl) p.blt.len PySem.boot_len (pa_cons (pv 0) pa_nil)) pe_int (nomark _)) (pw_and1 (pt_cmpR op_eq (pe_ix ix_list (pv 0) (pe_un un_neg pe_int) (fun _ _ => rfl)) (pe_ix ix_list (pv 1) (pe_un un_neg pe_int) (fun _ _ => rfl)) (nomark _)))))
      (pss_cons (ps_set (i := 1) sc_mark_way.nd rfl (Or.inl rfl) (pe_lst (pa_cons (pe_ix ix_list (pv 1) (pe_un un_neg pe_int) (fun _ _ => rfl)) (StX.pa_star (pe_slice sl_list (pv 1) po_none (po_some (pe_un un_neg pe_int))) pa_nil))))
      (pss_one (ps_set (i := 0) sc_mark_way.nd rfl (Or.inl rfl) (pe_slice sl_list (pv 0) po_none (po_some (pe_un un_neg pe_int)))))))
      (pss_one (ps_ret (pe_tup (pa_cons (pv 0) (pa_cons (pv 1) (pa_cons pe_int pa_nil)))))))))),
    fun C xc => (so_seq (so_asg (so_c (sca_int _)) (so_gname (i := 2)))
      (so_seq (so_while (so_test (so_op sr_neD (so_repM (so_sl (so_var (i := 1)) so_no (so_part (so_var (i := 2)))) (so_op sr_I (so_f sc_len (so_cons (so_var (i := 1)) so_nil)) (so_var (i := 2)))) (so_var (i := 1))))
      (so_aug (i := 2) (so_c (sca_int _))))
      (so_seq (so_asg (so_sl (so_var (i := 1)) so_no (so_part (so_var (i := 2)))) (so_gname (i := 1)))
      (so_seq (so_while (so_tand (so_test (so_op sr_B (so_f sc_len (so_cons (so_var (i := 0)) so_nil)) (so_c (sca_int _)))) (so_test (so_op sr_eq (so_ixL (so_var (i := 0)) (so_neg (so_c (sca_int _)))) (so_ixL (so_var (i := 1)) (so_neg (so_c (sca_int _)))))))
      (so_seq (so_asg (so_starF (so_ixL (so_var (i := 1)) (so_neg (so_c (sca_int _)))) (so_sl (so_var (i := 1)) so_no (so_part (so_neg (so_c (sca_int _)))))) (so_gname (i := 1)))
      (so_asg (so_sl (so_var (i := 0)) so_no (so_part (so_neg (so_c (sca_int _))))) (so_gname (i := 0)))))
      (so_ret (so_tup (so_cons (so_mov (i := 0)) (so_cons (so_mov (i := 1)) (so_cons (so_c (sca_int _)) so_nil)))))))))⟩) val_mark_way
def w_course_power : Tw := fun ds Q => ∃ (a b c : Int × List Int) (k : Int), ds = [dC a b c, .int k] ∧ (Eff a ∧ Eff b ∧ Eff c) ∧ Lst b ∧ 0 ≤ k ∧ k ≤ 450 ∧ (a.1 ≤ 20 ∧ b.1 ≤ 20 ∧ c.1 ≤ 20) ∧ (a.2.length ≤ 20 ∧ b.2.length ≤ 20 ∧ c.2.length ≤ 20) ∧ Q (dE (crE a b c k.toNat))
theorem ar_course_power : ∀ ds G, w_course_power ds G → ds.length = 2 := by
  rintro ds G ⟨a, b, c, k, rfl, _⟩
  rfl
def kr_course_power_1 : KS := (kRet (kCallT w_join_of 2 (kCons (kCallT w_join_of 2 (kCons (kVar 2) (kCons (kCallT w_power_of 2 (kCons (kVar 3) (kCons (kVar 1) kNil))) kNil))) (kCons (kVar 4) kNil))))
def k_course_power : KS := (kSeq (kAsg (kFrz 0) (kgTup 3 (kgCons (kgName 2) (kgCons (kgName 3) (kgCons (kgName 4) kgNil)))))
  kr_course_power_1)
local macro_rules | `(tactic| walk_at "go") => `(tactic| ((first | unfold kr_course_power_1); walk_at "ev"))
theorem val_course_power : ∀ ds G, w_course_power ds G → k_course_power ⟨ds.map Sl.fz ++ [.jk, .jk, .jk], [], 0⟩ (edT G) := by
  rintro ds Gq ⟨a, b, c, k, rfl, ⟨ea, eb, ec⟩, lb, k0, k1, ⟨na, nb, nc⟩, ⟨la, l2, l3⟩, q⟩
  unfold k_course_power
  walk_at "ev"
  walk_at "go"
  refine ⟨b.1, b.2, k, rfl, eb, lb, k0, k1, nb, l2, ?_⟩
  have pe := pow_eff eb k.toNat
  have pb := pow_bd eb k.toNat
  have b0 := eb.nn
  have p1 : (powE b k.toNat).1 ≤ 9000 := Int.le_trans pb.1 (Int.le_trans (Int.mul_le_mul (show ((k.toNat : Nat) : Int) ≤ 450 by omega) nb b0 (by decide)) (by decide))
  have p2 : (powE b k.toNat).2.length ≤ 9000 := Nat.le_trans pb.2 (Nat.le_trans (Nat.mul_le_mul (show k.toNat ≤ 450 by omega) l2) (by decide))
  have jb := join_bd ea pe
  have je := join_eff ea pe
  have j1 := jb.1
  have j2 := jb.2
  walk_at "ev"
  refine ⟨a.1, a.2, (powE b k.toNat).1, (powE b k.toNat).2, rfl, ea, pe, by omega, by omega, by omega, by omega, ?_⟩
  walk_at "ev"
  refine ⟨(joinE a (powE b k.toNat)).1, (joinE a (powE b k.toNat)).2, c.1, c.2, rfl, je, ec, by omega, by omega, by omega, by omega, ?_⟩
  walk_at "ev"
  exact q
theorem ok_course_power (p : Prog K mg) : FnG P w K mg base CX0 4 p.f_course_power p.fd_course_power ["course", "number"] (spT w_course_power) :=
  okT p.d_course_power.F sc_course_power (by decide) ar_course_power (fun cdv A outer s H E hg hr => ⟨_, (pss_cons (ps_asg (pv 0) (pg_tup rfl (pgs_cons (pg_name (i := 2) sc_course_power.nd rfl (Or.inl rfl)) (pgs_cons (pg_name (i := 3) sc_course_power.nd rfl (Or.inl rfl)) (pgs_cons (pg_name (i := 4) sc_course_power.nd rfl (Or.inl rfl)) pgs_nil)))))
      (pss_one (ps_ret (pe_callG ((ok_join_of p).mono (by decide)) hg hr (by rfl) p.d_join_of.gl p.d_join_of.kp p.d_join_of.bd pass0 (pa_cons (pe_callG ((ok_join_of p).mono (by decide)) hg hr (by rfl) p.d_join_of.gl p.d_join_of.kp p.d_join_of.bd pass0 (pa_cons (pv 2) (pa_cons (pe_callG ((ok_power_of p).mono (by decide)) hg hr (by rfl) p.d_power_of.gl p.d_power_of.kp p.d_power_of.bd pass0 (pa_cons (pv 3) (pa_cons (pv 1) pa_nil))) pa_nil))) (pa_cons (pv 4) pa_nil)))))),
    fun C xc => (so_seq (so_asg (so_frz (i := 0)) (so_gtup (so_gcons (so_gname (i := 2)) (so_gcons (so_gname (i := 3)) (so_gcons (so_gname (i := 4)) so_gnil)))))
      (so_ret (so_callT (so_cons (so_callT (so_cons (so_var (i := 2)) (so_cons (so_callT (so_cons (so_var (i := 3)) (so_cons (so_var (i := 1)) so_nil))) so_nil))) (so_cons (so_var (i := 4)) so_nil)))))⟩) val_course_power
def w_only_time : Tw := fun ds Q => ∃ (a b c : Int × List Int) (p : List Str × List Str) (ps : List (List Str × List Str)), ds = [dC a b c, .list ((p :: ps).map pairD)] ∧ b.1 ≠ b.2.length ∧ (a.1 ≤ 1000 ∧ b.1 ≤ 1000 ∧ c.1 ≤ 1000) ∧ (0 ≤ a.1 ∧ 0 ≤ b.1 ∧ 0 ≤ c.1) ∧ (a.2.length ≤ 1000 ∧ b.2.length ≤ 1000 ∧ c.2.length ≤ 1000) ∧ p.1.length ≤ 100000 ∧ p.2.length ≤ 100000 ∧
  (∀ k : Nat, (p.2.length : Int) - p.1.length = (a.2.length - a.1) + k * ((b.2.length : Int) - b.1) + (c.2.length - c.1) → Q (.int k)) ∧
  ((∀ k : Nat, (p.2.length : Int) - p.1.length ≠ (a.2.length - a.1) + k * ((b.2.length : Int) - b.1) + (c.2.length - c.1)) → Q .none)
theorem ar_only_time : ∀ ds G, w_only_time ds G → ds.length = 2 := by
  rintro ds G ⟨a, b, c, p, ps, rfl, _⟩
  rfl
def kr_only_time_1 : KS := (kRet (kIf (kTAnd (kTest (kOp (vEq false) (kVar 6) (kC (.int 0)))) (kTest (kOp (vB fun i j => decide (j ≤ i)) (kVar 5) (kC (.int 0))))) (kVar 5) (kC .none)))
def kr_only_time_2 : KS := (kSeq (kAsg (kDivmodN (kCons (kOp (vI noC fun i j => i - j) (kOp (vI noC fun i j => i - j) (kOp (vI noC fun i j => i - j) (kF 1 vLen (kCons (kVar 3) kNil)) (kF 1 vLen (kCons (kVar 2) kNil))) (kIx true (kVar 4) (kC (.int 0)))) (kIx true (kVar 4) (kC (.int 2)))) (kCons (kIx true (kVar 4) (kC (.int 1))) kNil))) (kgTup 2 (kgCons (kgName 5) (kgCons (kgName 6) kgNil))))
  kr_only_time_1)
def kr_only_time_3 : KS := (kSeq (kAsg (kLc (kIt false (kFrz 0)) 7 kYes (kOp (vI noC fun i j => i - j) (kF 1 vLen (kCons (kIx false (kVar 7) (kC (.int 1))) kNil)) (kIx false (kVar 7) (kC (.int 0))))) (kgName 4))
  kr_only_time_2)
def k_only_time : KS := (kSeq (kAsg (kIx true (kFrz 1) (kC (.int 0))) (kgTup 2 (kgCons (kgName 2) (kgCons (kgName 3) kgNil))))
  kr_only_time_3)
local macro_rules | `(tactic| walk_at "go") => `(tactic| ((first | unfold kr_only_time_1 | unfold kr_only_time_2 | unfold kr_only_time_3); walk_at "ev"))
theorem val_only_time : ∀ ds G, w_only_time ds G → k_only_time ⟨ds.map Sl.fz ++ [.jk, .jk, .jk, .jk, .jk, .jk], [], 0⟩ (edT G) := by
  rintro ds Gq ⟨a, b, c, p, ps, rfl, nb, ⟨na1, nb1, nc1⟩, ⟨a0, b0, c0⟩, ⟨la, lb, lc⟩, p1, p2, qs, qn⟩
  unfold k_only_time
  walk_at "ev"
  walk_at "go"
  refine lc_inv (j := 7) true [a, b, c] dE (fun pre acc n => acc = (pre.map fun e => (e.2.length : Int) - e.1).map PyData.int ∧ pre.length ≤ 3 ∧ n = 0) rfl rfl (fun pre acc n hp => ?_) (fun pre x post acc n Y X hl hp hY hX => ?_) (fun acc n hp => ?_) [] 0 ⟨rfl, by simp, rfl⟩
  · obtain ⟨rfl, h1, _⟩ := hp
    rw [List.length_map, List.length_map]
    omega
  · obtain ⟨rfl, h1, rfl⟩ := hp
    have hlen := congrArg List.length hl
    rw [List.length_append, List.length_cons] at hlen
    simp only [List.length_cons, List.length_nil] at hlen
    walk_at "ev"
    exact hY _ true _ _ rfl rfl ⟨by rw [List.map_append, List.map_append]; rfl, by rw [List.length_append, List.length_singleton]; omega, rfl⟩
  · obtain ⟨rfl, _, rfl⟩ := hp
    walk_at "ev"
    walk_at "go"
    obtain ⟨x, hx⟩ : ∃ x : Int, (p.2.length : Int) - p.1.length - (a.2.length - a.1) - (c.2.length - c.1) = x := ⟨_, rfl⟩
    obtain ⟨g, hg⟩ : ∃ g : Int, (b.2.length : Int) - b.1 = g := ⟨_, rfl⟩
    rw [hx, hg]
    rw [hg] at qs qn
    have g0 : g ≠ 0 := by omega
    have dm := Int.mul_fdiv_add_fmod x g
    refine ⟨⟨g0, by omega⟩, ?_⟩
    walk_at "go"
    refine iteB (fun c1 => ?_) (fun c1 => ?_)
    · have c1 := of_decide_eq_true c1
      refine iteB (fun c2 => ?_) (fun c2 => ?_)
      · have c2 := of_decide_eq_true c2
        have := qs (x.fdiv g).toNat (by rw [Int.toNat_of_nonneg c2, Int.mul_comm]; omega)
        rw [Int.toNat_of_nonneg c2] at this
        exact this
      · have c2 := of_decide_eq_false c2
        refine qn fun k e => c2 ?_
        have e2 : x = g * k := by rw [Int.mul_comm]; omega
        rw [e2, Int.mul_fdiv_cancel_left _ g0]
        omega
    · have c1 := of_decide_eq_false c1
      refine qn fun k e => c1 ?_
      have e2 : x = g * k := by rw [Int.mul_comm]; omega
      rw [e2, Int.mul_fmod_right]
theorem ok_only_time (p : Prog K mg) : FnG P w K mg base CX0 1 p.f_only_time p.fd_only_time ["course", "seen"] (spT w_only_time) :=
  okT p.d_only_time.F sc_only_time (by decide) ar_only_time (fun cdv A outer s H E hg hr => ⟨_, (pss_cons (ps_asg (pe_ix ix_list (pv 1) pe_int (fun _ _ => rfl)) (pg_tup rfl (pgs_cons (pg_name (i := 2) sc_only_time.nd rfl (Or.inl rfl)) (pgs_cons (pg_name (i := 3) sc_only_time.nd rfl (Or.inl rfl)) pgs_nil))))
      (pss_cons (ps_setLc (i := 4) (own := [("one", 7)]) (g := gName 7) (tt := tYes) rfl sc_only_time.nd rfl rfl (sw_true rfl rfl rfl (by decide +kernel)) (pi_tup (pv 0)) (blkOk_by (N := N_only_time) (sc := defScope s_only_time) (by decide +kernel)) (fun _ _ _ _ _ => pg_name (i := 7) sc_only_time.nd rfl (Or.inl rfl)) (fun _ _ _ _ _ => pts_nil) (fun _ _ _ _ _ => (pe_op op_sub (pe_callB call_len_seq (by rfl) p.blt.len PySem.boot_len (pa_cons (pe_ix (show IxR _ (rIxT K) from ix_tup) (pv 7) pe_int (fun _ _ => rfl)) pa_nil)) (pe_ix (show IxR _ (rIxT K) from ix_tup) (pv 7) pe_int (fun _ _ => rfl)))))
      (pss_cons (ps_asg (pe_callB call_divmodN (by rfl) p.blt.divmod (by decide +kernel) (pa_cons (pe_op op_sub (pe_op op_sub (pe_op op_sub (pe_callB call_len_seq (by rfl) p.blt.len PySem.boot_len (pa_cons (pv 3) pa_nil)) (pe_callB call_len_seq (by rfl) p.blt.len PySem.boot_len (pa_cons (pv 2) pa_nil))) (pe_ix ix_list (pv 4) pe_int (fun _ _ => rfl))) (pe_ix ix_list (pv 4) pe_int (fun _ _ => rfl))) (pa_cons (pe_ix ix_list (pv 4) pe_int (fun _ _ => rfl)) pa_nil))) (pg_tup rfl (pgs_cons (pg_name (i := 5) sc_only_time.nd rfl (Or.inl rfl)) (pgs_cons (pg_name (i := 6) sc_only_time.nd rfl (Or.inl rfl)) pgs_nil))))
      (pss_one (ps_ret (pe_ifExp (PW.pt (pw_and (pt_cmpR op_eq (pv 6) pe_int (nomark _)) (pw_and1 (pt_cmpR op_ge (pv 5) pe_int (nomark _))))) (pv 5) pe_non)))))),
    fun C xc => (so_seq (so_asg (so_ixL (so_frz (i := 1)) (so_c (sca_int _))) (so_gtup (so_gcons (so_gname (i := 2)) (so_gcons (so_gname (i := 3)) so_gnil))))
      (so_seq (so_asg (so_lc (so_itT (so_frz (i := 0))) so_yes (so_op sr_I0 (so_f sc_len (so_cons (so_ixT (so_var (i := 7)) (so_c (sca_int _))) so_nil)) (so_ixT (so_var (i := 7)) (so_c (sca_int _))))) (so_gname (i := 4)))
      (so_seq (so_asg (so_divmodN (so_cons (so_op sr_I0 (so_op sr_I0 (so_op sr_I0 (so_f sc_len (so_cons (so_var (i := 3)) so_nil)) (so_f sc_len (so_cons (so_var (i := 2)) so_nil))) (so_ixL (so_var (i := 4)) (so_c (sca_int _)))) (so_ixL (so_var (i := 4)) (so_c (sca_int _)))) (so_cons (so_ixL (so_var (i := 4)) (so_c (sca_int _))) so_nil))) (so_gtup (so_gcons (so_gname (i := 5)) (so_gcons (so_gname (i := 6)) so_gnil))))
      (so_ret (so_if (so_tand (so_test (so_op sr_eq (so_var (i := 6)) (so_c (sca_int _)))) (so_test (so_op sr_B (so_var (i := 5)) (so_c (sca_int _))))) (so_var (i := 5)) (so_c sca_non))))))⟩) val_only_time
def w_often : Tw := fun ds Q => ∃ (a b c : Int × List Int) (ps : List (List Str × List Str)), ds = [dC a b c, .list (ps.map pairD)] ∧ Few a b c ∧ OkPs ps ∧ ∀ d, IsWay (leastE a.1 a.2) (leastE b.1 b.2) (leastE c.1 c.2) ps d → Q d
theorem ar_often : ∀ ds G, w_often ds G → ds.length = 2 := by
  rintro ds G ⟨a, b, c, ps, rfl, _⟩
  rfl
def kr_often_1 : KS := (kRet (kCallW2 w_mark_way (kCons (kSl (kVar 6) kNo (kPart (kVar 3))) (kCons (kSl (kVar 6) (kPart (kVar 3)) kNo) kNil))))
def kr_often_2 : KS := (kSeq (kAsg (kLc (kRng1 (kOp (vI noC fun i j => i + j) (kVar 3) (kVar 4))) 5 kYes (kF 1 vInt (kCons (kCallT w_turns_all 2 (kCons (kCallT w_course_power 2 (kCons (kVar 2) (kCons (kVar 5) kNil))) (kCons (kVar 1) kNil))) kNil))) (kgName 6))
  kr_often_1)
def kr_often_3 : KS := (kRet (kMk false 3 (kCons (kCat (kRepN (kLit (.list [(.int 0)])) (kVar 5)) (kLit (.list [(.int 1)]))) (kCons (kLit (.list [(.int 0)])) (kCons (kC (.int 0)) kNil)))))
def kr_often_4 : KS := (kSeq (kIfS (kTOr (kTest (kOp (vIsN false) (kVar 5) (kC .none))) (kTNot (kTest (kCallT w_turns_all 2 (kCons (kCallT w_course_power 2 (kCons (kVar 2) (kCons (kVar 5) kNil))) (kCons (kVar 1) kNil))))))
  (kRet (kLit (.tuple [(.list []), (.list [(.int 0)]), (.int 0)])))
  kNext)
  kr_often_3)
def kr_often_5 : KS := (kSeq (kAsg (kCallT w_only_time 2 (kCons (kVar 2) (kCons (kVar 1) kNil))) (kgName 5))
  kr_often_4)
def kr_often_6 : KS := (kSeq (kIfS (kTest (kOp (vEq false) (kIx false (kIx false (kVar 2) (kC (.int 1))) (kC (.int 0))) (kF 1 vLen (kCons (kIx false (kIx false (kVar 2) (kC (.int 1))) (kC (.int 1))) kNil))))
  (kSeq (kAsg (kCallT w_comes_round 1 (kCons (kVar 0) kNil)) (kgTup 2 (kgCons (kgName 3) (kgCons (kgName 4) kgNil))))
  kr_often_2)
  kNext)
  kr_often_5)
def kr_often_7 : KS := (kSeq (kIfS (kTest (kOp (vEq false) (kF 1 vLen (kCons (kVar 1) kNil)) (kC (.int 0))))
  (kRet (kLit (.tuple [(.list []), (.list [(.int 1)]), (.int 0)])))
  kNext)
  kr_often_6)
def k_often : KS := (kSeq (kAsg (kTupOf (kCons (kLc (kIt false (kFrz 0)) 7 kYes (kCallT w_checked 1 (kCons (kVar 7) kNil))) kNil)) (kgName 2))
  kr_often_7)
local macro_rules | `(tactic| walk_at "go") => `(tactic| ((first | unfold kr_often_1 | unfold kr_often_2 | unfold kr_often_3 | unfold kr_often_4 | unfold kr_often_5 | unfold kr_often_6 | unfold kr_often_7); walk_at "ev"))
theorem val_often : ∀ ds G, w_often ds G → k_often ⟨ds.map Sl.fz ++ [.jk, .jk, .jk, .jk, .jk, .jk], [], 0⟩ (edT G) := by
  rintro ds Gq ⟨a, b, c, ps, rfl, few, ⟨pl, okp⟩, q⟩
  obtain ⟨ea, eb, ec, na, nb, nc, la, lb, lc⟩ := id few
  have ka := leastE_ok (n := a.1) (gs := a.2) ea
  have kb := leastE_ok (n := b.1) (gs := b.2) eb
  have kc := leastE_ok (n := c.1) (gs := c.2) ec
  have few2 := few.least
  unfold k_often
  walk_at "ev"
  refine lc_inv (j := 7) true [a, b, c] dE (fun pre acc n => acc = pre.map (fun e => dE (leastE e.1 e.2)) ∧ pre.length ≤ 3 ∧ n = 0) rfl rfl (fun pre acc n hp => ?_) (fun pre x post acc n Y X hl hp hY hX => ?_) (fun acc n hp => ?_) [] 0 ⟨rfl, by simp, rfl⟩
  · obtain ⟨rfl, h1, _⟩ := hp
    rw [List.length_map]
    omega
  · obtain ⟨rfl, h1, rfl⟩ := hp
    have hlen := congrArg List.length hl
    rw [List.length_append, List.length_cons] at hlen
    simp only [List.length_cons, List.length_nil] at hlen
    have mx : x ∈ [a, b, c] := hl ▸ List.mem_append_right _ List.mem_cons_self
    have : Eff x ∧ x.2.length ≤ 20 := by
      simp at mx
      rcases mx with rfl | rfl | rfl
      · exact ⟨ea, la⟩
      · exact ⟨eb, lb⟩
      · exact ⟨ec, lc⟩
    walk_at "ev"
    refine ⟨x.1, x.2, rfl, this.1, by omega, ?_⟩
    walk_at "ev"
    exact hY _ true _ _ rfl rfl ⟨by rw [List.map_append]; rfl, by rw [List.length_append, List.length_singleton]; omega, rfl⟩
  · obtain ⟨rfl, _, rfl⟩ := hp
    walk_at "ev"
    obtain ⟨A, hA⟩ : ∃ A, leastE a.1 a.2 = A := ⟨_, rfl⟩
    obtain ⟨B, hB⟩ : ∃ B, leastE b.1 b.2 = B := ⟨_, rfl⟩
    obtain ⟨C, hC⟩ : ∃ C, leastE c.1 c.2 = C := ⟨_, rfl⟩
    have fun0 : crE A B C = crE a b c := by rw [← hA, ← hB, ← hC]; exact crE_fun ea eb ec
    rw [hA, hB, hC] at few2 q
    rw [hA] at ka
    rw [hB] at kb
    rw [hC] at kc
    rw [hA, hB, hC]
    have kbl : Lst B := kb.lst
    obtain ⟨eA, eB, eC, nA, nB, nC, lA, lB, lC⟩ := id few2
    walk_at "go"
    refine iteB (fun c0 => ?_) (fun c0 => ?_)
    · have c0 := of_decide_eq_true c0
      exact q _ (.inl ⟨List.eq_nil_of_length_eq_zero (by omega), rfl⟩)
    have c0 := of_decide_eq_false c0
    have ne : ps ≠ [] := fun z => c0 (by rw [z]; rfl)
    refine iteB (fun c1 => ?_) (fun c1 => ?_)
    · have c1 : B.1 = B.2.length := by simpa using c1
      refine ⟨a, b, c, rfl, few, fun z => absurd (by rw [hB]; exact c1) z, fun _ h L g t => ?_⟩
      rw [← fun0] at t
      obtain ⟨L1, L6, h6, per⟩ := fs_few few2 c1 t
      walk_at "ev"
      obtain ⟨N, hN⟩ : ∃ N : Nat, h + L = N := ⟨_, rfl⟩
      walk_at "go"
      rw [show (h : Int) + L = (N : Int) by omega]
      refine ⟨⟨by omega, by omega⟩, ?_⟩
      have lr := rg_length 0 (N : Int)
      refine lc_inv (j := 5) true (rg 0 (N : Int)) PyData.int (fun pre acc n => acc = ((List.range pre.length).map (mkV A B C ps)).map PyData.int ∧ pre.length ≤ N ∧ n = 0) rfl rfl (fun pre acc n hp => ?_) (fun pre x post acc n Y X hl hp hY hX => ?_) (fun acc n hp => ?_) [] 0 ⟨rfl, by simp, rfl⟩
      · obtain ⟨rfl, h1, _⟩ := hp
        rw [List.length_map, List.length_map, List.length_range]
        omega
      · obtain ⟨rfl, h1, rfl⟩ := hp
        obtain ⟨ex, hx⟩ := rg_mid hl
        have xe : x.toNat = pre.length := by omega
        have bd := crE_bd eA eB eC x.toNat
        have m2 : x.toNat * B.2.length ≤ 12 * 20 := Nat.mul_le_mul (by omega) lB
        walk_at "ev"
        refine ⟨A, B, C, x, rfl, ⟨eA, eB, eC⟩, kbl, by omega, by omega, ⟨by omega, by omega, by omega⟩, ⟨by omega, by omega, by omega⟩, ?_⟩
        walk_at "ev"
        refine ⟨crE A B C x.toNat, ps, rfl, crE_eff eA eB eC _, by omega, pl, fun p hp => (okp p hp).1, ?_⟩
        walk_at "ev"
        rw [xe]
        refine hY _ true (.int (mkV A B C ps pre.length)) _ rfl ?_ ⟨?_, ?_, rfl⟩
        · rfl
        · rw [List.length_append, List.length_singleton, List.range_succ, List.map_append, List.map_append, List.map_singleton]
          rfl
        · rw [List.length_append, List.length_singleton]
          omega
      · obtain ⟨rfl, _, rfl⟩ := hp
        rw [lr, show ((N : Int) - 0).toNat = N by omega]
        walk_at "ev"
        walk_at "go"
        subst hN
        rw [cut_rm0 (by omega : h ≤ h + L), cutD_from, ← List.map_drop, rm_drop]
        walk_at "ev"
        refine ⟨mkV A B C ps, h, L, rfl, per ps, L1, by omega, by omega, fun h' L' t' hh hL => ?_⟩
        walk_at "ev"
        exact q _ (.inr (.inr ⟨ne, c1, h', L', t', by omega, by omega, rfl⟩))
    have c1 : ¬ B.1 = B.2.length := by simpa using c1
    have nb2 : B.1 ≠ B.2.length := fun z => c1 z
    obtain ⟨p, ps', rfl⟩ := List.exists_cons_of_ne_nil ne
    walk_at "go"
    obtain ⟨⟨p1, p2, p3⟩, p4, p5, p6⟩ := okp p List.mem_cons_self
    have A0 := eA.nn
    have B0 := eB.nn
    have C0 := eC.nn
    have cA := least_chg ea
    have cC := least_chg ec
    rw [hA] at cA
    rw [hC] at cC
    have a0 := ea.nn
    have c0' := ec.nn
    refine ⟨A, B, C, p, ps', rfl, nb2, ⟨by omega, by omega, by omega⟩, ⟨A0, B0, C0⟩, ⟨by omega, by omega, by omega⟩, by omega, by omega, fun k e => ?_, fun no => ?_⟩
    · have nbd := num_bd (g := (B.2.length : Int) - B.1) (by omega) p5 p6 (by omega) (by omega) (by omega) (by omega) e
      walk_at "ev"
      walk_at "go"
      have bd := crE_bd eA eB eC k
      refine ⟨A, B, C, k, rfl, ⟨eA, eB, eC⟩, kbl, by omega, by omega, ⟨by omega, by omega, by omega⟩, ⟨by omega, by omega, by omega⟩, ?_⟩
      rw [Int.toNat_natCast]
      walk_at "ev"
      have len : (crE A B C k).2.length ≤ 1000 := by
        have g2 : (k : Int) * (B.1 - (B.2.length : Int)) ≤ 400 := by
          have := nbd.2.1
          rwa [show -((B.2.length : Int) - B.1) = B.1 - B.2.length by omega] at this
        have := (crE_small eA eB eC (n := 400) (m := 60) g2 nbd.1 (by omega) (by omega) (by omega)).2
        omega
      refine ⟨crE A B C k, p :: ps', rfl, crE_eff eA eB eC _, len, pl, fun p hp => (okp p hp).1, ?_⟩
      walk_at "ev"
      have nt : ∀ {b : Bool}, (!b) = true → b = false := fun {b} h => by cases b <;> first | rfl | exact nomatch h
      have nf : ∀ {b : Bool}, (!b) = false → b = true := fun {b} h => by cases b <;> first | rfl | exact nomatch h
      refine iteB (fun cf => ?_) (fun cf => ?_)
      · have cf2 : (p :: ps').all (fitP (crE A B C k)) = false := nt cf
        refine q _ (.inr (.inl ⟨ne, nb2, .inr ⟨fun j => ?_, rfl⟩⟩))
        cases h : (p :: ps').all (fitP (crE A B C j)) with
        | false => rfl
        | true =>
          have h2 := h
          rw [List.all_cons, Bool.and_eq_true] at h2
          have e2 := fit_chg eA eB eC h2.1
          have e3 : ((k : Int) - j) * ((B.2.length : Int) - B.1) = 0 := by
            rw [Int.sub_mul]
            omega
          have : j = k := by
            rcases Int.mul_eq_zero.mp e3 with z | z
            · omega
            · omega
          rw [this, cf2] at h
          exact nomatch h
      · have cf2 : (p :: ps').all (fitP (crE A B C k)) = true := nf cf
        walk_at "go"
        rw [show intsOf [PyData.int 0] = some [0] from rfl]
        walk_at "ev"
        rw [show (List.replicate (Int.toNat (k : Int)) [(0 : Int)]).flatten = List.replicate k 0 from by rw [Int.toNat_natCast]; exact rep_zero k]
        refine ⟨⟨by omega, by omega, by simp⟩, by rw [List.length_replicate]; omega, ?_⟩
        have := q _ (.inr (.inl ⟨ne, nb2, .inl ⟨k, by omega, cf2, rfl⟩⟩))
        rw [show wayD (List.replicate k 0 ++ [1]) [0] = PyData.tuple [.list (List.map PyData.int (List.replicate k 0) ++ [.int 1]), .list [.int 0], .int 0] from by unfold wayD dI; rw [List.map_append]; rfl] at this
        exact this
    · walk_at "ev"
      walk_at "go"
      refine q _ (.inr (.inl ⟨ne, nb2, .inr ⟨fun k => ?_, rfl⟩⟩))
      cases h : (p :: ps').all (fitP (crE A B C k)) with
      | false => rfl
      | true =>
        rw [List.all_cons, Bool.and_eq_true] at h
        exact absurd (fit_chg eA eB eC h.1) (no k)
theorem ok_often (p : Prog K mg) : FnG P w K mg base CX0 6 p.f_often p.fd_often ["course", "seen"] (spT w_often) :=
  okT p.d_often.F sc_often (by decide) ar_often (fun cdv A outer s H E hg hr => ⟨_, (pss_cons (ps_set (i := 2) sc_often.nd rfl (Or.inr rfl) (pe_callTy call_tuple_of (by rfl) p.blt.tuple (by decide +kernel) (pa_cons (pe_lc (own := [("one", 7)]) (g := gName 7) (tt := tYes) rfl sc_often.nd (pi_tup (pv 0)) (blkOk_by (N := N_often) (sc := defScope s_often) (by decide +kernel)) (fun _ _ _ _ _ => pg_name (i := 7) sc_often.nd rfl (Or.inl rfl)) (fun _ _ _ _ _ => pts_nil) (fun _ _ _ _ _ => (pe_callG ((ok_checked p).mono (by decide)) hg hr (by rfl) p.d_checked.gl p.d_checked.kp p.d_checked.bd pass0 (pa_cons (pv 7) pa_nil)))) pa_nil)))
      (pss_cons (ps_if (pt_cmpR op_eq (pe_callB call_len_seq (by rfl) p.blt.len PySem.boot_len (pa_cons (pv 1) pa_nil)) pe_int (nomark _))
      (pss_one (ps_ret (pe_tup (pa_cons (pe_lst pa_nil) (pa_cons (pe_lst (pa_cons pe_int pa_nil)) (pa_cons pe_int pa_nil)))))) pss_nil)
      (pss_cons (ps_if (pt_cmpR op_eq (pe_ix ix_tup (pe_ix ix_tup (pv 2) pe_int (fun _ _ => rfl)) pe_int (fun _ _ => rfl)) (pe_callB call_len_seq (by rfl) p.blt.len PySem.boot_len (pa_cons (pe_ix ix_tup (pe_ix ix_tup (pv 2) pe_int (fun _ _ => rfl)) pe_int (fun _ _ => rfl)) pa_nil)) (nomark _))
      (pss_cons (ps_asg (pe_callG ((ok_comes_round p).mono (by decide)) hg hr (by rfl) p.d_comes_round.gl p.d_comes_round.kp p.d_comes_round.bd pass0 (pa_cons (pv 0) pa_nil)) (pg_tup rfl (pgs_cons (pg_name (i := 3) sc_often.nd rfl (Or.inl rfl)) (pgs_cons (pg_name (i := 4) sc_often.nd rfl (Or.inl rfl)) pgs_nil))))
      (pss_cons (ps_setLc (i := 6) (own := [("number", 5)]) (g := gName 5) (tt := tYes) rfl sc_often.nd rfl rfl (sw_true rfl rfl rfl (by decide +kernel)) (pi_range1 (by rfl) p.blt.range (pa_cons (pe_op op_add (pv 3) (pv 4)) pa_nil)) (blkOk_by (N := N_often) (sc := defScope s_often) (by decide +kernel)) (fun _ _ _ _ _ => pg_name (i := 5) sc_often.nd rfl (Or.inl rfl)) (fun _ _ _ _ _ => pts_nil) (fun _ _ _ _ _ => (pe_callTy call_int1 (by rfl) p.blt.int (by decide +kernel) (pa_cons (pe_callG ((ok_turns_all p).mono (by decide)) hg hr (by rfl) p.d_turns_all.gl p.d_turns_all.kp p.d_turns_all.bd pass0 (pa_cons (pe_callG ((ok_course_power p).mono (by decide)) hg hr (by rfl) p.d_course_power.gl p.d_course_power.kp p.d_course_power.bd pass0 (pa_cons (pv 2) (pa_cons (pv 5) pa_nil))) (pa_cons (pv 1) pa_nil))) pa_nil))))
      (pss_one (ps_ret (pe_callG ((ok_mark_way p).mono (by decide)) hg hr (by rfl) p.d_mark_way.gl p.d_mark_way.kp p.d_mark_way.bd pass0 (pa_cons (pe_slice sl_list (pv 6) po_none (po_some (pv 3))) (pa_cons (pe_slice sl_list (pv 6) (po_some (pv 3)) po_none) pa_nil))))))) pss_nil)
      (pss_cons (ps_set (i := 5) sc_often.nd rfl (Or.inl rfl) (pe_callG ((ok_only_time p).mono (by decide)) hg hr (by rfl) p.d_only_time.gl p.d_only_time.kp p.d_only_time.bd pass0 (pa_cons (pv 2) (pa_cons (pv 1) pa_nil))))
      (pss_cons (ps_if (PW.pt (pw_or (pt_cmpR op_isN (pv 5) pe_non (nomark _)) (pw_or1 (pt_not (pt_val (pe_callG ((ok_turns_all p).mono (by decide)) hg hr (by rfl) p.d_turns_all.gl p.d_turns_all.kp p.d_turns_all.bd pass0 (pa_cons (pe_callG ((ok_course_power p).mono (by decide)) hg hr (by rfl) p.d_course_power.gl p.d_course_power.kp p.d_course_power.bd pass0 (pa_cons (pv 2) (pa_cons (pv 5) pa_nil))) (pa_cons (pv 1) pa_nil))))))))
      (pss_one (ps_ret (pe_tup (pa_cons (pe_lst pa_nil) (pa_cons (pe_lst (pa_cons pe_int pa_nil)) (pa_cons pe_int pa_nil)))))) pss_nil)
      (pss_one (ps_ret (pe_tup (pa_cons (pe_op op_cat (pe_op op_rep (pe_lst (pa_cons pe_int pa_nil)) (pv 5)) (pe_lst (pa_cons pe_int pa_nil))) (pa_cons (pe_lst (pa_cons pe_int pa_nil)) (pa_cons pe_int pa_nil))))))))))),
    fun C xc => (so_seq (so_asg (so_tupOf (so_cons (so_lc (so_itT (so_frz (i := 0))) so_yes (so_callT (so_cons (so_var (i := 7)) so_nil))) so_nil)) (so_gname (i := 2)))
      (so_seq (so_ifS (so_test (so_op sr_eq (so_f sc_len (so_cons (so_var (i := 1)) so_nil)) (so_c (sca_int _))))
      (so_ret (so_lit_tup (so_lits_cons (so_lit_lst so_lits_nil) (so_lits_cons (so_lit_lst (so_lits_cons (so_lit_c (sca_int _) rfl) so_lits_nil)) (so_lits_cons (so_lit_c (sca_int _) rfl) so_lits_nil))))) so_next)
      (so_seq (so_ifS (so_test (so_op sr_eq (so_ixT (so_ixT (so_var (i := 2)) (so_c (sca_int _))) (so_c (sca_int _))) (so_f sc_len (so_cons (so_ixT (so_ixT (so_var (i := 2)) (so_c (sca_int _))) (so_c (sca_int _))) so_nil))))
      (so_seq (so_asg (so_callT (so_cons (so_var (i := 0)) so_nil)) (so_gtup (so_gcons (so_gname (i := 3)) (so_gcons (so_gname (i := 4)) so_gnil))))
      (so_seq (so_asg (so_lc (so_rng1 (so_op sr_I0 (so_var (i := 3)) (so_var (i := 4)))) so_yes (so_f sc_int (so_cons (so_callT (so_cons (so_callT (so_cons (so_var (i := 2)) (so_cons (so_var (i := 5)) so_nil))) (so_cons (so_var (i := 1)) so_nil))) so_nil))) (so_gname (i := 6)))
      (so_ret (so_callW2 (so_cons (so_sl (so_var (i := 6)) so_no (so_part (so_var (i := 3)))) (so_cons (so_sl (so_var (i := 6)) (so_part (so_var (i := 3))) so_no) so_nil)))))) so_next)
      (so_seq (so_asg (so_callT (so_cons (so_var (i := 2)) (so_cons (so_var (i := 1)) so_nil))) (so_gname (i := 5)))
      (so_seq (so_ifS (so_tor (so_test (so_op sr_isN (so_var (i := 5)) (so_c sca_non))) (so_tnot (so_test (so_callT (so_cons (so_callT (so_cons (so_var (i := 2)) (so_cons (so_var (i := 5)) so_nil))) (so_cons (so_var (i := 1)) so_nil))))))
      (so_ret (so_lit_tup (so_lits_cons (so_lit_lst so_lits_nil) (so_lits_cons (so_lit_lst (so_lits_cons (so_lit_c (sca_int _) rfl) so_lits_nil)) (so_lits_cons (so_lit_c (sca_int _) rfl) so_lits_nil))))) so_next)
      (so_ret (so_tup (so_cons (so_cat (so_repN (so_lit_lst (so_lits_cons (so_lit_c (sca_int _) rfl) so_lits_nil)) (so_var (i := 5))) (so_lit_lst (so_lits_cons (so_lit_c (sca_int _) rfl) so_lits_nil))) (so_cons (so_lit_lst (so_lits_cons (so_lit_c (sca_int _) rfl) so_lits_nil)) (so_cons (so_c (sca_int _)) so_nil))))))))))⟩) val_often
/-- a purse, out of a cell of the script -/
def spSack (K : PySem.W.Frag) : Sp := fun vs H Q _ => ∃ (a : Addr) (ns : List Int) (i : Int), vs = [.ref a, .int i] ∧ SqL K H a (ns.map V.int) ∧ ns.length ≤ 63 ∧ (∀ z ∈ ns, Builtin.Int.intBits z ≤ 1048576) ∧ 0 ≤ i ∧ i ≤ 1000 ∧ ∀ H' q, Same H H' → H q = none → PuAt H' q 0 → Q (.ref q) H'
theorem ok__law_sx_sack (p : Prog K mg) : FnG P w K mg base CX0 1 p.f__law_sx_sack p.fd__law_sx_sack ["_law_script", "_law_spot"] (spSack K) := by
  refine okG p.d__law_sx_sack.F sc__law_sx_sack (fun vs H Q E h => ?_) (fun cdv A outer s H vs Q E hg hr h => ?_)
  · obtain ⟨a, ns, i, rfl, _⟩ := h
    rfl
  · obtain ⟨a, ns, i, rfl, hs, hl, hb, i0, i1, k⟩ := h
    refine ⟨_, (pss_cons (ps_set (i := 2) sc__law_sx_sack.nd rfl (Or.inl rfl) (pe_ifExp (pt_cmpR op_lt (pv 1) (pe_callB call_len_seq (by rfl) p.blt.len PySem.boot_len (pa_cons (pv 0) pa_nil)) (nomark _)) (pe_ix ix_list (pv 0) (pv 1) (fun _ _ => rfl)) pe_int))
      (pss_one (ps_ret (pe_lst (pa_cons (pe_callB (call_max2 rfl) (by rfl) p.blt.max (by decide +kernel) (pa_cons pe_int (pa_cons (pe_op op_sub (pe_callB call_abs (by rfl) p.blt.abs (by decide +kernel) (pa_cons (pv 2) pa_nil)) (pe_op op_powW pe_int pe_int)) pa_nil))) (pa_cons (pe_op op_mod (pe_callTy call_int1 (by rfl) p.blt.int (by decide +kernel) (pa_cons (pe_op op_add (pe_op op_add (pe_op op_mulB (pv 2) pe_int) (pe_op op_mulB (pv 1) pe_int)) pe_int) pa_nil)) (pe_op op_add (pe_op op_powW pe_int pe_int) pe_int)) (pa_cons pe_int pa_nil))))))), ?_⟩
    -- the rest, for any cell of so many bits
    have rest : ∀ c : Int, Builtin.Int.intBits c ≤ 1048576 → ∀ y : List (Option V), y = [some (.ref a), some (.int i), some (.int c)] → tRet (tLst (tCons (tCB (fun xs H Q => ∃ i j, xs = [.int i, .int j] ∧ Q (.int (if j > i then j else i)) H) (tCons (tC (.int 0)) (tCons (tOp (rI0 fun i j => .int (i - j)) (tCB (fun xs H Q => ∃ i, xs = [.int i] ∧ Q (.int (if i < 0 then -i else i)) H) (tCons (tVar 2) tNil)) (tOp (rI CPowW fun i j => .int (i ^ j.toNat)) (tC (.int 10)) (tC (.int 18)))) tNil)))
        (tCons (tOp (rI (fun _ j => 0 < j) fun i j => .int (i % j)) (tCB (fun xs H Q => (∃ i, xs = [.int i] ∧ Q (.int i) H) ∨ ∃ k, xs = [.bl k] ∧ Q (.int (if k then 1 else 0)) H) (tCons (tOp (rI0 fun i j => .int (i + j)) (tOp (rI0 fun i j => .int (i + j)) (tOp (rI CMulB fun i j => .int (i * j)) (tVar 2) (tC (.int 48611))) (tOp (rI CMulB fun i j => .int (i * j)) (tVar 1) (tC (.int 7919173)))) (tC (.int 15485863))) tNil)) (tOp (rI0 fun i j => .int (i + j)) (tOp (rI CPowW fun i j => .int (i ^ j.toNat)) (tC (.int 10)) (tC (.int 24))) (tC (.int 7))))
        (tCons (tC (.int 0)) tNil)))) ⟨fun _ H' => Q .non H', Q, fun _ _ => False, fun _ _ => False⟩ y H := fun c hc y ey => by
      subst ey
      have b1 := bits_of (i := 48611) (n := 40) (by decide) (by decide)
      have b2 := bits_of (i := 7919173) (n := 40) (by decide) (by decide)
      have b3 := bits_of (i := i) (n := 100) (by decide) (by omega)
      have M2 : (0 : Int) < 10 ^ (24 : Int).toNat + 7 := by decide
      refine ⟨_, rfl, _, rfl, _, _, rfl, rfl, ⟨by decide, by decide⟩, _, _, rfl, rfl, _, _, rfl, ?_⟩
      refine ⟨_, rfl, _, _, rfl, rfl, (show _ < _ by omega), _, rfl, _, _, rfl, rfl, (show _ < _ by omega), _, _, rfl, rfl, _, _, rfl, rfl, .inl ⟨_, rfl, _, _, rfl, rfl, ⟨by decide, by decide⟩, _, _, rfl, rfl, _, _, rfl, rfl, M2, szle (by simp), fun q hq => ?_⟩⟩
      refine k _ q (same_upd hq) hq ⟨_, _, _, upd_same, Int.emod_nonneg _ (by omega), ?_, by omega, by omega⟩
      exact Int.lt_trans (Int.emod_lt_of_pos _ M2) (by decide)
    refine ⟨_, rfl, _, rfl, a, _, rfl, .inl hs, _, _, rfl, rfl, _, rfl, ?_⟩
    rw [ints_len]
    refine iteB (fun c => ?_) (fun c => ?_)
    · have hi : i < (ns.length : Int) := of_decide_eq_true c
      obtain ⟨z, hz⟩ : ∃ z, ns[i.toNat]? = some z := ⟨_, List.getElem?_eq_getElem (show i.toNat < ns.length by omega)⟩
      exact ⟨_, rfl, _, rfl, a, _, i, _, rfl, rfl, hs, at_nat (k := i.toNat) (by omega) (ints_at hz), rest z (hb z (List.mem_of_getElem? hz)) _ rfl⟩
    · exact rest 0 (by decide) _ rfl
/-- any number below the bound -/
def w__law_sx_pick : Tw := fun ds Q => ∃ m : Int, ds = [.int m] ∧ 0 < m ∧ m < 2 ^ 200 ∧ ∀ r : Int, 0 ≤ r → r < m → Q (.int r)
theorem ok__law_sx_pick (p : Prog K mg) : FnG P w K mg base CX0 1 p.f__law_sx_pick p.fd__law_sx_pick ["_law_sack", "_law_many"] (spP 1 w__law_sx_pick) := by
  refine okG p.d__law_sx_pick.F sc__law_sx_pick (fun vs H Q E h => ?_) (fun cdv A outer s H vs Q E hg hr h => ?_)
  · obtain ⟨p, b, vs', S, ds, G, rfl, _, _, r, _, ⟨m, rfl, _⟩, _⟩ := h
    exact congrArg Nat.succ r.length
  · obtain ⟨u, b, vs', S, ds, G, rfl, hp, hb, r, np, ⟨m, rfl, m0, m1, q⟩, k⟩ := h
    obtain ⟨x, y, z, e, y0, y1, z0, z1⟩ := hp
    cases r with
    | cons r r' =>
      cases r'
      cases r
      have hu : SqL K H u [.int x, .int y, .int z] := SqL.of e
      have ml : m.natAbs.log2 < 9000 := (wide_div (i := 0) (b := 200) m0 (by omega) (by decide) (by decide)).2
      have zb : z.natAbs < 2 ^ 100 := by omega
      refine ⟨_, (pss_cons (ps_if (pt_cmpR op_gt (pe_ix ix_list (pv 0) pe_int (fun _ _ => rfl)) pe_int (nomark _))
      (pss_cons (ps_set (i := 2) sc__law_sx_pick.nd rfl (Or.inl rfl) (pe_op op_mod (pe_callTy call_int1 (by rfl) p.blt.int (by decide +kernel) (pa_cons (pe_ix ix_list (pv 0) pe_int (fun _ _ => rfl)) pa_nil)) (pv 1)))
      (pss_cons (ps_asg (pe_op op_fdivW (pe_ix ix_list (pv 0) pe_int (fun _ _ => rfl)) (pv 1)) (pg_sub (pv 0) pe_int set_list))
      (pss_one (ps_ret (pv 2))))) pss_nil)
      (pss_cons (ps_asg (pe_op op_add (pe_ix ix_list (pv 0) pe_int (fun _ _ => rfl)) pe_int) (pg_sub (pv 0) pe_int set_list))
      (pss_cons (ps_set (i := 3) sc__law_sx_pick.nd rfl (Or.inl rfl) (pe_op op_mod (pe_op op_powW (pe_callTy call_int1 (by rfl) p.blt.int (by decide +kernel) (pa_cons (pe_op op_add (pe_ix ix_list (pv 0) pe_int (fun _ _ => rfl)) (pe_op op_mulB pe_int (pe_ix ix_list (pv 0) pe_int (fun _ _ => rfl)))) pa_nil)) pe_int) (pe_op op_add (pe_op op_powW pe_int pe_int) pe_int)))
      (pss_cons (ps_set (i := 3) sc__law_sx_pick.nd rfl (Or.inl rfl) (pe_op op_mod (pe_op op_powW (pe_callTy call_int1 (by rfl) p.blt.int (by decide +kernel) (pa_cons (pe_op op_add (pv 3) (pe_op op_mulB pe_int (pe_ix ix_list (pv 0) pe_int (fun _ _ => rfl)))) pa_nil)) pe_int) (pe_op op_add (pe_op op_powW pe_int pe_int) pe_int)))
      (pss_one (ps_ret (pe_op op_mod (pe_callTy call_int1 (by rfl) p.blt.int (by decide +kernel) (pa_cons (pe_op op_fdivW (pv 3) pe_int) pa_nil)) (pv 1)))))))), ?_⟩
      -- if sack[0] > 1
      refine ⟨_, rfl, _, _, _, _, rfl, rfl, hu, atI_nat (j := 0) rfl, _, _, rfl, rfl, _, rfl, ?_⟩
      refine iteB (fun _ => ?_) (fun _ => ?_)
      · refine ⟨_, rfl, _, _, _, _, rfl, rfl, hu, atI_nat (j := 0) rfl, .inl ⟨_, rfl, _, rfl, _, _, rfl, rfl, m0, ?_⟩⟩
        refine ⟨_, rfl, _, _, _, _, rfl, rfl, hu, atI_nat (j := 0) rfl, _, rfl, _, _, rfl, rfl, ⟨m0, ml⟩, _, rfl, _, _, _, 0, rfl, rfl, e, rfl, _, rfl, ?_⟩
        refine k _ _ _ (q (x % m) (Int.emod_nonneg _ (by omega)) (Int.emod_lt_of_pos _ m0)) (fun a o eo na => ?_) ⟨x / m, y, z, upd_same, y0, y1, z0, by omega⟩ ⟨[], .int _, by simp, by simp⟩
        rw [upd_ne na]
        exact eo
      · -- purse[2] = purse[2] + 1
        refine ⟨_, rfl, _, _, _, _, rfl, rfl, hu, atI_nat (j := 2) rfl, _, _, rfl, rfl, _, rfl, _, _, _, 2, rfl, rfl, e, rfl, ?_⟩
        have hu2 : SqL K (upd H u (.lst [.int x, .int y, .int (z + 1)])) u [.int x, .int y, .int (z + 1)] := SqL.of upd_same
        have c1 : CMulB 1299709 (z + 1) := by
          have h1 := bits_of (i := 1299709) (n := 40) (by decide) (by decide)
          have h2 := bits_of (i := z + 1) (n := 200) (by decide) (by omega)
          show _ < _
          omega
        have c2 : CPowW (y + 1299709 * (z + 1)) 3 := by
          have h2 := bits_of (i := y + 1299709 * (z + 1)) (n := 200) (by decide) (by omega)
          refine ⟨by decide, ?_⟩
          omega
        have c3 : CMulB 961748941 (z + 1) := by
          have h1 := bits_of (i := 961748941) (n := 40) (by decide) (by decide)
          have h2 := bits_of (i := z + 1) (n := 200) (by decide) (by omega)
          show _ < _
          omega
        have M1 : (0 : Int) < 10 ^ (25 : Int).toNat + 13 := by decide
        have M2 : (0 : Int) < 10 ^ (24 : Int).toNat + 7 := by decide
        have c4 : ∀ t : Int, CPowW (t % (10 ^ (25 : Int).toNat + 13) + 961748941 * (z + 1)) 2 := fun t => by
          have l1 := Int.emod_nonneg t (show (10 : Int) ^ (25 : Int).toNat + 13 ≠ 0 by decide)
          have l2 := Int.emod_lt_of_pos t M1
          have l3 : (10 : Int) ^ (25 : Int).toNat + 13 < 2 ^ 100 := by decide
          have h2 := bits_of (i := t % (10 ^ (25 : Int).toNat + 13) + 961748941 * (z + 1)) (n := 200) (by decide) (by omega)
          refine ⟨by decide, ?_⟩
          omega
        refine ⟨_, rfl, _, _, _, _, rfl, rfl, hu2, atI_nat (j := 1) rfl, _, rfl, _, _, _, _, rfl, rfl, hu2, atI_nat (j := 2) rfl, _, _, rfl, rfl, c1, _, _, rfl, rfl, .inl ⟨_, rfl, _, _, rfl, rfl, c2, _, _, rfl, rfl, ⟨by decide, by decide⟩, _, _, rfl, rfl, _, _, rfl, rfl, M1, ?_⟩⟩
        refine ⟨_, rfl, _, rfl, _, _, _, _, rfl, rfl, hu2, atI_nat (j := 2) rfl, _, _, rfl, rfl, c3, _, _, rfl, rfl, .inl ⟨_, rfl, _, _, rfl, rfl, c4 _, _, _, rfl, rfl, ⟨by decide, by decide⟩, _, _, rfl, rfl, _, _, rfl, rfl, M2, ?_⟩⟩
        refine ⟨_, rfl, _, _, rfl, rfl, ⟨by decide, by decide +kernel⟩, .inl ⟨_, rfl, _, rfl, _, _, rfl, rfl, m0, ?_⟩⟩
        refine k _ _ _ (q _ (Int.emod_nonneg _ (by omega)) (Int.emod_lt_of_pos _ m0)) (fun a o eo na => ?_) ⟨x, y, z + 1, upd_same, y0, y1, by omega, by omega⟩ ⟨[], .int _, by simp, by simp⟩
        rw [upd_ne na]
        exact eo
def w__law_sx_shuffled : Tw := fun ds Q => ∃ gs : List Int, ds = [dI gs] ∧ gs.length ≤ 10 ∧ ∀ hs : List Int, hs.Perm gs → Q (dI hs)
theorem ar__law_sx_shuffled : ∀ ds G, w__law_sx_shuffled ds G → ds.length + 1 = 2 := by
  rintro ds G ⟨gs, rfl, _⟩
  rfl
def kb__law_sx_shuffled_1 : KS := (kDrop (kApp (kVar 3) (kPopAt (kVar 2) (kCallP 1 w__law_sx_pick 1 (kCons (kVar 0) (kCons (kF 1 vLen (kCons (kVar 2) kNil)) kNil))))))
def kr__law_sx_shuffled_2 : KS := (kRet (kMov 3))
def kr__law_sx_shuffled_3 : KS := (kSeq (kFor (kRng1 (kF 1 vLen (kCons (kVar 1) kNil))) (kgName 4) kb__law_sx_shuffled_1)
  kr__law_sx_shuffled_2)
def k__law_sx_shuffled : KS := (kSeq (kPar 2 3 (kCons (kListOf (kCons (kVar 1) kNil)) (kCons (kLit (.list [])) kNil)))
  kr__law_sx_shuffled_3)
local macro_rules | `(tactic| walk_at "go") => `(tactic| ((first | unfold kr__law_sx_shuffled_2 | unfold kr__law_sx_shuffled_3); walk_at "ev"))
theorem erase_permS : ∀ {l : List Int} {k : Nat} (h : k < l.length), (l[k] :: l.eraseIdx k).Perm l
  | x :: l, 0, _ => .refl _
  | x :: l, k + 1, h => by
    have q := erase_permS (l := l) (k := k) (by simpa using h)
    simp only [List.eraseIdx_cons_succ, List.getElem_cons_succ]
    exact (List.Perm.swap x _ _).trans (q.cons x)
theorem val__law_sx_shuffled : ∀ ds G, w__law_sx_shuffled ds G → k__law_sx_shuffled ⟨.pu :: (ds.map Sl.fz ++ [.jk, .jk, .jk]), [], 10⟩ (edP G) := by
  rintro ds Gq ⟨gs, rfl, hl, q⟩
  unfold k__law_sx_shuffled
  walk_at "ev"
  walk_at "go"
  refine ⟨⟨by omega, by omega⟩, ?_⟩
  have lr := rg_length 0 (gs.length : Int)
  refine forL_ints (rg 0 (gs.length : Int)) (fun pre γ => ∃ (pool puts : List Int) (u : Sl), γ = ⟨[.pu, .fz (dI gs), .ow true (dI pool), .ow true (dI puts), u], [], 10 - pre.length⟩ ∧ (puts ++ pool).Perm gs ∧ puts.length = pre.length) (fun pre x post γ N hl2 ht hP hN => ?_) (fun γ ht hP => ?_) _ rfl ⟨gs, [], _, rfl, .refl _, rfl⟩
  · obtain ⟨pool, puts, u, rfl, pm, el⟩ := hP
    have hlen := congrArg List.length hl2
    rw [lr, List.length_append, List.length_cons] at hlen
    have pml := pm.length_eq
    rw [List.length_append] at pml
    unfold kb__law_sx_shuffled_1
    walk_at "ev"
    refine ⟨⟨by decide, by omega⟩, _, rfl, by omega, by omega, fun r r0 r1 => ?_⟩
    walk_at "ev"
    have hlt : r.toNat < pool.length := by omega
    have ge : (pool.map PyData.int)[r.toNat]? = some (.int (pool.getD r.toNat 0)) := by
      rw [List.getElem?_map, List.getD_eq_getElem?_getD, List.getElem?_eq_getElem hlt]
      rfl
    refine ⟨rfl, ⟨r0, r1, by omega⟩, ?_⟩
    rw [ge]
    walk_at "ev"
    refine ⟨by omega, ?_⟩
    rw [map_erase]
    have e1 : puts.map PyData.int ++ [PyData.int (pool.getD r.toNat 0)] = (puts ++ [pool.getD r.toNat 0]).map PyData.int := by rw [List.map_append]; rfl
    rw [e1]
    refine hN _ rfl ⟨pool.eraseIdx r.toNat, puts ++ [pool.getD r.toNat 0], .fz (.int x), ?_, ?_, by rw [List.length_append, List.length_append, el]; rfl⟩
    · rw [List.length_append, List.length_singleton, show (10 : Int) - pre.length - 1 = 10 - ((pre.length + 1 : Nat) : Int) by omega]
    · rw [List.append_assoc]
      refine List.Perm.trans (List.Perm.append_left _ ?_) pm
      have gg : pool.getD r.toNat 0 = pool[r.toNat] := by rw [List.getD_eq_getElem?_getD, List.getElem?_eq_getElem hlt]; rfl
      rw [gg]
      exact erase_permS hlt
  · obtain ⟨pool, puts, u, rfl, pm, el⟩ := hP
    have pml := pm.length_eq
    rw [List.length_append] at pml
    rw [lr] at el
    have e0 : pool = [] := List.eq_nil_of_length_eq_zero (by omega)
    subst e0
    rw [List.append_nil] at pm
    walk_at "go"
    exact ⟨by rw [lr]; omega, q puts pm⟩
theorem ok__law_sx_shuffled (p : Prog K mg) : FnG P w K mg base CX0 2 p.f__law_sx_shuffled p.fd__law_sx_shuffled ["_law_sack", "_law_row"] (spP 10 w__law_sx_shuffled) :=
  okP p.d__law_sx_shuffled.F sc__law_sx_shuffled (by decide) ar__law_sx_shuffled (by decide) (fun cdv A outer s H E hg hr => ⟨_, (pss_cons (ps_par (i := 2) (j := 3) rfl sc__law_sx_shuffled.nd rfl rfl (by decide) rfl rfl (pa_cons (pe_callTy call_list_of (by rfl) p.blt.list (by decide +kernel) (pa_cons (pv 1) pa_nil)) (pa_cons (pe_lst pa_nil) pa_nil)) (by rfl))
      (pss_cons (ps_for PassesOwn.never rfl (pi_range1 (by rfl) p.blt.range (pa_cons (pe_callB call_len_seq (by rfl) p.blt.len PySem.boot_len (pa_cons (pv 1) pa_nil)) pa_nil)) (pg_name (i := 4) sc__law_sx_shuffled.nd rfl (Or.inl rfl))
      (pss_one (ps_expr (pe_bm PySem.F.plainAttrs_list PySem.F.slot_list_append PySem.F.type_list_append mt_append (pv 3) (pa_cons (pe_bm PySem.F.plainAttrs_list PySem.F.slot_list_pop PySem.F.type_list_pop mt_popAt (pv 2) (pa_cons (pe_callG ((ok__law_sx_pick p).mono (by decide)) hg hr (by rfl) p.d__law_sx_pick.gl p.d__law_sx_pick.kp p.d__law_sx_pick.bd pass0 (pa_cons (pv 0) (pa_cons (pe_callB call_len_seq (by rfl) p.blt.len PySem.boot_len (pa_cons (pv 2) pa_nil)) pa_nil))) pa_nil)) pa_nil)))))
      (pss_one (ps_ret (pv 3))))),
    fun C xc => (so_seq (so_par (i := 2) (j := 3) (by decide) (so_cons (so_listOf (so_cons (so_var (i := 1)) so_nil)) (so_cons (so_lit_lst so_lits_nil) so_nil)))
      (so_seq (so_for (so_rng1 (so_f sc_len (so_cons (so_var (i := 1)) so_nil))) (so_gname (i := 4))
      (so_drop (so_app (so_var (i := 3)) (so_popAt (so_var (i := 2)) (so_callP (so_cons (so_var (i := 0)) (so_cons (so_f sc_len (so_cons (so_var (i := 2)) so_nil)) so_nil)))))))
      (so_ret (so_mov (i := 3)))))⟩) val__law_sx_shuffled
def w__law_sx_least : Tw := fun ds Q => ∃ n gs, ds = [.int n, dI gs] ∧ Eff (n, gs) ∧ gs.length ≤ 1000 ∧ Q (dE (leastE n gs))
theorem ar__law_sx_least : ∀ ds G, w__law_sx_least ds G → ds.length = 2 := by
  rintro ds G ⟨n, gs, rfl, _⟩
  rfl
def kb__law_sx_least_1 : KS := (kIfS (kTAnd (kTest (kOp (vEq false) (kIx true (kVar 1) (kOp (vI noC fun i j => i - j) (kVar 2) (kC (.int 1)))) (kVar 0))) (kTest (kOp (vIn true) (kVar 0) (kSl (kVar 1) kNo (kPart (kOp (vI noC fun i j => i - j) (kVar 2) (kC (.int 1))))))))
  (kPar 2 0 (kCons (kOp (vI noC fun i j => i - j) (kVar 2) (kC (.int 1))) (kCons (kOp (vI noC fun i j => i - j) (kVar 0) (kC (.int 1))) kNil)))
  kBreak)
def kr__law_sx_least_2 : KS := (kRet (kMk false 2 (kCons (kVar 0) (kCons (kListOf (kCons (kSl (kVar 1) kNo (kPart (kVar 2))) kNil)) kNil))))
def kr__law_sx_least_3 : KS := (kSeq (kFor (kRng1 (kF 1 vLen (kCons (kVar 1) kNil))) (kgName 3) kb__law_sx_least_1)
  kr__law_sx_least_2)
def k__law_sx_least : KS := (kSeq (kAsg (kF 1 vLen (kCons (kVar 1) kNil)) (kgName 2))
  kr__law_sx_least_3)
local macro_rules | `(tactic| walk_at "go") => `(tactic| ((first | unfold kr__law_sx_least_2 | unfold kr__law_sx_least_3); walk_at "ev"))
theorem val__law_sx_least : ∀ ds G, w__law_sx_least ds G → k__law_sx_least ⟨ds.map Sl.fz ++ [.jk, .jk], [], 0⟩ (edT G) := by
  rintro ds Gq ⟨n, gs, rfl, ef, hl, q⟩
  unfold k__law_sx_least
  walk_at "ev"
  walk_at "go"
  refine ⟨⟨by omega, by omega⟩, ?_⟩
  have lr := rg_length 0 (gs.length : Int)
  have n0 : 0 ≤ n := ef.nn
  -- the end
  have fin : ∀ (m : Int) (s : Nat) (u : Sl), s ≤ gs.length → trim gs s m = trim gs gs.length n → trim gs s m = (s, m) → kr__law_sx_least_2 ⟨[.fz (.int m), .fz (dI gs), .fz (.int s), u], [], 0⟩ (edT Gq) := fun m s u hs h1 h2 => by
    walk_at "go"
    rw [cutD_toN]
    walk_at "ev"
    have e1 : leastE n gs = (m, gs.take s) := by
      unfold leastE
      rw [← h1, h2]
    rw [e1] at q
    exact q
  refine forL_ints (rg 0 (gs.length : Int)) (fun pre γ => ∃ (m : Int) (s : Nat) (u : Sl), γ = ⟨[.fz (.int m), .fz (dI gs), .fz (.int s), u], [], 0⟩ ∧ s + pre.length = gs.length ∧ trim gs s m = trim gs gs.length n ∧ ∀ x ∈ gs.take s, x ≤ m) (fun pre x post γ N hl2 ht hP hN => ?_) (fun γ ht hP => ?_) _ rfl ⟨n, gs.length, _, rfl, by simp, rfl, fun x hx => ef.le x (List.mem_of_mem_take hx)⟩
  · obtain ⟨m, s, u, rfl, hs, htr, hle⟩ := hP
    have hlen := congrArg List.length hl2
    rw [lr, List.length_append, List.length_cons] at hlen
    obtain ⟨t, rfl⟩ : ∃ t, s = t + 1 := ⟨s - 1, by omega⟩
    have hlt : t < gs.length := by omega
    have e1 : (((t + 1 : Nat) : Int) - 1) = (t : Int) := by omega
    have htk : gs.take (t + 1) = gs.take t ++ [gs.getD t 0] := by
      rw [List.take_add_one, List.getD_eq_getElem?_getD, List.getElem?_eq_getElem hlt]
      rfl
    unfold kb__law_sx_least_1
    walk_at "ev"
    rw [e1]
    refine ixD_ints (by omega) (by omega) ?_
    rw [Int.toNat_natCast]
    walk_at "ev"
    rw [cutD_toN, allflat_ints, inV_intsD]
    have last : gs[t]? = some (gs.getD t 0) := by
      rw [List.getD_eq_getElem?_getD, List.getElem?_eq_getElem hlt]
      rfl
    have stop : ¬ (gs[t]? = some m ∧ ∀ x ∈ gs.take t, x < m) → kr__law_sx_least_2 ⟨[.fz (.int m), .fz (dI gs), .fz (.int ((t + 1 : Nat) : Int)), .fz (.int x)], [], 0⟩ (edT Gq) := fun no => by
      refine fin m (t + 1) _ (by omega) htr ?_
      conv => lhs; unfold trim
      rw [if_neg no]
    refine iteB (fun c1 => ?_) (fun c1 => ?_)
    · have c1 : gs.getD t 0 = m := of_decide_eq_true c1
      refine ⟨rfl, ?_⟩
      refine iteB (fun c2 => ?_) (fun c2 => ?_)
      · have c2 : m ∉ gs.take t := by simpa using c2
        have cond : gs[t]? = some m ∧ ∀ x ∈ gs.take t, x < m := ⟨by rw [last, c1], fun y hy => by
          have a := hle y (by rw [htk]; exact List.mem_append_left _ hy)
          have b : y ≠ m := fun z => c2 (z ▸ hy)
          omega⟩
        refine hN _ rfl ⟨m - 1, t, _, rfl, by rw [List.length_append, List.length_singleton]; omega, ?_, fun y hy => by have := cond.2 y hy; omega⟩
        rw [← htr]
        conv => rhs; unfold trim
        rw [if_pos cond]
      · have c2 : m ∈ gs.take t := by simpa using c2
        exact stop fun z => by have := z.2 m c2; omega
    · have c1 : ¬ gs.getD t 0 = m := of_decide_eq_false c1
      exact stop fun z => by
        have := z.1
        rw [last] at this
        exact c1 (Option.some.inj this)
  · obtain ⟨m, s, u, rfl, hs, htr, hle⟩ := hP
    rw [lr] at hs
    obtain rfl : s = 0 := by omega
    exact fin m 0 u (by omega) htr rfl
theorem ok__law_sx_least (p : Prog K mg) : FnG P w K mg base CX0 1 p.f__law_sx_least p.fd__law_sx_least ["_law_needs", "_law_gives"] (spT w__law_sx_least) :=
  okT p.d__law_sx_least.F sc__law_sx_least (by decide) ar__law_sx_least (fun cdv A outer s H E hg hr => ⟨_, (pss_cons (ps_set (i := 2) sc__law_sx_least.nd rfl (Or.inl rfl) (pe_callB call_len_seq (by rfl) p.blt.len PySem.boot_len (pa_cons (pv 1) pa_nil)))
      (pss_cons (ps_for PassesOwn.never rfl (pi_range1 (by rfl) p.blt.range (pa_cons (pe_callB call_len_seq (by rfl) p.blt.len PySem.boot_len (pa_cons (pv 1) pa_nil)) pa_nil)) (pg_name (i := 3) sc__law_sx_least.nd rfl (Or.inl rfl))
      (pss_one (ps_if (PW.pt (pw_and (pt_cmpR op_eq (pe_ix ix_list (pv 1) (pe_op op_sub (pv 2) pe_int) (fun _ _ => rfl)) (pv 0) (nomark _)) (pw_and1 (pt_cmpR op_notIn_seq (pv 0) (pe_slice sl_list (pv 1) po_none (po_some (pe_op op_sub (pv 2) pe_int))) rfl))))
      (pss_one (ps_par (i := 2) (j := 0) rfl sc__law_sx_least.nd rfl rfl (by decide) rfl rfl (pa_cons (pe_op op_sub (pv 2) pe_int) (pa_cons (pe_op op_sub (pv 0) pe_int) pa_nil)) (by rfl))) (pss_one ps_break))))
      (pss_one (ps_ret (pe_tup (pa_cons (pv 0) (pa_cons (pe_callTy call_list_of (by rfl) p.blt.list (by decide +kernel) (pa_cons (pe_slice sl_list (pv 1) po_none (po_some (pv 2))) pa_nil)) pa_nil))))))),
    fun C xc => (so_seq (so_asg (so_f sc_len (so_cons (so_var (i := 1)) so_nil)) (so_gname (i := 2)))
      (so_seq (so_for (so_rng1 (so_f sc_len (so_cons (so_var (i := 1)) so_nil))) (so_gname (i := 3))
      (so_ifS (so_tand (so_test (so_op sr_eq (so_ixL (so_var (i := 1)) (so_op sr_I0 (so_var (i := 2)) (so_c (sca_int _)))) (so_var (i := 0)))) (so_test (so_op sr_in (so_var (i := 0)) (so_sl (so_var (i := 1)) so_no (so_part (so_op sr_I0 (so_var (i := 2)) (so_c (sca_int _))))))))
      (so_par (i := 2) (j := 0) (by decide) (so_cons (so_op sr_I0 (so_var (i := 2)) (so_c (sca_int _))) (so_cons (so_op sr_I0 (so_var (i := 0)) (so_c (sca_int _))) so_nil))) so_break))
      (so_ret (so_tup (so_cons (so_var (i := 0)) (so_cons (so_listOf (so_cons (so_sl (so_var (i := 1)) so_no (so_part (so_var (i := 2)))) so_nil)) so_nil))))))⟩) val__law_sx_least
def w__law_sx_effect : Tw := fun ds Q => ∃ n l : Int, ds = [.int n, .int l] ∧ 0 ≤ n ∧ n ≤ 10 ∧ 0 ≤ l ∧ l ≤ 10 ∧ ∀ e : Int × List Int, Eff e → Lst e → e.1 ≤ n → (e.2.length : Int) ≤ l → Q (dE e)
theorem ar__law_sx_effect : ∀ ds G, w__law_sx_effect ds G → ds.length + 1 = 3 := by
  rintro ds G ⟨n, l, rfl, _⟩
  rfl
def kr__law_sx_effect_1 : KS := (kRet (kCallT w__law_sx_least 2 (kCons (kVar 4) (kCons (kCallP 10 w__law_sx_shuffled 1 (kCons (kVar 0) (kCons (kListRg (kRg2 (kC (.int 1)) (kOp (vI noC fun i j => i + j) (kVar 4) (kC (.int 1))))) kNil))) kNil))))
def kr__law_sx_effect_2 : KS := (kRet (kCallT w__law_sx_least 2 (kCons (kVar 4) (kCons (kLc (kRng1 (kVar 5)) 6 kYes (kOp (vI noC fun i j => i + j) (kC (.int 1)) (kCallP 1 w__law_sx_pick 1 (kCons (kVar 0) (kCons (kVar 4) kNil))))) kNil))))
def kr__law_sx_effect_3 : KS := (kSeq (kIfS (kTest (kOp (vEq false) (kVar 3) (kC (.int 1))))
  (kAsg (kF 2 (v2I fun i j => if j < i then j else i) (kCons (kVar 4) (kCons (kVar 2) kNil))) (kgName 5))
  kNext)
  kr__law_sx_effect_2)
def kr__law_sx_effect_4 : KS := (kSeq (kAsg (kIf (kTest (kOp (vB fun i j => decide (j < i)) (kVar 4) (kC (.int 0)))) (kCallP 1 w__law_sx_pick 1 (kCons (kVar 0) (kCons (kOp (vI noC fun i j => i + j) (kVar 2) (kC (.int 1))) kNil))) (kC (.int 0))) (kgName 5))
  kr__law_sx_effect_3)
def kr__law_sx_effect_5 : KS := (kSeq (kIfS (kTest (kOp (vEq false) (kVar 3) (kC (.int 0))))
  (kSeq (kAsg (kF 2 (v2I fun i j => if j < i then j else i) (kCons (kVar 4) (kCons (kVar 2) kNil))) (kgName 4))
  kr__law_sx_effect_1)
  kNext)
  kr__law_sx_effect_4)
def k__law_sx_effect : KS := (kSeq (kAsg (kMk false 2 (kCons (kCallP 1 w__law_sx_pick 1 (kCons (kVar 0) (kCons (kC (.int 4)) kNil))) (kCons (kCallP 1 w__law_sx_pick 1 (kCons (kVar 0) (kCons (kOp (vI noC fun i j => i + j) (kVar 1) (kC (.int 1))) kNil))) kNil))) (kgTup 2 (kgCons (kgName 3) (kgCons (kgName 4) kgNil))))
  kr__law_sx_effect_5)
local macro_rules | `(tactic| walk_at "go") => `(tactic| ((first | unfold kr__law_sx_effect_1 | unfold kr__law_sx_effect_2 | unfold kr__law_sx_effect_3 | unfold kr__law_sx_effect_4 | unfold kr__law_sx_effect_5); walk_at "ev"))
theorem val__law_sx_effect : ∀ ds G, w__law_sx_effect ds G → k__law_sx_effect ⟨.pu :: (ds.map Sl.fz ++ [.jk, .jk, .jk, .jk]), [], 30⟩ (edP G) := by
  rintro ds Gq ⟨n, l, rfl, n0, n1, l0, l1, q⟩
  unfold k__law_sx_effect
  walk_at "ev"
  refine ⟨by decide, 4, rfl, by decide, by decide, fun md a0 a1 => ?_⟩
  walk_at "ev"
  refine ⟨by decide, _, rfl, by omega, by omega, fun d d0 d1 => ?_⟩
  walk_at "ev"
  walk_at "go"
  have res : ∀ (m : Int) (gs : List Int), Eff (m, gs) → m ≤ n → (gs.length : Int) ≤ l → Gq (dE (leastE m gs)) := fun m gs ef hm hl => by
    have lk := leastE_ok ef
    have a := lk.le
    have b := lk.len
    exact q _ lk.eff lk.lst (by omega) (by omega)
  have rest : ∀ md : Int, 0 ≤ md → kr__law_sx_effect_4 ⟨[.pu, .fz (.int n), .fz (.int l), .fz (.int md), .fz (.int d), .jk, .jk], [], 28⟩ (edP Gq) := fun md m0 => by
    have tail : ∀ (sz j : Int), 0 ≤ sz → sz ≤ l → (0 < sz → 0 < d) → 20 ≤ j → kr__law_sx_effect_2 ⟨[.pu, .fz (.int n), .fz (.int l), .fz (.int md), .fz (.int d), .fz (.int sz), .jk], [], j⟩ (edP Gq) := fun sz j z0 z1 zd hj => by
      walk_at "go"
      refine ⟨⟨by omega, by omega⟩, ?_⟩
      have lr := rg_length 0 sz
      refine lc_inv (j := 6) true (rg 0 sz) PyData.int (fun pre acc n' => ∃ hs : List Int, acc = hs.map PyData.int ∧ hs.length = pre.length ∧ pre.length ≤ 10 ∧ (∀ x ∈ hs, 1 ≤ x ∧ x ≤ d) ∧ n' = j - pre.length) rfl rfl (fun pre acc n' hp => ?_) (fun pre x post acc n' Y X hl2 hp hY hX => ?_) (fun acc n' hp => ?_) [] j ⟨[], rfl, rfl, by simp, by simp, by simp⟩
      · obtain ⟨hs, rfl, h1, h2, _⟩ := hp
        rw [List.length_map]
        omega
      · obtain ⟨hs, rfl, h1, h2, h3, rfl⟩ := hp
        have hm := rg_mid hl2
        have hlen := congrArg List.length hl2
        rw [lr, List.length_append, List.length_cons] at hlen
        walk_at "ev"
        refine ⟨⟨by decide, by omega⟩, d, rfl, by omega, by omega, fun r r0 r1 => ?_⟩
        walk_at "ev"
        refine hY _ true _ _ rfl rfl ⟨hs ++ [1 + r], by simp, by simp [h1], by rw [List.length_append, List.length_singleton]; omega, fun y hy => ?_, by rw [List.length_append, List.length_singleton]; omega⟩
        rcases List.mem_append.mp hy with hy | hy
        · exact h3 y hy
        · simp at hy
          omega
      · obtain ⟨hs, rfl, h1, h2, h3, rfl⟩ := hp
        rw [lr] at h1 h2
        walk_at "ev"
        have ew : Eff (d, hs) := ⟨d0, fun x hx => (h3 x hx).1, fun x hx => (h3 x hx).2⟩
        refine ⟨d, hs, rfl, ew, by omega, ?_⟩
        walk_at "ev"
        exact ⟨by rw [lr]; omega, res d hs ew (by omega) (by omega)⟩
    have three : ∀ (sz j : Int), 0 ≤ sz → sz ≤ l → (0 < sz → 0 < d) → 20 ≤ j → kr__law_sx_effect_3 ⟨[.pu, .fz (.int n), .fz (.int l), .fz (.int md), .fz (.int d), .fz (.int sz), .jk], [], j⟩ (edP Gq) := fun sz j z0 z1 zd hj => by
      walk_at "go"
      refine iteB (fun c => ?_) (fun c => tail sz j z0 z1 zd hj)
      have := tail (if l < d then l else d) j (by split <;> omega) (by split <;> omega) (fun z => by split at z <;> omega) hj
      exact this
    walk_at "go"
    refine iteB (fun c => ?_) (fun c => three 0 28 (by decide) l0 (fun z => absurd z (by decide)) (by decide))
    have c := of_decide_eq_true c
    refine ⟨⟨by decide, by decide⟩, _, rfl, by omega, by omega, fun sz z0 z1 => ?_⟩
    walk_at "ev"
    exact three sz _ z0 (by omega) (fun _ => c) (by decide)
  refine iteB (fun c => ?_) (fun c => rest md a0)
  walk_at "go"
  obtain ⟨b, hb, b0, b1, b2⟩ : ∃ b : Int, (if l < d then l else d) = b ∧ 0 ≤ b ∧ b ≤ d ∧ b ≤ l := ⟨_, rfl, by split <;> omega, by split <;> omega, by split <;> omega⟩
  rw [hb]
  have lr := rg_length 1 (b + 1)
  refine ⟨⟨by omega, by omega, by omega, by omega, by omega⟩, ⟨by decide, by decide⟩, rg 1 (b + 1), rfl, by omega, fun hs pm => ?_⟩
  have ew : Eff (b, hs) := ⟨b0, fun x hx => (mem_rg.mp (pm.mem_iff.mp hx)).1, fun x hx => by
    have := (mem_rg.mp (pm.mem_iff.mp hx)).2
    show x ≤ b
    omega⟩
  have pl := pm.length_eq
  refine ⟨b, hs, rfl, ew, by omega, ?_⟩
  exact ⟨by decide, res b hs ew (by omega) (by omega)⟩
theorem ok__law_sx_effect (p : Prog K mg) : FnG P w K mg base CX0 3 p.f__law_sx_effect p.fd__law_sx_effect ["_law_sack", "_law_needs", "_law_length"] (spP 30 w__law_sx_effect) :=
  okP p.d__law_sx_effect.F sc__law_sx_effect (by decide) ar__law_sx_effect (by decide) (fun cdv A outer s H E hg hr => ⟨_, (pss_cons (ps_asg (pe_tup (pa_cons (pe_callG ((ok__law_sx_pick p).mono (by decide)) hg hr (by rfl) p.d__law_sx_pick.gl p.d__law_sx_pick.kp p.d__law_sx_pick.bd pass0 (pa_cons (pv 0) (pa_cons pe_int pa_nil))) (pa_cons (pe_callG ((ok__law_sx_pick p).mono (by decide)) hg hr (by rfl) p.d__law_sx_pick.gl p.d__law_sx_pick.kp p.d__law_sx_pick.bd pass0 (pa_cons (pv 0) (pa_cons (pe_op op_add (pv 1) pe_int) pa_nil))) pa_nil))) (pg_tup rfl (pgs_cons (pg_name (i := 3) sc__law_sx_effect.nd rfl (Or.inl rfl)) (pgs_cons (pg_name (i := 4) sc__law_sx_effect.nd rfl (Or.inr rfl)) pgs_nil))))
      (pss_cons (ps_if (pt_cmpR op_eq (pv 3) pe_int (nomark _))
      (pss_cons (ps_set (i := 4) sc__law_sx_effect.nd rfl (Or.inr rfl) (pe_callB (call_min2 rfl) (by rfl) p.blt.min (by decide +kernel) (pa_cons (pv 4) (pa_cons (pv 2) pa_nil))))
      (pss_one (ps_ret (pe_callG ((ok__law_sx_least p).mono (by decide)) hg hr (by rfl) p.d__law_sx_least.gl p.d__law_sx_least.kp p.d__law_sx_least.bd pass0 (pa_cons (pv 4) (pa_cons (pe_callG ((ok__law_sx_shuffled p).mono (by decide)) hg hr (by rfl) p.d__law_sx_shuffled.gl p.d__law_sx_shuffled.kp p.d__law_sx_shuffled.bd pass0 (pa_cons (pv 0) (pa_cons (pe_listRg rfl (by rfl) p.blt.list (prg_2 (by rfl) p.blt.range pe_int (pe_op op_add (pv 4) pe_int))) pa_nil))) pa_nil)))))) pss_nil)
      (pss_cons (ps_set (i := 5) sc__law_sx_effect.nd rfl (Or.inl rfl) (pe_ifExp (pt_cmpR op_gt (pv 4) pe_int (nomark _)) (pe_callG ((ok__law_sx_pick p).mono (by decide)) hg hr (by rfl) p.d__law_sx_pick.gl p.d__law_sx_pick.kp p.d__law_sx_pick.bd pass0 (pa_cons (pv 0) (pa_cons (pe_op op_add (pv 2) pe_int) pa_nil))) pe_int))
      (pss_cons (ps_if (pt_cmpR op_eq (pv 3) pe_int (nomark _))
      (pss_one (ps_set (i := 5) sc__law_sx_effect.nd rfl (Or.inl rfl) (pe_callB (call_min2 rfl) (by rfl) p.blt.min (by decide +kernel) (pa_cons (pv 4) (pa_cons (pv 2) pa_nil))))) pss_nil)
      (pss_one (ps_ret (pe_callG ((ok__law_sx_least p).mono (by decide)) hg hr (by rfl) p.d__law_sx_least.gl p.d__law_sx_least.kp p.d__law_sx_least.bd pass0 (pa_cons (pv 4) (pa_cons (pe_lc (own := [("_law_turn", 6)]) (g := gName 6) (tt := tYes) rfl sc__law_sx_effect.nd (pi_range1 (by rfl) p.blt.range (pa_cons (pv 5) pa_nil)) (blkOk_by (N := N__law_sx_effect) (sc := defScope s__law_sx_effect) (by decide +kernel)) (fun _ _ _ _ _ => pg_name (i := 6) sc__law_sx_effect.nd rfl (Or.inl rfl)) (fun _ _ _ _ _ => pts_nil) (fun _ _ _ _ _ => (pe_op op_add pe_int (pe_callG ((ok__law_sx_pick p).mono (by decide)) hg hr (by rfl) p.d__law_sx_pick.gl p.d__law_sx_pick.kp p.d__law_sx_pick.bd pass0 (pa_cons (pv 0) (pa_cons (pv 4) pa_nil)))))) pa_nil))))))))),
    fun C xc => (so_seq (so_asg (so_tup (so_cons (so_callP (so_cons (so_var (i := 0)) (so_cons (so_c (sca_int _)) so_nil))) (so_cons (so_callP (so_cons (so_var (i := 0)) (so_cons (so_op sr_I0 (so_var (i := 1)) (so_c (sca_int _))) so_nil))) so_nil))) (so_gtup (so_gcons (so_gname (i := 3)) (so_gcons (so_gname (i := 4)) so_gnil))))
      (so_seq (so_ifS (so_test (so_op sr_eq (so_var (i := 3)) (so_c (sca_int _))))
      (so_seq (so_asg (so_f sc_2i (so_cons (so_var (i := 4)) (so_cons (so_var (i := 2)) so_nil))) (so_gname (i := 4)))
      (so_ret (so_callT (so_cons (so_var (i := 4)) (so_cons (so_callP (so_cons (so_var (i := 0)) (so_cons (so_listRg2 (so_c (sca_int _)) (so_op sr_I0 (so_var (i := 4)) (so_c (sca_int _)))) so_nil))) so_nil))))) so_next)
      (so_seq (so_asg (so_if (so_test (so_op sr_B (so_var (i := 4)) (so_c (sca_int _)))) (so_callP (so_cons (so_var (i := 0)) (so_cons (so_op sr_I0 (so_var (i := 2)) (so_c (sca_int _))) so_nil))) (so_c (sca_int _))) (so_gname (i := 5)))
      (so_seq (so_ifS (so_test (so_op sr_eq (so_var (i := 3)) (so_c (sca_int _))))
      (so_asg (so_f sc_2i (so_cons (so_var (i := 4)) (so_cons (so_var (i := 2)) so_nil))) (so_gname (i := 5))) so_next)
      (so_ret (so_callT (so_cons (so_var (i := 4)) (so_cons (so_lc (so_rng1 (so_var (i := 5))) so_yes (so_op sr_I0 (so_c (sca_int _)) (so_callP (so_cons (so_var (i := 0)) (so_cons (so_var (i := 4)) so_nil))))) so_nil))))))))⟩) val__law_sx_effect
def w__law_sx_wide : Tw := fun ds Q => ∃ e : Int × List Int, ds = [dE e] ∧ Eff e ∧ e.1 ≤ 1000 ∧ e.2.length ≤ 1000 ∧ ∀ m : Int, 0 ≤ m → m ≤ 2 → Q (dE (e.1 + m, e.2 ++ rg (e.1 + 1) (e.1 + m + 1)))
theorem ar__law_sx_wide : ∀ ds G, w__law_sx_wide ds G → ds.length + 1 = 2 := by
  rintro ds G ⟨e, rfl, _⟩
  rfl
def kr__law_sx_wide_1 : KS := (kRet (kMk false 2 (kCons (kOp (vI noC fun i j => i + j) (kIx false (kVar 1) (kC (.int 0))) (kVar 2)) (kCons (kCat (kIx false (kVar 1) (kC (.int 1))) (kListRg (kRg2 (kOp (vI noC fun i j => i + j) (kIx false (kVar 1) (kC (.int 0))) (kC (.int 1))) (kOp (vI noC fun i j => i + j) (kOp (vI noC fun i j => i + j) (kIx false (kVar 1) (kC (.int 0))) (kVar 2)) (kC (.int 1)))))) kNil))))
def k__law_sx_wide : KS := (kSeq (kAsg (kCallP 1 w__law_sx_pick 1 (kCons (kVar 0) (kCons (kC (.int 3)) kNil))) (kgName 2))
  kr__law_sx_wide_1)
local macro_rules | `(tactic| walk_at "go") => `(tactic| ((first | unfold kr__law_sx_wide_1); walk_at "ev"))
theorem val__law_sx_wide : ∀ ds G, w__law_sx_wide ds G → k__law_sx_wide ⟨.pu :: (ds.map Sl.fz ++ [.jk]), [], 1⟩ (edP G) := by
  rintro ds Gq ⟨e, rfl, ef, n1, l1, q⟩
  have n0 := ef.nn
  unfold k__law_sx_wide
  walk_at "ev"
  refine ⟨by decide, 3, rfl, by decide, by decide, fun m m0 m1 => ?_⟩
  walk_at "ev"
  have lr := rg_length (e.1 + 1) (e.1 + m + 1)
  walk_at "go"
  refine ⟨⟨by omega, by omega, by omega, by omega⟩, by omega, ?_⟩
  rw [← List.map_append]
  exact ⟨by decide, q m m0 (by omega)⟩
theorem ok__law_sx_wide (p : Prog K mg) : FnG P w K mg base CX0 2 p.f__law_sx_wide p.fd__law_sx_wide ["_law_sack", "_law_one"] (spP 1 w__law_sx_wide) :=
  okP p.d__law_sx_wide.F sc__law_sx_wide (by decide) ar__law_sx_wide (by decide) (fun cdv A outer s H E hg hr => ⟨_, (pss_cons (ps_set (i := 2) sc__law_sx_wide.nd rfl (Or.inl rfl) (pe_callG ((ok__law_sx_pick p).mono (by decide)) hg hr (by rfl) p.d__law_sx_pick.gl p.d__law_sx_pick.kp p.d__law_sx_pick.bd pass0 (pa_cons (pv 0) (pa_cons pe_int pa_nil))))
      (pss_one (ps_ret (pe_tup (pa_cons (pe_op op_add (pe_ix ix_tup (pv 1) pe_int (fun _ _ => rfl)) (pv 2)) (pa_cons (pe_op op_cat (pe_ix ix_tup (pv 1) pe_int (fun _ _ => rfl)) (pe_listRg rfl (by rfl) p.blt.list (prg_2 (by rfl) p.blt.range (pe_op op_add (pe_ix ix_tup (pv 1) pe_int (fun _ _ => rfl)) pe_int) (pe_op op_add (pe_op op_add (pe_ix ix_tup (pv 1) pe_int (fun _ _ => rfl)) (pv 2)) pe_int)))) pa_nil)))))),
    fun C xc => (so_seq (so_asg (so_callP (so_cons (so_var (i := 0)) (so_cons (so_c (sca_int _)) so_nil))) (so_gname (i := 2)))
      (so_ret (so_tup (so_cons (so_op sr_I0 (so_ixT (so_var (i := 1)) (so_c (sca_int _))) (so_var (i := 2))) (so_cons (so_cat (so_ixT (so_var (i := 1)) (so_c (sca_int _))) (so_listRg2 (so_op sr_I0 (so_ixT (so_var (i := 1)) (so_c (sca_int _))) (so_c (sca_int _))) (so_op sr_I0 (so_op sr_I0 (so_ixT (so_var (i := 1)) (so_c (sca_int _))) (so_var (i := 2))) (so_c (sca_int _))))) so_nil)))))⟩) val__law_sx_wide
def w__law_sx_do : Tw := fun ds Q => ∃ (e : Int × List Int) (xs : List D), ds = [dE e, .list xs] ∧ Eff e ∧ e.1 ≤ xs.length ∧ e.2.length ≤ 10000 ∧ xs.length ≤ 10000 ∧ (∀ x ∈ xs, nolist x = true) ∧ Q (.list (doX e xs))
theorem ar__law_sx_do : ∀ ds G, w__law_sx_do ds G → ds.length = 2 := by
  rintro ds G ⟨e, ss, rfl, _⟩
  rfl
def k__law_sx_do : KS := (kRet (kCat (kLc (kIt true (kIx false (kFrz 0) (kC (.int 1)))) 2 kYes (kIx true (kVar 1) (kOp (vI noC fun i j => i - j) (kVar 2) (kC (.int 1))))) (kSl (kVar 1) (kPart (kIx false (kVar 0) (kC (.int 0)))) kNo)))
theorem nolists_all : ∀ {xs : List D}, (∀ x ∈ xs, nolist x = true) → nolists xs = true
  | [], _ => rfl
  | x :: xs, h => by
    rw [nolists, h x List.mem_cons_self, nolists_all fun y m => h y (List.mem_cons_of_mem _ m)]
    rfl
theorem filterMap_sub {α : Type} {xs : List α} : ∀ {gs : List Int} {x : α}, x ∈ gs.filterMap (fun r => xs[(r - 1).toNat]?) → x ∈ xs
  | gs, x, h => by
    obtain ⟨r, _, e⟩ := List.mem_filterMap.mp h
    exact List.mem_of_getElem? e
theorem val__law_sx_do : ∀ ds G, w__law_sx_do ds G → k__law_sx_do ⟨ds.map Sl.fz ++ [.jk], [], 0⟩ (edT G) := by
  rintro ds Gq ⟨e, xs, rfl, ef, hn, le, ls, hf, q⟩
  have n0 := ef.nn
  unfold k__law_sx_do
  walk_at "ev"
  refine lc_inv (j := 2) true e.2 PyData.int (fun pre acc n' => acc = (pre.filterMap fun r => xs[(r - 1).toNat]?) ∧ n' = 0 ∧ ∃ post, e.2 = pre ++ post) rfl rfl (fun pre acc n' hp => ?_) (fun pre r post acc n' Y X hl hp hY hX => ?_) (fun acc n' hp => ?_) [] 0 ⟨rfl, rfl, _, rfl⟩
  · obtain ⟨rfl, _, post, h⟩ := hp
    have a := List.length_filterMap_le (fun r : Int => xs[(r - 1).toNat]?) pre
    have b := congrArg List.length h
    rw [List.length_append] at b
    omega
  · obtain ⟨rfl, rfl, _⟩ := hp
    have hr : r ∈ e.2 := by rw [hl]; simp
    have r1 := ef.ge r hr
    have r2 := ef.le r hr
    walk_at "ev"
    refine ixD_any (by omega) (by omega) fun d hd => ?_
    have hn2 : nolist d = true := hf d (List.mem_of_getElem? hd)
    refine hY (.fz d) true d 0 (by rw [con_fz, hn2]) rfl ⟨?_, rfl, post, by rw [hl]; simp⟩
    rw [List.filterMap_append, List.filterMap_cons, hd]
    rfl
  · obtain ⟨rfl, rfl, _⟩ := hp
    walk_at "ev"
    obtain ⟨n, hn'⟩ : ∃ n : Nat, e.1 = n := ⟨e.1.toNat, by omega⟩
    have fl := List.length_filterMap_le (fun r : Int => xs[(r - 1).toNat]?) e.2
    have dd : doX e xs = e.2.filterMap (fun r => xs[(r - 1).toNat]?) ++ xs.drop e.1.toNat := rfl
    rw [hn'] at dd ⊢
    rw [Int.toNat_natCast] at dd
    rw [cutD_from, ← dd]
    refine ⟨by rw [List.length_drop]; omega, ?_⟩
    have h1 : nolists (e.2.filterMap fun r => xs[(r - 1).toNat]?) = true := nolists_all fun x m => hf x (filterMap_sub m)
    have h2 : nolists (xs.drop n) = true := nolists_all fun x m => hf x (List.drop_subset _ _ m)
    rw [h1, h2]
    exact q
theorem ok__law_sx_do (p : Prog K mg) : FnG P w K mg base CX0 1 p.f__law_sx_do p.fd__law_sx_do ["_law_one", "_law_things_here"] (spT w__law_sx_do) :=
  okT p.d__law_sx_do.F sc__law_sx_do (by decide) ar__law_sx_do (fun cdv A outer s H E hg hr => ⟨_, (pss_one (ps_ret (pe_op op_cat (pe_lc (own := [("_law_spot", 2)]) (g := gName 2) (tt := tYes) rfl sc__law_sx_do.nd (pi_list (pe_ix ix_tup (pv 0) pe_int (fun _ _ => rfl))) (blkOk_by (N := N__law_sx_do) (sc := defScope s__law_sx_do) (by decide +kernel)) (fun _ _ _ _ _ => pg_name (i := 2) sc__law_sx_do.nd rfl (Or.inl rfl)) (fun _ _ _ _ _ => pts_nil) (fun _ _ _ _ _ => (pe_ix (show IxR _ (rIxL K) from ix_list) (pv 1) (pe_op op_sub (pv 2) pe_int) (fun _ _ => rfl)))) (pe_slice sl_list (pv 1) (po_some (pe_ix ix_tup (pv 0) pe_int (fun _ _ => rfl))) po_none)))),
    fun C xc => (so_ret (so_cat (so_lc (so_itL (so_ixT (so_frz (i := 0)) (so_c (sca_int _)))) so_yes (so_ixL (so_var (i := 1)) (so_op sr_I0 (so_var (i := 2)) (so_c (sca_int _))))) (so_sl (so_var (i := 1)) (so_part (so_ixT (so_var (i := 0)) (so_c (sca_int _)))) so_no)))⟩) val__law_sx_do
def w__law_sx_copy (n : Nat) : Tw := fun ds Q => ∃ d : D, ds = [d] ∧ d.depth < n ∧ d.hasDict = false ∧ G.wd d ≤ 10000000 ∧ Q d
theorem no__law_sx_copy : ∀ ds Gq, ¬ w__law_sx_copy 0 ds Gq := by
  rintro ds Gq ⟨d, _, h, _⟩
  omega
theorem ar__law_sx_copy (n : Nat) : ∀ ds Gq, w__law_sx_copy n ds Gq → ds.length = 1 := by
  rintro ds Gq ⟨d, rfl, _⟩
  rfl
def kr__law_sx_copy_1 (n : Nat) : KS := (kRet (kMov 0))
def kr__law_sx_copy_2 (n : Nat) : KS := (kSeq (kIfS (kTest (kIs "tuple" (kVar 0)))
  (kRet (kTupOf (kCons (kLc (kIt false (kFrz 0)) 1 kYes (kCallT (w__law_sx_copy n) 1 (kCons (kVar 1) kNil))) kNil)))
  kNext)
  (kr__law_sx_copy_1 n))
def k__law_sx_copy (n : Nat) : KS := (kSeq (kIfS (kTest (kIs "list" (kVar 0)))
  (kRet (kLc (kIt true (kFrz 0)) 1 kYes (kCallT (w__law_sx_copy n) 1 (kCons (kVar 1) kNil))))
  kNext)
  (kr__law_sx_copy_2 n))
local macro_rules | `(tactic| walk_at "go") => `(tactic| ((first | unfold kr__law_sx_copy_1 | unfold kr__law_sx_copy_2); walk_at "ev"))
theorem val__law_sx_copy (n : Nat) : ∀ ds G, w__law_sx_copy (n + 1) ds G → k__law_sx_copy n ⟨ds.map Sl.fz ++ [.jk], [], 0⟩ (edT G) := by
  rintro ds Gq ⟨d, rfl, dp, hd, sz, q⟩
  unfold k__law_sx_copy
  have isO : ∀ {x : D}, x.hasDict = false → G.isObj x = false := fun {x} h => by
    cases x <;> first | rfl | exact nomatch h
  cases d with
  | list xs =>
    simp only [PyData.depth] at dp
    simp only [G.wd] at sz
    simp only [PyData.hasDict] at hd
    have hl := wds_len xs
    walk_at "ev"
    have key := fun Q => lc_inv (j := 1) (kt := kYes) (ke := kCallT (w__law_sx_copy n) 1 (kCons (kVar 1) kNil)) (q := Q) (sl := [.fz (.list xs), .jk]) (T := [.fz (.list xs)]) true xs id (fun pre acc m => acc = pre ∧ pre.length ≤ xs.length ∧ m = 0) rfl rfl (fun pre acc m hp => by obtain ⟨rfl, h1, _⟩ := hp; omega) (fun pre x post acc m Y X hl2 hp hY hX => by
      obtain ⟨rfl, h1, rfl⟩ := hp
      have mx : x ∈ xs := hl2 ▸ List.mem_append_right _ List.mem_cons_self
      have hlen := congrArg List.length hl2
      rw [List.length_append, List.length_cons] at hlen
      have z1 := depth_mem mx
      have z2 := wd_mem mx
      walk_at "ev"
      refine ⟨x, rfl, by omega, hasDict_memB hd mx, by omega, ?_⟩
      exact hY (own x) true x 0 con_own rfl ⟨rfl, by rw [List.length_append, List.length_singleton]; omega, rfl⟩)
    have e2 := key (fun γ2 => match γ2.tm with
      | s :: tm => (G.okS s = true ∧ tm = [Sl.fz (PyData.list xs)]) ∧ rtN Gq s
      | _ => False) (fun acc m hp => by
        obtain ⟨rfl, _⟩ := hp
        exact ⟨⟨rfl, rfl⟩, q⟩) [] 0 ⟨rfl, Nat.zero_le _, rfl⟩
    rw [List.map_id] at e2
    exact e2
  | tuple xs =>
    simp only [PyData.depth] at dp
    simp only [G.wd] at sz
    simp only [PyData.hasDict] at hd
    have hl := wds_len xs
    walk_at "ev"
    walk_at "go"
    have key := fun Q => lc_inv (j := 1) (kt := kYes) (ke := kCallT (w__law_sx_copy n) 1 (kCons (kVar 1) kNil)) (q := Q) (sl := [.fz (.tuple xs), .jk]) (T := [.fz (.tuple xs)]) true xs id (fun pre acc m => acc = pre ∧ pre.length ≤ xs.length ∧ m = 0) rfl rfl (fun pre acc m hp => by obtain ⟨rfl, h1, _⟩ := hp; omega) (fun pre x post acc m Y X hl2 hp hY hX => by
      obtain ⟨rfl, h1, rfl⟩ := hp
      have mx : x ∈ xs := hl2 ▸ List.mem_append_right _ List.mem_cons_self
      have hlen := congrArg List.length hl2
      rw [List.length_append, List.length_cons] at hlen
      have z1 := depth_mem mx
      have z2 := wd_mem mx
      walk_at "ev"
      refine ⟨x, rfl, by omega, hasDict_memB hd mx, by omega, ?_⟩
      exact hY (own x) true x 0 con_own rfl ⟨rfl, by rw [List.length_append, List.length_singleton]; omega, rfl⟩)
    have main : ∀ Q : VSt → Prop, Q ⟨[.fz (.tuple xs), .jk], [.ow true (.list xs), .fz (.tuple xs)], 0⟩ → lcL 1 kYes (kCallT (w__law_sx_copy n) 1 (kCons (kVar 1) kNil)) xs ⟨[.fz (.tuple xs), .jk], [.ow true (.list []), .fz (.tuple xs)], 0⟩ Q := fun Q h => by
      have e2 := key Q (fun acc m hp => by
        obtain ⟨rfl, _, rfl⟩ := hp
        exact h) [] 0 ⟨rfl, Nat.zero_le _, rfl⟩
      rw [List.map_id] at e2
      exact e2
    refine main _ ?_
    walk_at "ev"
    split
    · rename_i h
      exact ⟨h, q⟩
    · exact q
  | dict m => exact nomatch hd
  | none => walk_at "ev"; walk_at "go"; walk_at "go"; exact q
  | bool b => walk_at "ev"; walk_at "go"; walk_at "go"; exact q
  | int i => walk_at "ev"; walk_at "go"; walk_at "go"; exact q
  | str x => walk_at "ev"; walk_at "go"; walk_at "go"; exact q
theorem group__law_sx_copy (p : Prog K mg) : ∀ n : Nat, FnG P w K mg base CX0 (1 * n + 1) p.f__law_sx_copy p.fd__law_sx_copy ["_law_thing"] (spT (w__law_sx_copy n)) := by
  intro n
  induction n with
  | zero => exact fn_none (noT no__law_sx_copy)
  | succ n ih =>
    have ih__law_sx_copy := ih
    have h__law_sx_copy : FnG P w K mg base CX0 (1 * (n + 1) + 1) p.f__law_sx_copy p.fd__law_sx_copy ["_law_thing"] (spT (w__law_sx_copy (n + 1))) := okT p.d__law_sx_copy.F sc__law_sx_copy (by decide) (ar__law_sx_copy (n + 1)) (fun cdv A outer s H E hg hr => ⟨_, (pss_cons (ps_if (pt_val (pe_callB call_isi (by rfl) p.blt.isinstance (by decide +kernel) (pa_cons (pv 0) (pa_cons (pe_bltn (v := .ty "list") (by rfl) p.blt.list (by decide +kernel) rfl) pa_nil))))
      (pss_one (ps_ret (pe_lc (own := [("_law_inner", 1)]) (g := gName 1) (tt := tYes) rfl sc__law_sx_copy.nd (pi_list (pv 0)) (blkOk_by (N := N__law_sx_copy) (sc := defScope s__law_sx_copy) (by decide +kernel)) (fun _ _ _ _ _ => pg_name (i := 1) sc__law_sx_copy.nd rfl (Or.inl rfl)) (fun _ _ _ _ _ => pts_nil) (fun _ _ _ _ _ => (pe_callG (ih__law_sx_copy.mono (by omega)) hg hr (by rfl) p.d__law_sx_copy.gl p.d__law_sx_copy.kp p.d__law_sx_copy.bd pass0 (pa_cons (pv 1) pa_nil)))))) pss_nil)
      (pss_cons (ps_if (pt_val (pe_callB call_isi (by rfl) p.blt.isinstance (by decide +kernel) (pa_cons (pv 0) (pa_cons (pe_bltn (v := .ty "tuple") (by rfl) p.blt.tuple (by decide +kernel) rfl) pa_nil))))
      (pss_one (ps_ret (pe_callTy call_tuple_of (by rfl) p.blt.tuple (by decide +kernel) (pa_cons (pe_lc (own := [("_law_inner", 1)]) (g := gName 1) (tt := tYes) rfl sc__law_sx_copy.nd (pi_tup (pv 0)) (blkOk_by (N := N__law_sx_copy) (sc := defScope s__law_sx_copy) (by decide +kernel)) (fun _ _ _ _ _ => pg_name (i := 1) sc__law_sx_copy.nd rfl (Or.inl rfl)) (fun _ _ _ _ _ => pts_nil) (fun _ _ _ _ _ => (pe_callG (ih__law_sx_copy.mono (by omega)) hg hr (by rfl) p.d__law_sx_copy.gl p.d__law_sx_copy.kp p.d__law_sx_copy.bd pass0 (pa_cons (pv 1) pa_nil)))) pa_nil)))) pss_nil)
      (pss_one (ps_ret (pv 0))))),
    fun C xc => (so_seq (so_ifS (so_test (so_is kitT_list (so_var (i := 0))))
      (so_ret (so_lc (so_itL (so_frz (i := 0))) so_yes (so_callT (so_cons (so_var (i := 1)) so_nil)))) so_next)
      (so_seq (so_ifS (so_test (so_is kitT_tuple (so_var (i := 0))))
      (so_ret (so_tupOf (so_cons (so_lc (so_itT (so_frz (i := 0))) so_yes (so_callT (so_cons (so_var (i := 1)) so_nil))) so_nil))) so_next)
      (so_ret (so_mov (i := 0)))))⟩) (val__law_sx_copy n)
    exact h__law_sx_copy
theorem ok__law_sx_copy (p : Prog K mg) (n : Nat) : FnG P w K mg base CX0 (1 * n + 1) p.f__law_sx_copy p.fd__law_sx_copy ["_law_thing"] (spT (w__law_sx_copy n)) := (group__law_sx_copy p n)
theorem ok__law_sx_lists (p : Prog K mg) : ∀ n : Nat, FnG P w K mg base CX0 n p.f__law_sx_lists p.fd__law_sx_lists ["_law_thing"] (spLs n) := by
  intro n
  induction n with
  | zero =>
    refine ⟨fun vs H Q E h => ?_, fun A outer s H args us vs Q E hg hr e0 bt r h => ?_⟩
    · obtain ⟨v, d, S, _, _, _, h, _⟩ := h
      exact absurd h (Nat.not_lt_zero _)
    · obtain ⟨v, d, S, _, _, _, h, _⟩ := h
      exact absurd h (Nat.not_lt_zero _)
  | succ n ih =>
    refine okG p.d__law_sx_lists.F sc__law_sx_lists (fun vs H Q E h => ?_) (fun cdv A outer s H vs Q E hg hr h => ?_)
    · obtain ⟨v, d, S, rfl, _⟩ := h
      rfl
    · obtain ⟨v, d, S, rfl, rep, nd, dp, sz, q⟩ := h
      refine ⟨_, (pss_cons (ps_set (i := 1) sc__law_sx_lists.nd rfl (Or.inl rfl) (pe_ifExp (pt_val (pe_callB call_isi (by rfl) p.blt.isinstance (by decide +kernel) (pa_cons (pv 0) (pa_cons (pe_bltn (v := .ty "list") (by rfl) p.blt.list (by decide +kernel) rfl) pa_nil)))) (pe_lst (pa_cons (pv 0) pa_nil)) (pe_lst pa_nil)))
      (C8.pss_cut (ps_if (PW.pt (pw_or (pt_val (pe_callB call_isi (by rfl) p.blt.isinstance (by decide +kernel) (pa_cons (pv 0) (pa_cons (pe_bltn (v := .ty "list") (by rfl) p.blt.list (by decide +kernel) rfl) pa_nil)))) (pw_or1 (pt_val (pe_callB call_isi (by rfl) p.blt.isinstance (by decide +kernel) (pa_cons (pv 0) (pa_cons (pe_bltn (v := .ty "tuple") (by rfl) p.blt.tuple (by decide +kernel) rfl) pa_nil)))))))
      (pss_one (ps_for PassesOwn.never rfl (pi_list (pe_callTy call_list_of (by rfl) p.blt.list (by decide +kernel) (pa_cons (pv 0) pa_nil))) (pg_name (i := 2) sc__law_sx_lists.nd rfl (Or.inl rfl))
      (pss_one (ps_set (i := 1) sc__law_sx_lists.nd rfl (Or.inl rfl) (pe_op op_cat (pv 1) (pe_callG ih hg hr (by rfl) p.d__law_sx_lists.gl p.d__law_sx_lists.kp p.d__law_sx_lists.bd pass0 (pa_cons (pv 2) pa_nil))))))) pss_nil)
      (pss_one (ps_ret (pv 1))))), ?_⟩
      have isO : isObj d = false := by cases d <;> first | rfl | exact nomatch nd
      have ndS := Rep.lstS _ _ _ rep nd
      cases d with
      | list ds =>
        cases rep with
        | @lst a vs S' _ ha rs =>
          have rep : Rep H (a :: S') (.ref a) (.list ds) := .lst ha rs
          have len := rs.length
          simp only [PyData.depth] at dp
          simp only [G.wd] at sz
          simp only [PyData.hasDict] at nd
          refine ⟨_, rfl, .ref a, _, _, _, _, rfl, .ty _, tyx rep rfl, kit_list rep, ?_⟩
          refine ⟨_, rfl, iteT ?_⟩
          refine ⟨_, rfl, szle (by simp), fun f hf => ?_⟩
          have r1 := rep.same (same_upd (o := .lst [.ref a]) hf)
          refine ⟨fun σ H1 => ∃ r y, σ = [some (.ref a), some (.ref r), y] ∧ Same H H1 ∧ H r = none ∧ H1 r = some (.lst ((a :: S').map V.ref)), ?_, fun σ H1 hI => ?_⟩
          · refine ⟨_, rfl, .ref a, _, _, _, _, rfl, .ty _, tyx r1 rfl, kit_list r1, ?_⟩
            refine ⟨_, rfl, iteT (iteT ?_)⟩
            refine ⟨_, rfl, a, vs, rfl, .inl (SqL.of (same_upd hf _ _ ha)), fun l hl => ⟨l, rfl, ⟨_, SqL.of upd_same⟩, ?_⟩⟩
            have sm : Same H (upd (upd H f (.lst [.ref a])) l (.lst vs)) := fun b o e => same_upd hl b o (same_upd hf b o e)
            refine ls_loop (P := [.ref a]) rs nd (by omega) (by omega) (by simp) sm upd_same (same_upd hl _ _ upd_same) hf (fun σ H' r hs s1 hr h1 => ?_)
            obtain ⟨y, rfl⟩ := hs
            exact ⟨r, y, rfl, s1, hr, h1⟩
          · obtain ⟨r, y, rfl, s1, hr, h1⟩ := hI
            exact ⟨_, rfl, q _ _ s1 hr h1⟩
      | tuple ds =>
        cases rep with
        | @tup a vs S' _ ha rs =>
          have rep : Rep H S (.ref a) (.tuple ds) := .tup ha rs
          have len := rs.length
          simp only [PyData.depth] at dp
          simp only [G.wd] at sz
          simp only [PyData.hasDict] at nd
          refine ⟨_, rfl, .ref a, _, _, _, _, rfl, .ty _, tyx rep rfl, kit_list rep, ?_⟩
          refine ⟨_, rfl, iteF ?_⟩
          refine ⟨szle (by simp), fun f hf => ?_⟩
          have r1 := rep.same (same_upd (o := .lst []) hf)
          refine ⟨fun σ H1 => ∃ r y, σ = [some (.ref a), some (.ref r), y] ∧ Same H H1 ∧ H r = none ∧ H1 r = some (.lst (S.map V.ref)), ?_, fun σ H1 hI => ?_⟩
          · refine ⟨_, rfl, .ref a, _, _, _, _, rfl, .ty _, tyx r1 rfl, kit_list r1, ?_⟩
            refine ⟨_, rfl, iteF ?_⟩
            refine ⟨_, rfl, .ref a, _, _, _, _, rfl, .ty _, tyx r1 rfl, kit_tuple r1, ?_⟩
            refine ⟨_, rfl, iteT ?_⟩
            refine ⟨_, rfl, a, vs, rfl, .inr (SqT.of (same_upd hf _ _ ha)), fun l hl => ⟨l, rfl, ⟨_, SqL.of upd_same⟩, ?_⟩⟩
            have sm : Same H (upd (upd H f (.lst [])) l (.lst vs)) := fun b o e => same_upd hl b o (same_upd hf b o e)
            refine ls_loop (P := []) rs nd (by omega) (by omega) (by simp) sm upd_same (same_upd hl _ _ upd_same) hf (fun σ H' r hs s1 hr h1 => ?_)
            obtain ⟨y, rfl⟩ := hs
            exact ⟨r, y, rfl, s1, hr, h1⟩
          · obtain ⟨r, y, rfl, s1, hr, h1⟩ := hI
            exact ⟨_, rfl, q _ _ s1 hr h1⟩
      | dict m => exact nomatch nd
      | _ =>
        have eS : S = [] := by cases rep; rfl
        subst eS
        refine ⟨_, rfl, v, _, _, _, _, rfl, .ty _, tyx rep isO, kit_list rep, ?_⟩
        refine ⟨_, rfl, iteF ?_⟩
        refine ⟨szle (by simp), fun f hf => ?_⟩
        have r1 := rep.same (same_upd (o := .lst []) hf)
        refine ⟨fun σ H1 => σ = [some v, some (.ref f), none] ∧ H1 = upd H f (.lst []), ?_, fun σ H1 hI => ?_⟩
        · refine ⟨_, rfl, v, _, _, _, _, rfl, .ty _, tyx r1 isO, kit_list r1, ?_⟩
          refine ⟨_, rfl, iteF ?_⟩
          refine ⟨_, rfl, v, _, _, _, _, rfl, .ty _, tyx r1 isO, kit_tuple r1, ?_⟩
          refine ⟨_, rfl, iteF ?_⟩
          exact ⟨rfl, rfl⟩
        · obtain ⟨rfl, rfl⟩ := hI
          exact ⟨_, rfl, q _ _ (same_upd hf) hf upd_same⟩
theorem ok__law_sx_alone (p : Prog K mg) : FnG P w K mg base CX0 25 p.f__law_sx_alone p.fd__law_sx_alone ["_law_found", "_law_due"] spAl2 := by
  refine okG p.d__law_sx_alone.F sc__law_sx_alone (fun vs H Q E h => ?_) (fun cdv A outer s H vs Q E hg hr h => ?_)
  · obtain ⟨v, u, d, S, T, rfl, _⟩ := h
    rfl
  · obtain ⟨v, u, d, S, T, rfl, r1, r2, nd, hd, sh, hn, q⟩ := h
    have dp := sh.dp
    have sw := sh.wd
    have ss := sh.sh
    have D1 := Rep.dp K _ _ _ r1 hd
    have D2 := Rep.dp K _ _ _ r2 hd
    have sz : d.shown.length ≤ sizeLine := Nat.le_trans (shown_wd _ hd) (szle (by omega))
    have ndA := List.nodup_append.mp nd
    have L1 := Rep.lstS _ _ _ r1 hd
    have L2 := Rep.lstS _ _ _ r2 hd
    refine ⟨_, (pss_cons (ps_if (pt_cmpR op_ne (pe_callB (cr_repr hg hr.units) (by rfl) p.blt.repr (by decide +kernel) (pa_cons (pv 0) pa_nil)) (pe_callB (cr_repr hg hr.units) (by rfl) p.blt.repr (by decide +kernel) (pa_cons (pv 1) pa_nil)) (nomark _))
      (pss_one (ps_ret pe_bl)) pss_nil)
      (pss_cons (ps_for PassesOwn.never rfl (pi_enum (by rfl) p.blt.enumerate (pa_cons (pe_callG ((ok__law_sx_lists p 24).mono (by decide)) hg hr (by rfl) p.d__law_sx_lists.gl p.d__law_sx_lists.kp p.d__law_sx_lists.bd pass0 (pa_cons (pv 0) pa_nil)) pa_nil)) (pg_tup rfl (pgs_cons (pg_name (i := 2) sc__law_sx_alone.nd rfl (Or.inl rfl)) (pgs_cons (pg_name (i := 3) sc__law_sx_alone.nd rfl (Or.inl rfl)) pgs_nil)))
      (pss_one (ps_expr (pe_bm PySem.F.plainAttrs_list PySem.F.slot_list_append PySem.F.type_list_append mt_append (pv 3) (pa_cons (pv 2) pa_nil)))))
      (pss_cons (ps_for PassesOwn.never rfl (pi_enum (by rfl) p.blt.enumerate (pa_cons (pe_callG ((ok__law_sx_lists p 24).mono (by decide)) hg hr (by rfl) p.d__law_sx_lists.gl p.d__law_sx_lists.kp p.d__law_sx_lists.bd pass0 (pa_cons (pv 1) pa_nil)) pa_nil)) (pg_tup rfl (pgs_cons (pg_name (i := 2) sc__law_sx_alone.nd rfl (Or.inl rfl)) (pgs_cons (pg_name (i := 3) sc__law_sx_alone.nd rfl (Or.inl rfl)) pgs_nil)))
      (pss_one (ps_expr (pe_bm PySem.F.plainAttrs_list PySem.F.slot_list_append PySem.F.type_list_append mt_append (pv 3) (pa_cons (pv 2) pa_nil)))))
      (pss_one (ps_ret (pe_cmpR op_eq (pe_callB (cr_repr hg hr.units) (by rfl) p.blt.repr (by decide +kernel) (pa_cons (pv 0) pa_nil)) (pe_callB (cr_repr hg hr.units) (by rfl) p.blt.repr (by decide +kernel) (pa_cons (pv 1) pa_nil)) (nomark _))))))), ?_⟩
    refine ⟨_, rfl, _, _, rfl, D1, ss, by omega, sz, _, rfl, _, _, rfl, D2, ss, by omega, sz, rfl, ?_⟩
    refine ⟨_, rfl, ?_⟩
    rw [decide_eq_true rfl]
    refine iteF ?_
    -- the lists of what is told
    refine ⟨_, rfl, v, d, S, rfl, r1, hd, by omega, by omega, fun r H1 sm1 hr0 hr => ?_⟩
    have rS : r ∉ S := fun m => by
      obtain ⟨xs, e, _⟩ := L1 r m
      rw [hr0] at e
      cases e
    refine ⟨r, _, rfl, SqL.of hr, ?_⟩
    refine rk_loop rfl ndA.1 (fun a m => ?_) hr rS (fun σ H2 hσ fr2 lk2 => ?_)
    · obtain ⟨xs, e, l⟩ := L1 a m
      exact ⟨xs, sm1 _ _ e, by omega⟩
    obtain ⟨y, z, rfl⟩ := hσ
    have nt2 : ∀ t ws, H1 t = some (.tup ws) → H2 t = some (.tup ws) := fun t ws e => fr2 t _ e fun m => by
      obtain ⟨xs, e1, _⟩ := L1 t m
      have := sm1 _ _ e1
      rw [e] at this
      cases this
    have q1 : Rep H2 S v (rkD d 0).1 := Rep.ranked nt2 d S v 0 (r1.same sm1) ss hd (fun i a xs e e1 => by
      rw [Int.zero_add]
      exact lk2 i a xs e e1) (Int.le_refl _) (by omega)
    have q2 : Rep H2 T u d := Rep.mono nt2 _ _ _ (r2.same sm1) fun a m o e => fr2 a o e fun m2 => ndA.2.2 a m2 a m rfl
    have L2' := Rep.lstS _ _ _ q2 hd
    -- the lists of what is due
    refine ⟨_, rfl, u, d, T, rfl, q2, hd, by omega, by omega, fun r' H3 sm3 hr0' hr' => ?_⟩
    have rT : r' ∉ T := fun m => by
      obtain ⟨xs, e, _⟩ := L2' r' m
      rw [hr0'] at e
      cases e
    refine ⟨r', _, rfl, SqL.of hr', ?_⟩
    refine rk_loop rfl ndA.2.1 (fun a m => ?_) hr' rT (fun σ H4 hσ fr4 lk4 => ?_)
    · obtain ⟨xs, e, l⟩ := L2' a m
      exact ⟨xs, sm3 _ _ e, by omega⟩
    obtain ⟨y', z', rfl⟩ := hσ
    have nt4 : ∀ t ws, H3 t = some (.tup ws) → H4 t = some (.tup ws) := fun t ws e => fr4 t _ e fun m => by
      obtain ⟨xs, e1, _⟩ := L2' t m
      have := sm3 _ _ e1
      rw [e] at this
      cases this
    have p2 : Rep H4 T u (rkD d 0).1 := Rep.ranked nt4 d T u 0 (q2.same sm3) ss hd (fun i a xs e e1 => by
      rw [Int.zero_add]
      exact lk4 i a xs e e1) (Int.le_refl _) (by omega)
    have p1 : Rep H4 S v (rkD d 0).1 := Rep.mono nt4 _ _ _ (q1.same sm3) fun a m o e => fr4 a o e fun m2 => ndA.2.2 a m a m2 rfl
    obtain ⟨s4, hd4⟩ := rk_Sh sh (by omega)
    rw [hd] at hd4
    have E1 := Rep.dp K _ _ _ p1 hd4
    have E2 := Rep.dp K _ _ _ p2 hd4
    have w4 := s4.wd
    have d4 := s4.dp
    have s4' := s4.sh
    have sz4 : (rkD d 0).1.shown.length ≤ sizeLine := Nat.le_trans (shown_wd _ hd4) (szle (by omega))
    refine ⟨_, rfl, _, _, rfl, E1, s4', by omega, sz4, _, rfl, _, _, rfl, E2, s4', by omega, sz4, rfl, ?_⟩
    rw [decide_eq_true rfl]
    refine q _ H4 rfl fun a o e m => ?_
    have m1 : a ∉ S := fun z => m (List.mem_append_left _ z)
    have m2 : a ∉ T := fun z => m (List.mem_append_right _ z)
    exact fr4 a o (sm3 a o (fr2 a o (sm1 a o e) m1)) m2
def w__law_sx_fits : Tw := fun ds Q => ∃ (e : Int × List Int) (ps : List (List Str × List Str)), ds = [dE e, .list (ps.map pairD)] ∧ Eff e ∧ e.2.length ≤ 1000 ∧ ps.length ≤ 1000 ∧ (∀ p ∈ ps, p.1.length ≤ 1000 ∧ (∀ s ∈ p.1, PyData.strOk s = true) ∧ ∀ s ∈ p.2, PyData.strOk s = true) ∧ Q (.bool (ps.all (fitP e)))
theorem ar__law_sx_fits : ∀ ds G, w__law_sx_fits ds G → ds.length = 2 := by
  rintro ds G ⟨e, ps, rfl, _⟩
  rfl
def kb__law_sx_fits_1 : KS := (kIfS (kTOr (kTest (kOp (vB fun i j => decide (j < i)) (kIx false (kVar 0) (kC (.int 0))) (kF 1 vLen (kCons (kVar 2) kNil)))) (kTest (kOp (vEqD true) (kCallT w__law_sx_do 2 (kCons (kVar 0) (kCons (kVar 2) kNil))) (kVar 3))))
  (kRet (kC (.bool false)))
  kNext)
def kr__law_sx_fits_2 : KS := (kRet (kC (.bool true)))
def k__law_sx_fits : KS := (kSeq (kFor (kIt true (kFrz 1)) (kgTup 2 (kgCons (kgName 2) (kgCons (kgName 3) kgNil))) kb__law_sx_fits_1)
  kr__law_sx_fits_2)
local macro_rules | `(tactic| walk_at "go") => `(tactic| ((first | unfold kr__law_sx_fits_2); walk_at "ev"))
theorem val__law_sx_fits : ∀ ds G, w__law_sx_fits ds G → k__law_sx_fits ⟨ds.map Sl.fz ++ [.jk, .jk], [], 0⟩ (edT G) := by
  rintro ds Gq ⟨e, ps, rfl, ef, le, lp, hp, q⟩
  unfold k__law_sx_fits
  walk_at "ev"
  have go : ∀ ps' : List (List Str × List Str), True := fun _ => trivial
  refine forL_inv ps pairD (fun pre γ => pre.all (fitP e) = true ∧ ∃ u v : Sl, γ = ⟨[.fz (dE e), .fz (.list (ps.map pairD)), u, v], [.fz (.list (ps.map pairD))], 0⟩) (fun pre x post γ N hl ht hP hN => ?_) (fun γ ht hP => ?_) _ rfl ⟨rfl, _, _, rfl⟩
  · obtain ⟨hall, u, v, rfl⟩ := hP
    have hx : x ∈ ps := by rw [hl]; simp
    obtain ⟨xl, xo, xo2⟩ := hp x hx
    unfold kb__law_sx_fits_1
    walk_at "ev"
    have bad : fitP e x = false → Gq (.bool false) := fun hf => by
      have : ps.all (fitP e) = false := by
        rw [List.all_eq_false]
        exact ⟨x, hx, by simp [hf]⟩
      rw [this] at q
      exact q
    refine iteB (fun c1 => ?_) (fun c1 => ?_)
    · have c1 := of_decide_eq_true c1
      exact bad (by unfold fitP; rw [decide_eq_false (by omega)]; rfl)
    · have c1 := of_decide_eq_false c1
      refine ⟨e, x.1.map .str, rfl, ef, by rw [List.length_map]; omega, by omega, by rw [List.length_map]; omega, fun y my => nolist_str my, ?_⟩
      rw [doX_strs]
      walk_at "ev"
      refine ⟨shaped_strs fun s hs => xo s (doS_mem hs), shaped_strs xo2, ?_⟩
      rw [eqv_strs]
      refine iteB (fun c2 => ?_) (fun c2 => ?_)
      · have c2 : doS e x.1 ≠ x.2 := by simpa using c2
        exact bad (by unfold fitP; rw [decide_eq_false c2, Bool.and_false])
      · have c2 : doS e x.1 = x.2 := by simpa using c2
        refine hN _ rfl ⟨?_, .fz (dS x.1), .fz (dS x.2), rfl⟩
        rw [List.all_append, hall]
        simp only [List.all_cons, List.all_nil, Bool.and_true, Bool.true_and]
        unfold fitP
        rw [decide_eq_true c2, decide_eq_true (by omega)]
        rfl
  · obtain ⟨hall, u, v, rfl⟩ := hP
    walk_at "go"
    rw [hall] at q
    exact q
theorem ok__law_sx_fits (p : Prog K mg) : FnG P w K mg base CX0 2 p.f__law_sx_fits p.fd__law_sx_fits ["_law_one", "_law_pairs"] (spT w__law_sx_fits) :=
  okT p.d__law_sx_fits.F sc__law_sx_fits (by decide) ar__law_sx_fits (fun cdv A outer s H E hg hr => ⟨_, (pss_cons (ps_for PassesOwn.never rfl (pi_list (pv 1)) (pg_tup rfl (pgs_cons (pg_name (i := 2) sc__law_sx_fits.nd rfl (Or.inl rfl)) (pgs_cons (pg_name (i := 3) sc__law_sx_fits.nd rfl (Or.inl rfl)) pgs_nil)))
      (pss_one (ps_if (PW.pt (pw_or (pt_cmpR op_gt (pe_ix ix_tup (pv 0) pe_int (fun _ _ => rfl)) (pe_callB call_len_seq (by rfl) p.blt.len PySem.boot_len (pa_cons (pv 2) pa_nil)) (nomark _)) (pw_or1 (pt_cmpR (op_neD hr.units) (pe_callG ((ok__law_sx_do p).mono (by decide)) hg hr (by rfl) p.d__law_sx_do.gl p.d__law_sx_do.kp p.d__law_sx_do.bd pass0 (pa_cons (pv 0) (pa_cons (pv 2) pa_nil))) (pv 3) (nomark _)))))
      (pss_one (ps_ret pe_bl)) pss_nil)))
      (pss_one (ps_ret pe_bl))),
    fun C xc => (so_seq (so_for (so_itL (so_frz (i := 1))) (so_gtup (so_gcons (so_gname (i := 2)) (so_gcons (so_gname (i := 3)) so_gnil)))
      (so_ifS (so_tor (so_test (so_op sr_B (so_ixT (so_var (i := 0)) (so_c (sca_int _))) (so_f sc_len (so_cons (so_var (i := 2)) so_nil)))) (so_test (so_op sr_neD (so_callT (so_cons (so_var (i := 0)) (so_cons (so_var (i := 2)) so_nil))) (so_var (i := 3)))))
      (so_ret (so_c (sca_bl _))) so_next))
      (so_ret (so_c (sca_bl _))))⟩) val__law_sx_fits
def w__law_sx_seen : Tw := fun ds Q => ∃ (e : Int × List Int) (m c : Int), ds = [dE e, .int m, .int c] ∧ Eff e ∧ e.1 ≤ 380 ∧ e.2.length ≤ 380 ∧ 0 ≤ m ∧ m ≤ 6 ∧ 1 ≤ c ∧ c ≤ 8 ∧ ∀ ps : List (List Str × List Str), (∀ p ∈ ps, (∀ s ∈ p.1, s ∈ TxS) ∧ (∀ s ∈ p.2, s ∈ TxS) ∧ p.1.length ≤ 382 ∧ p.2.length ≤ 800 ∧ (p.2.length = p.1.length ∨ (p.2.length : Int) - p.1.length = e.2.length - e.1)) → ps.length ≤ 6 → Q (.list (ps.map pairD))
theorem ar__law_sx_seen : ∀ ds G, w__law_sx_seen ds G → ds.length + 1 = 4 := by
  rintro ds G ⟨_, _, _, rfl, _⟩
  rfl
def kr__law_sx_seen_1 : KS := (kDrop (kApp (kVar 4) (kMk false 2 (kCons (kMov 8) (kCons (kMov 9) kNil)))))
def kr__law_sx_seen_2 : KS := (kSeq (kIfS (kTAnd (kTest (kOp (vEq false) (kCallP 1 w__law_sx_pick 1 (kCons (kVar 0) (kCons (kC (.int 12)) kNil))) (kC (.int 0)))) (kTest (kOp (vEqD true) (kVar 9) (kLit (.list [])))))
  (kAsg (kIx true (kVar 5) (kCallP 1 w__law_sx_pick 1 (kCons (kVar 0) (kCons (kC (.int 8)) kNil)))) (kgSub (kVar 9) (kCallP 1 w__law_sx_pick 1 (kCons (kVar 0) (kCons (kF 1 vLen (kCons (kVar 9) kNil)) kNil)))))
  kNext)
  kr__law_sx_seen_1)
def kr__law_sx_seen_3 : KS := (kSeq (kAsg (kIf (kTest (kOp (vB fun i j => decide (i ≤ j)) (kIx false (kVar 1) (kC (.int 0))) (kF 1 vLen (kCons (kVar 8) kNil)))) (kCallT w__law_sx_do 2 (kCons (kVar 1) (kCons (kVar 8) kNil))) (kListOf (kCons (kVar 8) kNil))) (kgName 9))
  kr__law_sx_seen_2)
def kr__law_sx_seen_4 : KS := (kSeq (kIfS (kTest (kOp (vEq false) (kCallP 1 w__law_sx_pick 1 (kCons (kVar 0) (kCons (kC (.int 9)) kNil))) (kC (.int 0))))
  (kAsg (kSl (kVar 8) kNo (kPart (kUn vNeg (kC (.int 1))))) (kgName 8))
  kNext)
  kr__law_sx_seen_3)
def kr__law_sx_seen_5 : KS := (kSeq (kAsg (kLc (kRng1 (kVar 7)) 10 kYes (kIx true (kVar 5) (kCallP 1 w__law_sx_pick 1 (kCons (kVar 0) (kCons (kVar 3) kNil))))) (kgName 8))
  kr__law_sx_seen_4)
def kb__law_sx_seen_6 : KS := (kSeq (kAsg (kOp (vI noC fun i j => i + j) (kIx false (kVar 1) (kC (.int 0))) (kCallP 1 w__law_sx_pick 1 (kCons (kVar 0) (kCons (kC (.int 3)) kNil)))) (kgName 7))
  kr__law_sx_seen_5)
def kr__law_sx_seen_7 : KS := (kRet (kMov 4))
def kr__law_sx_seen_8 : KS := (kSeq (kFor (kRng1 (kVar 2)) (kgName 6) kb__law_sx_seen_6)
  kr__law_sx_seen_7)
def kr__law_sx_seen_9 : KS := (kSeq (kIfS (kTest (kOp (vEq false) (kCallP 1 w__law_sx_pick 1 (kCons (kVar 0) (kCons (kC (.int 2)) kNil))) (kC (.int 0))))
  (kAsg (kLit (.list [(.str ("a" : String)), (.str ("aa" : String)), (.str ("" : String)), (.str ("ab" : String)), (.str ("b" : String)), (.str ("A" : String)), (.str ("a b" : String)), (.str ("~" : String))])) (kgName 5))
  kNext)
  kr__law_sx_seen_8)
def k__law_sx_seen : KS := (kSeq (kAsg (kMk false 2 (kCons (kLit (.list [])) (kCons (kLit (.list [(.str ("a" : String)), (.str ("b" : String)), (.str ("c" : String)), (.str ("d" : String)), (.str ("e" : String)), (.str ("f" : String)), (.str ("g" : String)), (.str ("h" : String))])) kNil))) (kgTup 2 (kgCons (kgName 4) (kgCons (kgName 5) kgNil))))
  kr__law_sx_seen_9)
local macro_rules | `(tactic| walk_at "go") => `(tactic| ((first | unfold kr__law_sx_seen_1 | unfold kr__law_sx_seen_2 | unfold kr__law_sx_seen_3 | unfold kr__law_sx_seen_4 | unfold kr__law_sx_seen_5 | unfold kr__law_sx_seen_7 | unfold kr__law_sx_seen_8 | unfold kr__law_sx_seen_9); walk_at "ev"))
theorem val__law_sx_seen : ∀ ds G, w__law_sx_seen ds G → k__law_sx_seen ⟨.pu :: (ds.map Sl.fz ++ [.jk, .jk, .jk, .jk, .jk, .jk, .jk]), [], 2400⟩ (edP G) := by
  rintro ds Gq ⟨e, m, c, rfl, ef, e1, e2, m0, m1, c0, c1, q⟩
  unfold k__law_sx_seen
  walk_at "ev"
  have rest : ∀ (mn : List Str) (j : Int), mn.length = 8 → (∀ s ∈ mn, s ∈ TxS) → 2380 ≤ j → kr__law_sx_seen_8 ⟨[.pu, .fz (dE e), .fz (.int m), .fz (.int c), .ow true (.list []), .ow true (dS mn), .jk, .jk, .jk, .jk, .jk], [], j⟩ (edP Gq) := fun mn j hml hmn hj => by
    walk_at "go"
    refine ⟨⟨by omega, by omega⟩, ?_⟩
    have lr := rg_length 0 m
    refine forL_ints (rg 0 m) (fun pre γ => ∃ (ps : List (List Str × List Str)) (u6 u7 u8 u9 u10 : Sl), (∀ p ∈ ps, (∀ s ∈ p.1, s ∈ TxS) ∧ (∀ s ∈ p.2, s ∈ TxS) ∧ p.1.length ≤ 382 ∧ p.2.length ≤ 800 ∧ (p.2.length = p.1.length ∨ (p.2.length : Int) - p.1.length = e.2.length - e.1)) ∧ ps.length = pre.length ∧ ∃ J : Int, j - 390 * pre.length ≤ J ∧ γ = ⟨[.pu, .fz (dE e), .fz (.int m), .fz (.int c), .ow true (.list (ps.map pairD)), .ow true (dS mn), u6, u7, u8, u9, u10], [], J⟩) (fun pre x post γ N hl ht hP hN => ?_) (fun γ ht hP => ?_) _ rfl ⟨[], .jk, .jk, .jk, .jk, .jk, by simp, rfl, j, by simp, rfl⟩
    · obtain ⟨ps, u6, u7, u8, u9, u10, hps, pl, J, hJ, rfl⟩ := hP
      have hlen := congrArg List.length hl
      rw [lr, List.length_append, List.length_cons] at hlen
      have J0 : 395 ≤ J := by omega
      have fin : ∀ (as bs : List Str) (k : Int) (u6 u7 u10 : Sl), (∀ s ∈ as, s ∈ TxS) → (∀ s ∈ bs, s ∈ TxS) → as.length ≤ 382 → bs.length ≤ 800 → (bs.length = as.length ∨ (bs.length : Int) - as.length = e.2.length - e.1) → J - 390 ≤ k → kr__law_sx_seen_1 ⟨[.pu, .fz (dE e), .fz (.int m), .fz (.int c), .ow true (.list (ps.map pairD)), .ow true (dS mn), u6, u7, .ow true (dS as), .ow true (dS bs), u10], [], k⟩ ⟨fun γ2 => γ2.tm = [] ∧ N γ2, (edP Gq).rt, fun γ2 => γ2.tm = [] ∧ False, fun γ2 => γ2.tm = [] ∧ N γ2⟩ := fun as bs k u6 u7 u10 ha hb la lb ld hk => by
        walk_at "go"
        refine ⟨rfl, rfl, by omega, hN _ rfl ⟨ps ++ [(as, bs)], u6, u7, .jk, .jk, u10, fun p hp => ?_, by simp [pl], k, by rw [List.length_append, List.length_singleton]; omega, by rw [List.map_append]; rfl⟩⟩
        rcases List.mem_append.mp hp with hp | hp
        · exact hps p hp
        · simp only [List.mem_singleton] at hp
          subst hp
          exact ⟨ha, hb, la, lb, ld⟩
      have two : ∀ (as bs : List Str) (k : Int) (u6 u7 u10 : Sl), (∀ s ∈ as, s ∈ TxS) → (∀ s ∈ bs, s ∈ TxS) → as.length ≤ 382 → bs.length ≤ 800 → (bs.length = as.length ∨ (bs.length : Int) - as.length = e.2.length - e.1) → J - 387 ≤ k → kr__law_sx_seen_2 ⟨[.pu, .fz (dE e), .fz (.int m), .fz (.int c), .ow true (.list (ps.map pairD)), .ow true (dS mn), u6, u7, .ow true (dS as), .ow true (dS bs), u10], [], k⟩ ⟨fun γ2 => γ2.tm = [] ∧ N γ2, (edP Gq).rt, fun γ2 => γ2.tm = [] ∧ False, fun γ2 => γ2.tm = [] ∧ N γ2⟩ := fun as bs k u6 u7 u10 ha hb la lb ld hk => by
        walk_at "go"
        refine ⟨⟨by decide, by omega⟩, 12, rfl, by decide, by decide, fun t t0 t1 => ?_⟩
        walk_at "ev"
        refine iteB (fun cc => ?_) (fun cc => fin as bs _ _ _ _ ha hb la lb ld (by omega))
        refine ⟨shaped_strs fun s hs => ok_ts (hb s hs), shaped_strs (ss := []) (fun _ z => nomatch z), ?_⟩
        rw [show PyData.eqv (dS bs) (PyData.list []) = decide (bs = []) from eqv_strs bs []]
        by_cases be : bs = []
        · rw [decide_eq_true be]
          exact fin as bs _ _ _ _ ha hb la lb ld (by omega)
        · rw [decide_eq_false be]
          have bl : 0 < bs.length := List.length_pos_iff.mpr be
          refine ⟨⟨by decide, by omega⟩, 8, rfl, by decide, by decide, fun r r0 r1 => ?_⟩
          walk_at "ev"
          refine ixD_strs (by omega) (by omega) fun s hs _ _ => ?_
          walk_at "ev"
          refine ⟨⟨by decide, by omega⟩, bs.length, rfl, by omega, by omega, fun i i0 i1 => ?_⟩
          walk_at "ev"
          refine ⟨⟨i0, i1⟩, ?_⟩
          rw [show (bs.map PyData.str).set i.toNat (.str s) = (bs.set i.toNat s).map PyData.str from List.map_set.symm]
          refine fin as (bs.set i.toNat s) _ _ _ _ ha (fun y hy => ?_) la (by rw [List.length_set]; exact lb) (by rw [List.length_set]; exact ld) (by omega)
          rcases List.mem_or_eq_of_mem_set hy with hy | hy
          · exact hb y hy
          · rw [hy]
            exact hmn s hs
      have three : ∀ (as : List Str) (k : Int) (u6 u7 u9 u10 : Sl), (∀ s ∈ as, s ∈ TxS) → as.length ≤ 382 → J - 387 ≤ k → kr__law_sx_seen_3 ⟨[.pu, .fz (dE e), .fz (.int m), .fz (.int c), .ow true (.list (ps.map pairD)), .ow true (dS mn), u6, u7, .ow true (dS as), u9, u10], [], k⟩ ⟨fun γ2 => γ2.tm = [] ∧ N γ2, (edP Gq).rt, fun γ2 => γ2.tm = [] ∧ False, fun γ2 => γ2.tm = [] ∧ N γ2⟩ := fun as k u6 u7 u9 u10 ha la hk => by
        walk_at "go"
        refine iteB (fun cc => ?_) (fun cc => ?_)
        · have cc := of_decide_eq_true cc
          refine ⟨e, as.map .str, rfl, ef, by rw [List.length_map]; omega, by omega, by rw [List.length_map]; omega, fun y my => nolist_str my, ?_⟩
          rw [doX_strs]
          walk_at "ev"
          have dl := doS_len (e := e) (ss := as)
          exact two as _ _ _ _ _ ha (fun s hs => ha s (doS_mem hs)) la (by omega) (.inr (by have := doS_lenE (e := e) (ss := as) ef (by omega); omega)) (by omega)
        · walk_at "ev"
          rw [nolists_strs]
          walk_at "ev"
          rw [nolists_strs]
          exact two as as _ _ _ _ ha ha la (by omega) (.inl rfl) (by omega)
      have four : ∀ (as : List Str) (k : Int) (u6 u7 u9 u10 : Sl), (∀ s ∈ as, s ∈ TxS) → as.length ≤ 382 → J - 386 ≤ k → kr__law_sx_seen_4 ⟨[.pu, .fz (dE e), .fz (.int m), .fz (.int c), .ow true (.list (ps.map pairD)), .ow true (dS mn), u6, u7, .ow true (dS as), u9, u10], [], k⟩ ⟨fun γ2 => γ2.tm = [] ∧ N γ2, (edP Gq).rt, fun γ2 => γ2.tm = [] ∧ False, fun γ2 => γ2.tm = [] ∧ N γ2⟩ := fun as k u6 u7 u9 u10 ha la hk => by
        walk_at "go"
        refine ⟨⟨by decide, by omega⟩, 9, rfl, by decide, by decide, fun t t0 t1 => ?_⟩
        walk_at "ev"
        refine iteB (fun cc => ?_) (fun cc => three as _ _ _ _ _ ha la (by omega))
        walk_at "ev"
        rw [nolists_strs]
        walk_at "ev"
        rw [cutD_init, ← List.map_dropLast, nolists_strs]
        exact three as.dropLast _ _ _ _ _ (fun s hs => ha s (List.dropLast_subset _ hs)) (by rw [List.length_dropLast]; omega) (by omega)
      unfold kb__law_sx_seen_6
      walk_at "ev"
      refine ⟨⟨by decide, by omega⟩, 3, rfl, by decide, by decide, fun t t0 t1 => ?_⟩
      have n0 := ef.nn
      walk_at "ev"
      walk_at "go"
      refine ⟨⟨by omega, by omega⟩, ?_⟩
      obtain ⟨z, hz, z0, z1⟩ : ∃ z : Int, e.1 + t = z ∧ 0 ≤ z ∧ z ≤ 382 := ⟨_, rfl, by omega, by omega⟩
      rw [hz]
      have lz := rg_length 0 z
      refine lc_inv (j := 10) true (rg 0 z) PyData.int (fun pr acc n' => ∃ ss : List Str, acc = ss.map PyData.str ∧ ss.length = pr.length ∧ (∀ s ∈ ss, s ∈ TxS) ∧ pr.length ≤ 382 ∧ n' = J - 1 - pr.length) rfl rfl (fun pr acc n' hp => ?_) (fun pr x po acc n' Y X hl2 hp hY hX => ?_) (fun acc n' hp => ?_) [] (J - 1) ⟨[], rfl, rfl, by simp, by simp, by simp⟩
      · obtain ⟨ss, rfl, h1, _, h2, _⟩ := hp
        rw [List.length_map]
        omega
      · obtain ⟨ss, rfl, h1, h2, h3, rfl⟩ := hp
        have hl3 := congrArg List.length hl2
        rw [lz, List.length_append, List.length_cons] at hl3
        walk_at "ev"
        refine ⟨⟨by decide, by omega⟩, c, rfl, by omega, by omega, fun r r0 r1 => ?_⟩
        walk_at "ev"
        refine ixD_strs (by omega) (by omega) fun s hs _ _ => ?_
        walk_at "ev"
        refine hY (.fz (.str s)) true (.str s) _ rfl rfl ⟨ss ++ [s], by rw [List.map_append]; rfl, by simp [h1], fun y hy => ?_, by rw [List.length_append, List.length_singleton]; omega, by rw [List.length_append, List.length_singleton]; omega⟩
        rcases List.mem_append.mp hy with hy | hy
        · exact h2 y hy
        · simp at hy
          rw [hy]
          exact hmn _ hs
      · obtain ⟨ss, rfl, h1, h2, h3, rfl⟩ := hp
        rw [lz] at h1
        walk_at "ev"
        exact four ss _ _ _ _ _ h2 (by omega) (by rw [lz]; omega)
    · obtain ⟨ps, u6, u7, u8, u9, u10, hps, pl, J, hJ, rfl⟩ := hP
      walk_at "ev"
      walk_at "go"
      have : (rg 0 m).length ≤ 6 := by omega
      exact ⟨by omega, q ps hps (by omega)⟩
  walk_at "go"
  refine ⟨by decide, 2, rfl, by decide, by decide, fun t t0 t1 => ?_⟩
  walk_at "ev"
  refine iteB (fun c => ?_) (fun c => ?_)
  · exact rest [("a" : String), ("aa" : String), ("" : String), ("ab" : String), ("b" : String), ("A" : String), ("a b" : String), ("~" : String)] _ rfl (by decide +kernel) (by decide)
  · exact rest [("a" : String), ("b" : String), ("c" : String), ("d" : String), ("e" : String), ("f" : String), ("g" : String), ("h" : String)] _ rfl (by decide +kernel) (by decide)
theorem ok__law_sx_seen (p : Prog K mg) : FnG P w K mg base CX0 2 p.f__law_sx_seen p.fd__law_sx_seen ["_law_sack", "_law_drawn", "_law_many", "_law_letters"] (spP 2400 w__law_sx_seen) :=
  okP p.d__law_sx_seen.F sc__law_sx_seen (by decide) ar__law_sx_seen (by decide) (fun cdv A outer s H E hg hr => ⟨_, (pss_cons (ps_asg (pe_tup (pa_cons (pe_lst pa_nil) (pa_cons (pe_lst (pa_cons pe_str (pa_cons pe_str (pa_cons pe_str (pa_cons pe_str (pa_cons pe_str (pa_cons pe_str (pa_cons pe_str (pa_cons pe_str pa_nil))))))))) pa_nil))) (pg_tup rfl (pgs_cons (pg_name (i := 4) sc__law_sx_seen.nd rfl (Or.inl rfl)) (pgs_cons (pg_name (i := 5) sc__law_sx_seen.nd rfl (Or.inr rfl)) pgs_nil))))
      (pss_cons (ps_if (pt_cmpR op_eq (pe_callG ((ok__law_sx_pick p).mono (by decide)) hg hr (by rfl) p.d__law_sx_pick.gl p.d__law_sx_pick.kp p.d__law_sx_pick.bd pass0 (pa_cons (pv 0) (pa_cons pe_int pa_nil))) pe_int (nomark _))
      (pss_one (ps_set (i := 5) sc__law_sx_seen.nd rfl (Or.inr rfl) (pe_lst (pa_cons pe_str (pa_cons pe_str (pa_cons pe_str (pa_cons pe_str (pa_cons pe_str (pa_cons pe_str (pa_cons pe_str (pa_cons pe_str pa_nil))))))))))) pss_nil)
      (pss_cons (ps_for PassesOwn.never rfl (pi_range1 (by rfl) p.blt.range (pa_cons (pv 2) pa_nil)) (pg_name (i := 6) sc__law_sx_seen.nd rfl (Or.inl rfl))
      (pss_cons (ps_set (i := 7) sc__law_sx_seen.nd rfl (Or.inl rfl) (pe_op op_add (pe_ix ix_tup (pv 1) pe_int (fun _ _ => rfl)) (pe_callG ((ok__law_sx_pick p).mono (by decide)) hg hr (by rfl) p.d__law_sx_pick.gl p.d__law_sx_pick.kp p.d__law_sx_pick.bd pass0 (pa_cons (pv 0) (pa_cons pe_int pa_nil)))))
      (pss_cons (ps_setLc (i := 8) (own := [("_law_rank", 10)]) (g := gName 10) (tt := tYes) rfl sc__law_sx_seen.nd rfl rfl (sw_true rfl rfl rfl (by decide +kernel)) (pi_range1 (by rfl) p.blt.range (pa_cons (pv 7) pa_nil)) (blkOk_by (N := N__law_sx_seen) (sc := defScope s__law_sx_seen) (by decide +kernel)) (fun _ _ _ _ _ => pg_name (i := 10) sc__law_sx_seen.nd rfl (Or.inl rfl)) (fun _ _ _ _ _ => pts_nil) (fun _ _ _ _ _ => (pe_ix (show IxR _ (rIxL K) from ix_list) (pv 5) (pe_callG ((ok__law_sx_pick p).mono (by decide)) hg hr (by rfl) p.d__law_sx_pick.gl p.d__law_sx_pick.kp p.d__law_sx_pick.bd pass0 (pa_cons (pv 0) (pa_cons (pv 3) pa_nil))) (fun _ _ => rfl))))
      (pss_cons (ps_if (pt_cmpR op_eq (pe_callG ((ok__law_sx_pick p).mono (by decide)) hg hr (by rfl) p.d__law_sx_pick.gl p.d__law_sx_pick.kp p.d__law_sx_pick.bd pass0 (pa_cons (pv 0) (pa_cons pe_int pa_nil))) pe_int (nomark _))
      (pss_one (ps_set (i := 8) sc__law_sx_seen.nd rfl (Or.inl rfl) (pe_slice sl_list (pv 8) po_none (po_some (pe_un un_neg pe_int))))) pss_nil)
      (pss_cons (ps_set (i := 9) sc__law_sx_seen.nd rfl (Or.inl rfl) (pe_ifExp (pt_cmpR op_le (pe_ix ix_tup (pv 1) pe_int (fun _ _ => rfl)) (pe_callB call_len_seq (by rfl) p.blt.len PySem.boot_len (pa_cons (pv 8) pa_nil)) (nomark _)) (pe_callG ((ok__law_sx_do p).mono (by decide)) hg hr (by rfl) p.d__law_sx_do.gl p.d__law_sx_do.kp p.d__law_sx_do.bd pass0 (pa_cons (pv 1) (pa_cons (pv 8) pa_nil))) (pe_callTy call_list_of (by rfl) p.blt.list (by decide +kernel) (pa_cons (pv 8) pa_nil))))
      (pss_cons (ps_if (PW.pt (pw_and (pt_cmpR op_eq (pe_callG ((ok__law_sx_pick p).mono (by decide)) hg hr (by rfl) p.d__law_sx_pick.gl p.d__law_sx_pick.kp p.d__law_sx_pick.bd pass0 (pa_cons (pv 0) (pa_cons pe_int pa_nil))) pe_int (nomark _)) (pw_and1 (pt_cmpR (op_neD hr.units) (pv 9) (pe_lst pa_nil) (nomark _)))))
      (pss_one (ps_asg (pe_ix ix_list (pv 5) (pe_callG ((ok__law_sx_pick p).mono (by decide)) hg hr (by rfl) p.d__law_sx_pick.gl p.d__law_sx_pick.kp p.d__law_sx_pick.bd pass0 (pa_cons (pv 0) (pa_cons pe_int pa_nil))) (fun _ _ => rfl)) (pg_sub (pv 9) (pe_callG ((ok__law_sx_pick p).mono (by decide)) hg hr (by rfl) p.d__law_sx_pick.gl p.d__law_sx_pick.kp p.d__law_sx_pick.bd pass0 (pa_cons (pv 0) (pa_cons (pe_callB call_len_seq (by rfl) p.blt.len PySem.boot_len (pa_cons (pv 9) pa_nil)) pa_nil))) set_list))) pss_nil)
      (pss_one (ps_expr (pe_bm PySem.F.plainAttrs_list PySem.F.slot_list_append PySem.F.type_list_append mt_append (pv 4) (pa_cons (pe_tup (pa_cons (pv 8) (pa_cons (pv 9) pa_nil))) pa_nil))))))))))
      (pss_one (ps_ret (pv 4)))))),
    fun C xc => (so_seq (so_asg (so_tup (so_cons (so_lit_lst so_lits_nil) (so_cons (so_lit_lst (so_lits_cons (so_lit_c (sca_str _) rfl) (so_lits_cons (so_lit_c (sca_str _) rfl) (so_lits_cons (so_lit_c (sca_str _) rfl) (so_lits_cons (so_lit_c (sca_str _) rfl) (so_lits_cons (so_lit_c (sca_str _) rfl) (so_lits_cons (so_lit_c (sca_str _) rfl) (so_lits_cons (so_lit_c (sca_str _) rfl) (so_lits_cons (so_lit_c (sca_str _) rfl) so_lits_nil))))))))) so_nil))) (so_gtup (so_gcons (so_gname (i := 4)) (so_gcons (so_gname (i := 5)) so_gnil))))
      (so_seq (so_ifS (so_test (so_op sr_eq (so_callP (so_cons (so_var (i := 0)) (so_cons (so_c (sca_int _)) so_nil))) (so_c (sca_int _))))
      (so_asg (so_lit_lst (so_lits_cons (so_lit_c (sca_str _) rfl) (so_lits_cons (so_lit_c (sca_str _) rfl) (so_lits_cons (so_lit_c (sca_str _) rfl) (so_lits_cons (so_lit_c (sca_str _) rfl) (so_lits_cons (so_lit_c (sca_str _) rfl) (so_lits_cons (so_lit_c (sca_str _) rfl) (so_lits_cons (so_lit_c (sca_str _) rfl) (so_lits_cons (so_lit_c (sca_str _) rfl) so_lits_nil))))))))) (so_gname (i := 5))) so_next)
      (so_seq (so_for (so_rng1 (so_var (i := 2))) (so_gname (i := 6))
      (so_seq (so_asg (so_op sr_I0 (so_ixT (so_var (i := 1)) (so_c (sca_int _))) (so_callP (so_cons (so_var (i := 0)) (so_cons (so_c (sca_int _)) so_nil)))) (so_gname (i := 7)))
      (so_seq (so_asg (so_lc (so_rng1 (so_var (i := 7))) so_yes (so_ixL (so_var (i := 5)) (so_callP (so_cons (so_var (i := 0)) (so_cons (so_var (i := 3)) so_nil))))) (so_gname (i := 8)))
      (so_seq (so_ifS (so_test (so_op sr_eq (so_callP (so_cons (so_var (i := 0)) (so_cons (so_c (sca_int _)) so_nil))) (so_c (sca_int _))))
      (so_asg (so_sl (so_var (i := 8)) so_no (so_part (so_neg (so_c (sca_int _))))) (so_gname (i := 8))) so_next)
      (so_seq (so_asg (so_if (so_test (so_op sr_B (so_ixT (so_var (i := 1)) (so_c (sca_int _))) (so_f sc_len (so_cons (so_var (i := 8)) so_nil)))) (so_callT (so_cons (so_var (i := 1)) (so_cons (so_var (i := 8)) so_nil))) (so_listOf (so_cons (so_var (i := 8)) so_nil))) (so_gname (i := 9)))
      (so_seq (so_ifS (so_tand (so_test (so_op sr_eq (so_callP (so_cons (so_var (i := 0)) (so_cons (so_c (sca_int _)) so_nil))) (so_c (sca_int _)))) (so_test (so_op sr_neD (so_var (i := 9)) (so_lit_lst so_lits_nil))))
      (so_asg (so_ixL (so_var (i := 5)) (so_callP (so_cons (so_var (i := 0)) (so_cons (so_c (sca_int _)) so_nil)))) (so_gsub (so_var (i := 9)) (so_callP (so_cons (so_var (i := 0)) (so_cons (so_f sc_len (so_cons (so_var (i := 9)) so_nil)) so_nil))))) so_next)
      (so_drop (so_app (so_var (i := 4)) (so_tup (so_cons (so_mov (i := 8)) (so_cons (so_mov (i := 9)) so_nil)))))))))))
      (so_ret (so_mov (i := 4))))))⟩) val__law_sx_seen
def w__law_sx_course : Tw := fun ds Q => ∃ (a b c : Int × List Int) (k : Int), ds = [dC a b c, .int k] ∧ (Eff a ∧ Eff b ∧ Eff c) ∧ (a.1 ≤ 8 ∧ b.1 ≤ 8 ∧ c.1 ≤ 8) ∧ (a.2.length ≤ 8 ∧ b.2.length ≤ 8 ∧ c.2.length ≤ 8) ∧ (0 ≤ k ∧ k ≤ 450) ∧ (k * (b.1 - b.2.length) ≤ 450 ∧ k * (b.2.length - b.1) ≤ 450) ∧ Q (dE (crE a b c k.toNat))
theorem ar__law_sx_course : ∀ ds G, w__law_sx_course ds G → ds.length = 2 := by
  rintro ds G ⟨a, b, c, k, rfl, _⟩
  rfl
def kb__law_sx_course_1 : KS := (kAsg (kCallT w__law_sx_do 2 (kCons (kIx false (kVar 0) (kC (.int 1))) (kCons (kVar 4) kNil))) (kgName 4))
def kr__law_sx_course_2 : KS := (kRet (kCallT w__law_sx_least 2 (kCons (kVar 3) (kCons (kCallT w__law_sx_do 2 (kCons (kIx false (kVar 0) (kC (.int 2))) (kCons (kVar 4) kNil))) kNil))))
def kr__law_sx_course_3 : KS := (kSeq (kFor (kRng1 (kVar 1)) (kgName 5) kb__law_sx_course_1)
  kr__law_sx_course_2)
def kr__law_sx_course_4 : KS := (kSeq (kAsg (kCallT w__law_sx_do 2 (kCons (kIx false (kVar 0) (kC (.int 0))) (kCons (kListRg (kRg2 (kC (.int 1)) (kOp (vI noC fun i j => i + j) (kVar 3) (kC (.int 1))))) kNil))) (kgName 4))
  kr__law_sx_course_3)
def kr__law_sx_course_5 : KS := (kSeq (kAsg (kOp (vI noC fun i j => i + j) (kOp (vI noC fun i j => i + j) (kOp (vI noC fun i j => i + j) (kIx false (kIx false (kVar 0) (kC (.int 0))) (kC (.int 0))) (kIx false (kIx false (kVar 0) (kC (.int 1))) (kC (.int 0)))) (kIx false (kIx false (kVar 0) (kC (.int 2))) (kC (.int 0)))) (kOp (vI CMulB fun i j => i * j) (kVar 1) (kVar 2))) (kgName 3))
  kr__law_sx_course_4)
def k__law_sx_course : KS := (kSeq (kAsg (kF 2 (v2I fun i j => if j > i then j else i) (kCons (kC (.int 0)) (kCons (kOp (vI noC fun i j => i - j) (kIx false (kIx false (kVar 0) (kC (.int 1))) (kC (.int 0))) (kF 1 vLen (kCons (kIx false (kIx false (kVar 0) (kC (.int 1))) (kC (.int 1))) kNil))) kNil))) (kgName 2))
  kr__law_sx_course_5)
local macro_rules | `(tactic| walk_at "go") => `(tactic| ((first | unfold kr__law_sx_course_2 | unfold kr__law_sx_course_3 | unfold kr__law_sx_course_4 | unfold kr__law_sx_course_5); walk_at "ev"))
theorem val__law_sx_course : ∀ ds G, w__law_sx_course ds G → k__law_sx_course ⟨ds.map Sl.fz ++ [.jk, .jk, .jk, .jk], [], 0⟩ (edT G) := by
  rintro ds Gq ⟨a, b, c, k, rfl, ⟨ea, eb, ec⟩, ⟨na, nb, nc⟩, ⟨la, lb, lc⟩, ⟨k0, k1⟩, ⟨g1, g2⟩, q⟩
  obtain ⟨m, rfl⟩ : ∃ m : Nat, k = m := ⟨k.toNat, by omega⟩
  have a0 := ea.nn
  have b0 := eb.nn
  have c0 := ec.nn
  rw [Int.toNat_natCast] at q
  unfold k__law_sx_course
  walk_at "ev"
  obtain ⟨x, hx⟩ : ∃ x : Int, max 0 (b.1 - b.2.length) = x := ⟨_, rfl⟩
  have ex : (if (0 : Int) < b.1 - b.2.length then b.1 - b.2.length else 0) = x := by split <;> omega
  have ex2 : (if b.1 - (b.2.length : Int) > 0 then b.1 - b.2.length else 0) = x := by split <;> omega
  try rw [ex]
  try rw [ex2]
  have mx : (m : Int) * x ≤ 450 ∧ 0 ≤ (m : Int) * x := by
    refine ⟨?_, Int.mul_nonneg (by omega) (by omega)⟩
    by_cases h : b.1 ≤ b.2.length
    · rw [show x = 0 by omega]
      omega
    · rw [show x = b.1 - b.2.length by omega]
      exact g1
  walk_at "go"
  refine ⟨cmulB_of (by omega) (by omega), ?_⟩
  obtain ⟨d, hd⟩ : ∃ d : Int, a.1 + b.1 + c.1 + m * x = d := ⟨_, rfl⟩
  have hd2 : d = a.1 + b.1 + c.1 + m * max 0 (b.1 - b.2.length) := by rw [hx, hd]
  obtain ⟨p1, p2, p3, p4, p5, p6, p7⟩ := course_pile ea eb ec hd2
  rw [hd]
  have lr := rg_length 1 (d + 1)
  have up : ∀ j : Nat, j ≤ m → (j : Int) * (b.2.length - b.1) ≤ 450 := fun j hj => by
    by_cases h : b.1 ≤ b.2.length
    · exact Int.le_trans (Int.mul_le_mul_of_nonneg_right (show (j : Int) ≤ m by omega) (by omega)) g2
    · have : (0 : Int) ≤ j * (b.1 - b.2.length) := Int.mul_nonneg (by omega) (by omega)
      have e : (j : Int) * (b.2.length - b.1) = -(j * (b.1 - b.2.length)) := by
        rw [← Int.mul_neg]
        congr 1
        omega
      omega
  walk_at "go"
  refine ⟨⟨by omega, by omega, by omega, by omega⟩, ?_⟩
  refine ⟨a, (rg 1 (d + 1)).map .int, rfl, ea, by rw [List.length_map]; omega, by omega, by rw [List.length_map]; omega, fun y my => nolist_int my, ?_⟩
  rw [doX_ints ea (by omega)]
  walk_at "ev"
  walk_at "go"
  refine ⟨⟨by omega, by omega⟩, ?_⟩
  have lm := rg_length 0 (m : Int)
  refine forL_ints (rg 0 (m : Int)) (fun pre γ => pre.length ≤ m ∧ ∃ u : Sl, γ = ⟨[.fz (dC a b c), .fz (.int m), .fz (.int x), .fz (.int d), .ow true (dI (doN b pre.length (doE a (rg 1 (d + 1))))), u], [], 0⟩) (fun pre y post γ N hl ht hP hN => ?_) (fun γ ht hP => ?_) _ rfl ⟨by simp, .jk, rfl⟩
  · obtain ⟨hj, u, rfl⟩ := hP
    have hlen := congrArg List.length hl
    rw [lm, List.length_append, List.length_cons] at hlen
    have l1 := p3 pre.length (by omega)
    have l2 := p4 pre.length (by omega)
    have l3 := up pre.length (by omega)
    unfold kb__law_sx_course_1
    walk_at "ev"
    refine ⟨b, (doN b pre.length (doE a (rg 1 (d + 1)))).map .int, rfl, eb, by rw [List.length_map]; omega, by omega, by rw [List.length_map]; omega, fun y my => nolist_int my, ?_⟩
    rw [doX_ints eb (by omega)]
    walk_at "ev"
    refine hN _ rfl ⟨by rw [List.length_append, List.length_singleton]; omega, .fz (.int y), ?_⟩
    rw [List.length_append, List.length_singleton]
    rfl
  · obtain ⟨hj, u, rfl⟩ := hP
    rw [lm, show ((m : Int) - 0).toNat = m by omega]
    have l1 := p3 m (Nat.le_refl _)
    have l3 := up m (Nat.le_refl _)
    walk_at "ev"
    walk_at "go"
    refine ⟨c, (doN b m (doE a (rg 1 (d + 1)))).map .int, rfl, ec, by rw [List.length_map]; omega, by omega, by rw [List.length_map]; omega, fun y my => nolist_int my, ?_⟩
    rw [doX_ints ec (by omega)]
    walk_at "ev"
    have le : (doE c (doN b m (doE a (rg 1 (d + 1))))).length ≤ 1000 := by
      unfold doE
      rw [List.length_append, List.length_map, List.length_drop]
      show c.2.length + ((doN b m (doE a (rg 1 (d + 1)))).length - _) ≤ _
      omega
    refine ⟨d, doE c (doN b m (doE a (rg 1 (d + 1)))), rfl, p6, le, ?_⟩
    rw [show leastE d (doE c (doN b m (doE a (rg 1 (d + 1))))) = crE a b c m from p7]
    walk_at "ev"
    exact q
theorem ok__law_sx_course (p : Prog K mg) : FnG P w K mg base CX0 2 p.f__law_sx_course p.fd__law_sx_course ["_law_course_here", "_law_number"] (spT w__law_sx_course) :=
  okT p.d__law_sx_course.F sc__law_sx_course (by decide) ar__law_sx_course (fun cdv A outer s H E hg hr => ⟨_, (pss_cons (ps_set (i := 2) sc__law_sx_course.nd rfl (Or.inl rfl) (pe_callB (call_max2 rfl) (by rfl) p.blt.max (by decide +kernel) (pa_cons pe_int (pa_cons (pe_op op_sub (pe_ix ix_tup (pe_ix ix_tup (pv 0) pe_int (fun _ _ => rfl)) pe_int (fun _ _ => rfl)) (pe_callB call_len_seq (by rfl) p.blt.len PySem.boot_len (pa_cons (pe_ix ix_tup (pe_ix ix_tup (pv 0) pe_int (fun _ _ => rfl)) pe_int (fun _ _ => rfl)) pa_nil))) pa_nil))))
      (pss_cons (ps_set (i := 3) sc__law_sx_course.nd rfl (Or.inl rfl) (pe_op op_add (pe_op op_add (pe_op op_add (pe_ix ix_tup (pe_ix ix_tup (pv 0) pe_int (fun _ _ => rfl)) pe_int (fun _ _ => rfl)) (pe_ix ix_tup (pe_ix ix_tup (pv 0) pe_int (fun _ _ => rfl)) pe_int (fun _ _ => rfl))) (pe_ix ix_tup (pe_ix ix_tup (pv 0) pe_int (fun _ _ => rfl)) pe_int (fun _ _ => rfl))) (pe_op op_mulB (pv 1) (pv 2))))
      (pss_cons (ps_set (i := 4) sc__law_sx_course.nd rfl (Or.inl rfl) (pe_callG ((ok__law_sx_do p).mono (by decide)) hg hr (by rfl) p.d__law_sx_do.gl p.d__law_sx_do.kp p.d__law_sx_do.bd pass0 (pa_cons (pe_ix ix_tup (pv 0) pe_int (fun _ _ => rfl)) (pa_cons (pe_listRg rfl (by rfl) p.blt.list (prg_2 (by rfl) p.blt.range pe_int (pe_op op_add (pv 3) pe_int))) pa_nil))))
      (pss_cons (ps_for PassesOwn.never rfl (pi_range1 (by rfl) p.blt.range (pa_cons (pv 1) pa_nil)) (pg_name (i := 5) sc__law_sx_course.nd rfl (Or.inl rfl))
      (pss_one (ps_set (i := 4) sc__law_sx_course.nd rfl (Or.inl rfl) (pe_callG ((ok__law_sx_do p).mono (by decide)) hg hr (by rfl) p.d__law_sx_do.gl p.d__law_sx_do.kp p.d__law_sx_do.bd pass0 (pa_cons (pe_ix ix_tup (pv 0) pe_int (fun _ _ => rfl)) (pa_cons (pv 4) pa_nil))))))
      (pss_one (ps_ret (pe_callG ((ok__law_sx_least p).mono (by decide)) hg hr (by rfl) p.d__law_sx_least.gl p.d__law_sx_least.kp p.d__law_sx_least.bd pass0 (pa_cons (pv 3) (pa_cons (pe_callG ((ok__law_sx_do p).mono (by decide)) hg hr (by rfl) p.d__law_sx_do.gl p.d__law_sx_do.kp p.d__law_sx_do.bd pass0 (pa_cons (pe_ix ix_tup (pv 0) pe_int (fun _ _ => rfl)) (pa_cons (pv 4) pa_nil))) pa_nil))))))))),
    fun C xc => (so_seq (so_asg (so_f sc_2i (so_cons (so_c (sca_int _)) (so_cons (so_op sr_I0 (so_ixT (so_ixT (so_var (i := 0)) (so_c (sca_int _))) (so_c (sca_int _))) (so_f sc_len (so_cons (so_ixT (so_ixT (so_var (i := 0)) (so_c (sca_int _))) (so_c (sca_int _))) so_nil))) so_nil))) (so_gname (i := 2)))
      (so_seq (so_asg (so_op sr_I0 (so_op sr_I0 (so_op sr_I0 (so_ixT (so_ixT (so_var (i := 0)) (so_c (sca_int _))) (so_c (sca_int _))) (so_ixT (so_ixT (so_var (i := 0)) (so_c (sca_int _))) (so_c (sca_int _)))) (so_ixT (so_ixT (so_var (i := 0)) (so_c (sca_int _))) (so_c (sca_int _)))) (so_op sr_I (so_var (i := 1)) (so_var (i := 2)))) (so_gname (i := 3)))
      (so_seq (so_asg (so_callT (so_cons (so_ixT (so_var (i := 0)) (so_c (sca_int _))) (so_cons (so_listRg2 (so_c (sca_int _)) (so_op sr_I0 (so_var (i := 3)) (so_c (sca_int _)))) so_nil))) (so_gname (i := 4)))
      (so_seq (so_for (so_rng1 (so_var (i := 1))) (so_gname (i := 5))
      (so_asg (so_callT (so_cons (so_ixT (so_var (i := 0)) (so_c (sca_int _))) (so_cons (so_var (i := 4)) so_nil))) (so_gname (i := 4))))
      (so_ret (so_callT (so_cons (so_var (i := 3)) (so_cons (so_callT (so_cons (so_ixT (so_var (i := 0)) (so_c (sca_int _))) (so_cons (so_var (i := 4)) so_nil))) so_nil))))))))⟩) val__law_sx_course
def w__law_sx_way : Tw := fun ds Q => ∃ (v : Nat → Int) (T P : Nat), ds = [dI ((List.range (T + P)).map v), .int T] ∧ Per v T P 0 ∧ 1 ≤ P ∧ P ≤ 1000 ∧ T ≤ 1000 ∧
  ∀ (h L : Nat), Tell v h L 0 → h ≤ T → L ≤ P → Q (wayD ((List.range h).map v) ((List.range L).map fun j => v (h + j)))
theorem ar__law_sx_way : ∀ ds G, w__law_sx_way ds G → ds.length = 2 := by
  rintro ds G ⟨v, T, P, rfl, _⟩
  rfl
def kb__law_sx_way_1 : KS := (kIfS (kTAnd (kTest (kOp (vEq false) (kOp (vI (fun _ j => 0 < j) fun i j => i % j) (kF 1 vInt (kCons (kF 1 vLen (kCons (kVar 3) kNil)) kNil)) (kVar 5)) (kC (.int 0)))) (kTest (kOp (vEqD false) (kRepM (kSl (kVar 3) kNo (kPart (kVar 5))) (kOp (vI CDivW fun i j => i / j) (kF 1 vLen (kCons (kVar 3) kNil)) (kVar 5))) (kVar 3))))
  (kAsg (kVar 5) (kgName 4))
  kNext)
def kr__law_sx_way_2 : KS := (kAsg (kSl (kVar 2) kNo (kPart (kUn vNeg (kC (.int 1))))) (kgName 2))
def kb__law_sx_way_3 : KS := (kIfS (kTest (kOp (vEq false) (kIx true (kVar 2) (kUn vNeg (kC (.int 1)))) (kIx true (kVar 3) (kUn vNeg (kC (.int 1))))))
  (kSeq (kAsg (kCat (kMk true 1 (kCons (kIx true (kVar 3) (kUn vNeg (kC (.int 1)))) kNil)) (kSl (kVar 3) kNo (kPart (kUn vNeg (kC (.int 1)))))) (kgName 3))
  kr__law_sx_way_2)
  kBreak)
def kr__law_sx_way_4 : KS := (kRet (kMk false 3 (kCons (kMov 2) (kCons (kMov 3) (kCons (kC (.int 0)) kNil)))))
def kr__law_sx_way_5 : KS := (kSeq (kFor (kRng1 (kVar 1)) (kgName 6) kb__law_sx_way_3)
  kr__law_sx_way_4)
def kr__law_sx_way_6 : KS := (kSeq (kAsg (kSl (kVar 3) kNo (kPart (kVar 4))) (kgName 3))
  kr__law_sx_way_5)
def kr__law_sx_way_7 : KS := (kSeq (kFor (kRngD (kF 1 vLen (kCons (kVar 3) kNil)) (kC (.int 0)) (kUn vNeg (kC (.int 1)))) (kgName 5) kb__law_sx_way_1)
  kr__law_sx_way_6)
def kr__law_sx_way_8 : KS := (kSeq (kAsg (kF 1 vLen (kCons (kVar 3) kNil)) (kgName 4))
  kr__law_sx_way_7)
def k__law_sx_way : KS := (kSeq (kPar 2 3 (kCons (kSl (kVar 0) kNo (kPart (kVar 1))) (kCons (kSl (kVar 0) (kPart (kVar 1)) kNo) kNil)))
  kr__law_sx_way_8)
local macro_rules | `(tactic| walk_at "go") => `(tactic| ((first | unfold kr__law_sx_way_2 | unfold kr__law_sx_way_4 | unfold kr__law_sx_way_5 | unfold kr__law_sx_way_6 | unfold kr__law_sx_way_7 | unfold kr__law_sx_way_8); walk_at "ev"))
theorem rgD_at {a b : Int} {pre post : List Int} {x : Int} (h : rgD a b = pre ++ x :: post) : x = a - pre.length ∧ b < x := by
  have e1 : (rgD a b)[pre.length]? = some x := by rw [h]; simp
  have hl := congrArg List.length h
  rw [rgD_len, List.length_append, List.length_cons] at hl
  unfold rgD at e1
  rw [List.getElem?_map, List.getElem?_range (by omega)] at e1
  have := Option.some.inj e1
  dsimp only at this
  omega
theorem val__law_sx_way : ∀ ds G, w__law_sx_way ds G → k__law_sx_way ⟨ds.map Sl.fz ++ [.jk, .jk, .jk, .jk, .jk], [], 0⟩ (edT G) := by
  rintro ds Gq ⟨v, T, P, rfl, hp, p0, p1, t1, q⟩
  unfold k__law_sx_way
  walk_at "ev"
  rw [cut_rm0 (by omega : T ≤ T + P), cutD_from, ← List.map_drop, rm_drop]
  obtain ⟨nums, hnums⟩ : ∃ d, dI ((List.range (T + P)).map v) = d := ⟨_, rfl⟩
  obtain ⟨ring, hring⟩ : ∃ r, (List.range P).map (fun j => v (T + j)) = r := ⟨_, rfl⟩
  have rl : ring.length = P := by rw [← hring]; simp
  rw [hring]
  walk_at "ev"
  -- behind the first loop
  have rest : ∀ (s : Nat) (u : Sl), 1 ≤ s → s ≤ P → Per v T s 0 → (∀ d : Nat, 1 ≤ d → d < s → d ∣ P → ∀ c', ¬ Per v T d c') → kr__law_sx_way_6 ⟨[.fz (dI ((List.range (T + P)).map v)), .fz (.int T), .ow true (dI ((List.range T).map v)), .ow true (dI ring), .fz (.int s), u, .jk], [], 0⟩ (edT Gq) := fun s u s1 sP hs no => by
    walk_at "go"
    have tk : ring.take s = (List.range s).map fun j => v (T + j) := by rw [← hring]; exact rm_take (v := fun j => v (T + j)) sP
    rw [cutD_toN, tk]
    walk_at "ev"
    have least := Per.least hp p0 no
    have out : ∀ (h : Nat) (u2 : Sl), h ≤ T → Per v h s 0 → (0 < h → v (h - 1 + s) ≠ v (h - 1) + 0) → kr__law_sx_way_4 ⟨[.fz (dI ((List.range (T + P)).map v)), .fz (.int T), .ow true (dI ((List.range h).map v)), .ow true (dI ((List.range s).map fun j => v (h + j))), .fz (.int s), u, u2], [], 0⟩ (edT Gq) := fun h u2 hT hh ho => by
      walk_at "go"
      exact q h s ⟨s1, hh, least, ho⟩ hT sP
    walk_at "go"
    refine ⟨⟨by omega, by omega⟩, ?_⟩
    have lr := rg_length 0 (T : Int)
    refine forL_ints (rg 0 (T : Int)) (fun pre γ => ∃ (h : Nat) (u2 : Sl), γ = ⟨[.fz (dI ((List.range (T + P)).map v)), .fz (.int T), .ow true (dI ((List.range h).map v)), .ow true (dI ((List.range s).map fun j => v (h + j))), .fz (.int s), u, u2], [], 0⟩ ∧ h + pre.length = T ∧ Per v h s 0) (fun pre x post γ N hl ht hP hN => ?_) (fun γ ht hP => ?_) _ rfl ⟨T, .jk, rfl, rfl, hs⟩
    · obtain ⟨h, u2, rfl, hh, pr⟩ := hP
      have hlen := congrArg List.length hl
      rw [lr, List.length_append, List.length_cons] at hlen
      obtain ⟨k, rfl⟩ : ∃ k, h = k + 1 := ⟨h - 1, by omega⟩
      unfold kb__law_sx_way_3
      walk_at "ev"
      refine ixD_last (by rw [List.length_map, List.length_range]; omega) ?_
      rw [List.length_map, List.length_range, rm_get (by omega)]
      walk_at "ev"
      refine ixD_last (by rw [List.length_map, List.length_range]; exact s1) ?_
      rw [List.length_map, List.length_range, rm_get (v := fun j => v (k + 1 + j)) (by omega)]
      walk_at "ev"
      refine iteB (fun c2 => ?_) (fun c2 => ?_)
      · have c2 := of_decide_eq_true c2
        rw [show k + 1 - 1 = k by omega] at c2
        refine ixD_last (by rw [List.length_map, List.length_range]; exact s1) ?_
        rw [List.length_map, List.length_range, rm_get (v := fun j => v (k + 1 + j)) (by omega)]
        have dl : ((List.range s).map fun j => v (k + 1 + j)).dropLast.length ≤ 1000 := by rw [List.length_dropLast, List.length_map, List.length_range]; omega
        have e2 := ring_back2 (v := v) (k := k) s1
        walk_at "ev"
        refine ⟨by omega, ?_⟩
        walk_at "go"
        refine hN _ rfl ⟨k, .fz (.int x), ?_, by rw [List.length_append, List.length_singleton]; omega, fun i hi => ?_⟩
        · rw [range_drop, show PyData.int (v (k + 1 + (s - 1))) :: List.map PyData.int ((List.range s).map fun j => v (k + 1 + j)).dropLast = (v (k + 1 + (s - 1)) :: ((List.range s).map fun j => v (k + 1 + j)).dropLast).map PyData.int from rfl, ← show v k = v (k + 1 + (s - 1)) from c2, e2]
        · by_cases hk : i = k
          · subst hk
            rw [show i + 1 + (s - 1) = i + s by omega] at c2
            omega
          · exact pr i (by omega)
      · refine out (k + 1) _ (by omega) pr fun _ e => of_decide_eq_false c2 ?_
        rw [Int.add_zero] at e
        rw [← e]
        congr 1
        omega
    · obtain ⟨h, u2, rfl, hh, pr⟩ := hP
      walk_at "ev"
      exact out h u2 (by omega) pr fun h0 => by omega
  walk_at "go"
  walk_at "go"
  refine ⟨⟨by omega, by omega, by omega, by omega⟩, ?_⟩
  have lrD := rgD_len (ring.length : Int) 0
  refine forL_ints (rgD (ring.length : Int) 0) (fun pre γ => ∃ (s : Nat) (u : Sl), γ = ⟨[.fz (dI ((List.range (T + P)).map v)), .fz (.int T), .ow true (dI ((List.range T).map v)), .ow true (dI ring), .fz (.int s), u, .jk], [], 0⟩ ∧ 1 ≤ s ∧ s ≤ P ∧ Per v T s 0 ∧ ∀ d : Nat, P < d + pre.length → d < s → d ∣ P → ∀ c', ¬ Per v T d c') (fun pre x post γ N hl ht hP hN => ?_) (fun γ ht hP => ?_) _ rfl ⟨P, .jk, by rw [rl], p0, Nat.le_refl _, hp, fun d d1 d2 => by simp at d1; omega⟩
  · obtain ⟨s, u, rfl, s1, sP, pr, no⟩ := hP
    obtain ⟨hx, x0⟩ := rgD_at hl
    have hlen := congrArg List.length hl
    rw [lrD, List.length_append, List.length_cons] at hlen
    obtain ⟨z, rfl⟩ : ∃ z : Nat, x = z := ⟨x.toNat, by omega⟩
    have zP : z + pre.length = P := by omega
    have z1 : 1 ≤ z := by omega
    have next : ∀ s' : Nat, 1 ≤ s' → s' ≤ P → Per v T s' 0 → (s' = z ∨ (s' = s ∧ (z ∣ P → ∀ c', ¬ Per v T z c'))) → N ⟨[.fz (dI ((List.range (T + P)).map v)), .fz (.int T), .ow true (dI ((List.range T).map v)), .ow true (dI ring), .fz (.int s'), .fz (.int z), .jk], [], 0⟩ := fun s' a1 a2 a3 a4 => by
      refine hN _ rfl ⟨s', _, rfl, a1, a2, a3, fun d d1 d2 dd c' k => ?_⟩
      rw [List.length_append, List.length_singleton] at d1
      rcases a4 with rfl | ⟨rfl, a5⟩
      · omega
      · by_cases hd : d = z
        · subst hd
          exact a5 dd c' k
        · exact no d (by omega) d2 dd c' k
    have rr := rep_ring hp p0 z1
    rw [hring] at rr
    unfold kb__law_sx_way_1
    walk_at "ev"
    refine ⟨by omega, ?_⟩
    refine iteB (fun c1 => ?_) (fun c1 => next s s1 sP pr (.inr ⟨rfl, fun dv => ?_⟩))
    · have c1 := of_decide_eq_true c1
      have dv : z ∣ P := by
        have : (P % z : Nat) = 0 := by rw [rl] at c1; omega
        exact Nat.dvd_of_mod_eq_zero this
      have tk : ring.take z = (List.range z).map fun j => v (T + j) := by rw [← hring]; exact rm_take (v := fun j => v (T + j)) (by omega)
      have ed : ((ring.length : Int) / (z : Int)).toNat = P / z := by rw [rl]; exact Int.toNat_natCast _
      have eb : (ring.length : Int) / (z : Int) = ((P / z : Nat) : Int) := by rw [rl]; rfl
      have pd : P / z ≤ P := Nat.div_le_self _ _
      refine ⟨wide_div (b := 20) (by omega) (by omega) (by decide) (by decide), ?_⟩
      rw [cutD_toN, tk]
      walk_at "ev"
      rw [ed, eb]
      refine ⟨⟨by omega, by omega, by rw [List.length_range]; omega⟩, shaped_ints _, shaped_ints _, ?_⟩
      rw [eqv_il]
      by_cases c : (List.replicate (P / z) ((List.range z).map fun j => v (T + j))).flatten = ring
      · rw [decide_eq_true c]
        refine iteT ?_
        exact next z z1 (by omega) (rr.mp c).2 (.inl rfl)
      · rw [decide_eq_false c]
        refine next s s1 sP pr (.inr ⟨rfl, fun dv c' k => ?_⟩)
        have := per_zero hp p0 dv k
        subst this
        exact c (rr.mpr ⟨dv, k⟩)
    · obtain ⟨m, rfl⟩ := dv
      have c1 := of_decide_eq_false c1
      rw [rl] at c1
      exact absurd (by simp) c1
  · obtain ⟨s, u, rfl, s1, sP, pr, no⟩ := hP
    walk_at "ev"
    exact rest s u s1 sP pr fun d d1 d2 => no d (by omega) d2
theorem ok__law_sx_way (p : Prog K mg) : FnG P w K mg base CX0 1 p.f__law_sx_way p.fd__law_sx_way ["_law_marks", "_law_first"] (spT w__law_sx_way) :=
  okT p.d__law_sx_way.F sc__law_sx_way (by decide) ar__law_sx_way (fun cdv A outer s H E hg hr => ⟨_, (pss_cons (ps_par (i := 2) (j := 3) rfl sc__law_sx_way.nd rfl rfl (by decide) rfl rfl (pa_cons (pe_slice sl_list (pv 0) po_none (po_some (pv 1))) (pa_cons (pe_slice sl_list (pv 0) (po_some (pv 1)) po_none) pa_nil)) (by rfl))
      (pss_cons (ps_set (i := 4) sc__law_sx_way.nd rfl (Or.inl rfl) (pe_callB call_len_seq (by rfl) p.blt.len PySem.boot_len (pa_cons (pv 3) pa_nil)))
      (pss_cons (ps_for PassesOwn.never rfl (pi_range3 (by rfl) p.blt.range (pa_cons (pe_callB call_len_seq (by rfl) p.blt.len PySem.boot_len (pa_cons (pv 3) pa_nil)) (pa_cons pe_int (pa_cons (pe_un un_neg pe_int) pa_nil)))) (pg_name (i := 5) sc__law_sx_way.nd rfl (Or.inl rfl))
      (pss_one (ps_if (PW.pt (pw_and (pt_cmpR op_eq (pe_op op_mod (pe_callTy call_int1 (by rfl) p.blt.int (by decide +kernel) (pa_cons (pe_callB call_len_seq (by rfl) p.blt.len PySem.boot_len (pa_cons (pv 3) pa_nil)) pa_nil)) (pv 5)) pe_int (nomark _)) (pw_and1 (pt_cmpR (op_eqD hr.units) (pe_op op_rep (pe_slice sl_list (pv 3) po_none (po_some (pv 5))) (pe_op op_fdivW (pe_callB call_len_seq (by rfl) p.blt.len PySem.boot_len (pa_cons (pv 3) pa_nil)) (pv 5))) (pv 3) (nomark _)))))
      (pss_one (ps_set (i := 4) sc__law_sx_way.nd rfl (Or.inl rfl) (pv 5))) pss_nil)))
      (pss_cons (ps_set (i := 3) sc__law_sx_way.nd rfl (Or.inl rfl) (pe_slice sl_list (pv 3) po_none (po_some (pv 4))))
      (pss_cons (ps_for PassesOwn.never rfl (pi_range1 (by rfl) p.blt.range (pa_cons (pv 1) pa_nil)) (pg_name (i := 6) sc__law_sx_way.nd rfl (Or.inl rfl))
      (pss_one (ps_if (pt_cmpR op_eq (pe_ix ix_list (pv 2) (pe_un un_neg pe_int) (fun _ _ => rfl)) (pe_ix ix_list (pv 3) (pe_un un_neg pe_int) (fun _ _ => rfl)) (nomark _))
      (pss_cons (ps_set (i := 3) sc__law_sx_way.nd rfl (Or.inl rfl) (pe_op op_cat (pe_lst (pa_cons (pe_ix ix_list (pv 3) (pe_un un_neg pe_int) (fun _ _ => rfl)) pa_nil)) (pe_slice sl_list (pv 3) po_none (po_some (pe_un un_neg pe_int)))))
      (pss_one (ps_set (i := 2) sc__law_sx_way.nd rfl (Or.inl rfl) (pe_slice sl_list (pv 2) po_none (po_some (pe_un un_neg pe_int)))))) (pss_one ps_break))))
      (pss_one (ps_ret (pe_tup (pa_cons (pv 2) (pa_cons (pv 3) (pa_cons pe_int pa_nil))))))))))),
    fun C xc => (so_seq (so_par (i := 2) (j := 3) (by decide) (so_cons (so_sl (so_var (i := 0)) so_no (so_part (so_var (i := 1)))) (so_cons (so_sl (so_var (i := 0)) (so_part (so_var (i := 1))) so_no) so_nil)))
      (so_seq (so_asg (so_f sc_len (so_cons (so_var (i := 3)) so_nil)) (so_gname (i := 4)))
      (so_seq (so_for (so_rngD (so_f sc_len (so_cons (so_var (i := 3)) so_nil)) (so_c (sca_int _)) (so_neg (so_c (sca_int _)))) (so_gname (i := 5))
      (so_ifS (so_tand (so_test (so_op sr_eq (so_op sr_I (so_f sc_int (so_cons (so_f sc_len (so_cons (so_var (i := 3)) so_nil)) so_nil)) (so_var (i := 5))) (so_c (sca_int _)))) (so_test (so_op sr_eqD (so_repM (so_sl (so_var (i := 3)) so_no (so_part (so_var (i := 5)))) (so_op sr_I (so_f sc_len (so_cons (so_var (i := 3)) so_nil)) (so_var (i := 5)))) (so_var (i := 3)))))
      (so_asg (so_var (i := 5)) (so_gname (i := 4))) so_next))
      (so_seq (so_asg (so_sl (so_var (i := 3)) so_no (so_part (so_var (i := 4)))) (so_gname (i := 3)))
      (so_seq (so_for (so_rng1 (so_var (i := 1))) (so_gname (i := 6))
      (so_ifS (so_test (so_op sr_eq (so_ixL (so_var (i := 2)) (so_neg (so_c (sca_int _)))) (so_ixL (so_var (i := 3)) (so_neg (so_c (sca_int _))))))
      (so_seq (so_asg (so_cat (so_lst (so_cons (so_ixL (so_var (i := 3)) (so_neg (so_c (sca_int _)))) so_nil)) (so_sl (so_var (i := 3)) so_no (so_part (so_neg (so_c (sca_int _)))))) (so_gname (i := 3)))
      (so_asg (so_sl (so_var (i := 2)) so_no (so_part (so_neg (so_c (sca_int _))))) (so_gname (i := 2)))) so_break))
      (so_ret (so_tup (so_cons (so_mov (i := 2)) (so_cons (so_mov (i := 3)) (so_cons (so_c (sca_int _)) so_nil))))))))))⟩) val__law_sx_way
def w__law_sx_often : Tw := fun ds Q => ∃ (a b c : Int × List Int) (ps : List (List Str × List Str)), ds = [dC a b c, .list (ps.map pairD)] ∧ (Eff a ∧ Eff b ∧ Eff c) ∧ (a.1 ≤ 6 ∧ b.1 ≤ 6 ∧ c.1 ≤ 6) ∧ (a.2.length ≤ 8 ∧ b.2.length ≤ 8 ∧ c.2.length ≤ 8) ∧ OkPs ps ∧ (ps ≠ [] → b.1 = b.2.length → NoRound b → Q .none) ∧ ∀ d, IsWay a b c ps d → (ps ≠ [] → b.1 = b.2.length → ¬ NoRound b) → Q d
theorem ar__law_sx_often : ∀ ds G, w__law_sx_often ds G → ds.length = 2 := by
  rintro ds G ⟨a, b, c, ps, rfl, _⟩
  rfl
def kr__law_sx_often_1 : KS := (kIfS (kTAnd (kTest (kOp (vEq false) (kOp (vI noC fun i j => i - j) (kF 1 vLen (kCons (kIx false (kIx true (kVar 1) (kC (.int 0))) (kC (.int 0))) kNil)) (kF 1 vLen (kCons (kIx false (kIx true (kVar 1) (kC (.int 0))) (kC (.int 1))) kNil))) (kVar 4))) (kTest (kCallT w__law_sx_fits 2 (kCons (kCallT w__law_sx_course 2 (kCons (kVar 0) (kCons (kVar 3) kNil))) (kCons (kVar 1) kNil)))))
  (kRet (kMk false 3 (kCons (kCat (kRepN (kLit (.list [(.int 0)])) (kVar 3)) (kLit (.list [(.int 1)]))) (kCons (kLit (.list [(.int 0)])) (kCons (kC (.int 0)) kNil)))))
  kNext)
def kr__law_sx_often_2 : KS := (kSeq (kAsg (kOp (vI noC fun i j => i + j) (kVar 4) (kOp (vI CMulB fun i j => i * j) (kVar 3) (kOp (vI noC fun i j => i - j) (kIx false (kVar 2) (kC (.int 0))) (kF 1 vLen (kCons (kIx false (kVar 2) (kC (.int 1))) kNil))))) (kgName 4))
  kr__law_sx_often_1)
def kb__law_sx_often_3 : KS := (kSeq (kAsg (kF 1 vSum (kCons (kLc (kIt true (kMk true 2 (kCons (kIx false (kFrz 0) (kC (.int 0))) (kCons (kIx false (kFrz 0) (kC (.int 2))) kNil)))) 8 kYes (kOp (vI noC fun i j => i - j) (kIx false (kVar 8) (kC (.int 0))) (kF 1 vLen (kCons (kIx false (kVar 8) (kC (.int 1))) kNil)))) kNil)) (kgName 4))
  kr__law_sx_often_2)
def kr__law_sx_often_4 : KS := (kRet (kLit (.tuple [(.list []), (.list [(.int 0)]), (.int 0)])))
def kr__law_sx_often_5 : KS := (kRet (kCallT w__law_sx_way 2 (kCons (kVar 6) (kCons (kM 1 vIdxD (kVar 5) (kCons (kIx true (kVar 5) (kVar 3)) kNil)) kNil))))
def kb__law_sx_often_6 : KS := (kIfS (kTest (kOp (vInD false) (kIx true (kVar 5) (kVar 3)) (kSl (kFrz 5) kNo (kPart (kVar 3)))))
  (kSeq (kAsg (kLc (kRng1 (kVar 3)) 7 kYes (kF 1 vInt (kCons (kCallT w__law_sx_fits 2 (kCons (kCallT w__law_sx_course 2 (kCons (kVar 0) (kCons (kVar 7) kNil))) (kCons (kVar 1) kNil))) kNil))) (kgName 6))
  kr__law_sx_often_5)
  kNext)
def kr__law_sx_often_7 : KS := (kRet (kC .none))
def kr__law_sx_often_8 : KS := (kSeq (kFor (kRng2 (kC (.int 1)) (kC (.int 14))) (kgName 3) kb__law_sx_often_6)
  kr__law_sx_often_7)
def kr__law_sx_often_9 : KS := (kSeq (kAsg (kLc (kRng1 (kC (.int 14))) 3 kYes (kCallT w__law_sx_course 2 (kCons (kMk false 3 (kCons (kLit (.tuple [(.int 0), (.list [])])) (kCons (kFrz 2) (kCons (kLit (.tuple [(.int 0), (.list [])])) kNil)))) (kCons (kVar 3) kNil)))) (kgName 5))
  kr__law_sx_often_8)
def kr__law_sx_often_10 : KS := (kSeq (kIfS (kTest (kOp (vEq true) (kIx false (kVar 2) (kC (.int 0))) (kF 1 vLen (kCons (kIx false (kVar 2) (kC (.int 1))) kNil))))
  (kSeq (kFor (kRng1 (kC (.int 420))) (kgName 3) kb__law_sx_often_3)
  kr__law_sx_often_4)
  kNext)
  kr__law_sx_often_9)
def kr__law_sx_often_11 : KS := (kSeq (kIfS (kTest (kOp (vEqD false) (kVar 1) (kLit (.list []))))
  (kRet (kLit (.tuple [(.list []), (.list [(.int 1)]), (.int 0)])))
  kNext)
  kr__law_sx_often_10)
def k__law_sx_often : KS := (kSeq (kAsg (kIx false (kFrz 0) (kC (.int 1))) (kgName 2))
  kr__law_sx_often_11)
local macro_rules | `(tactic| walk_at "go") => `(tactic| ((first | unfold kr__law_sx_often_1 | unfold kr__law_sx_often_2 | unfold kr__law_sx_often_4 | unfold kr__law_sx_often_5 | unfold kr__law_sx_often_7 | unfold kr__law_sx_often_8 | unfold kr__law_sx_often_9 | unfold kr__law_sx_often_10 | unfold kr__law_sx_often_11); walk_at "ev"))
theorem val__law_sx_often : ∀ ds G, w__law_sx_often ds G → k__law_sx_often ⟨ds.map Sl.fz ++ [.jk, .jk, .jk, .jk, .jk, .jk, .jk], [], 0⟩ (edT G) := by
  rintro ds Gq ⟨a, b, c, ps, rfl, ⟨ea, eb, ec⟩, ⟨na, nb, nc⟩, ⟨la, lb, lc⟩, ⟨pl, okp⟩, qn, q⟩
  have okq : ∀ p ∈ ps, p.1.length ≤ 1000 ∧ (∀ s ∈ p.1, PyData.strOk s = true) ∧ ∀ s ∈ p.2, PyData.strOk s = true := fun p hp => (okp p hp).1
  unfold k__law_sx_often
  walk_at "ev"
  walk_at "go"
  refine ⟨shaped_pairs okq, shaped_pairs (ps := []) (fun _ z => nomatch z), ?_⟩
  by_cases ne : ps = []
  · subst ne
    rw [show PyData.eqv (PyData.list (List.map pairD [])) (PyData.list []) = true by simp [PyData.eqv, PyData.eqvAll]]
    exact q _ (.inl ⟨rfl, rfl⟩) fun z => absurd rfl z
  obtain ⟨p, ps', rfl⟩ := List.exists_cons_of_ne_nil ne
  rw [show PyData.eqv (PyData.list (List.map pairD (p :: ps'))) (PyData.list []) = false by simp [PyData.eqv, PyData.eqvAll]]
  show kr__law_sx_often_10 _ _
  walk_at "go"
  have a0 := ea.nn
  have b0 := eb.nn
  have c0 := ec.nn
  obtain ⟨⟨p1, p2, p3⟩, p4, p5, p6⟩ := okp p List.mem_cons_self
  refine iteB (fun cb => ?_) (fun cb => ?_)
  · have nb2 : b.1 ≠ b.2.length := by simpa using cb
    refine ⟨⟨by decide, by decide⟩, ?_⟩
    refine forL_ints (rg 0 420) (fun pre γ => (∀ k : Nat, k < pre.length → (p :: ps').all (fitP (crE a b c k)) = false) ∧ ∃ u3 u4 u5 u6 u7 u8 : Sl, γ = ⟨[.fz (dC a b c), .fz (.list ((p :: ps').map pairD)), .fz (dE b), u3, u4, u5, u6, u7, u8], [], 0⟩) (fun pre x post γ N hl ht hP hN => ?_) (fun γ ht hP => ?_) _ rfl ⟨by simp, _, _, _, _, _, _, rfl⟩
    · obtain ⟨no, u3, u4, u5, u6, u7, u8, rfl⟩ := hP
      obtain ⟨hx, x2⟩ := rg_mid hl
      have xe : x = (pre.length : Nat) := by omega
      have x4 : pre.length < 420 := by omega
      unfold kb__law_sx_often_3
      walk_at "ev"
      refine lc_inv (j := 8) true [a, c] dE (fun pre acc n => acc = (pre.map fun e => e.1 - (e.2.length : Int)).map PyData.int ∧ pre.length ≤ 2 ∧ n = 0) rfl rfl (fun pre acc n hp => ?_) (fun pre y post acc n Y X hl2 hp hY hX => ?_) (fun acc n hp => ?_) [] 0 ⟨rfl, by simp, rfl⟩
      · obtain ⟨rfl, h1, _⟩ := hp
        rw [List.length_map, List.length_map]
        omega
      · obtain ⟨rfl, h1, rfl⟩ := hp
        have hlen2 := congrArg List.length hl2
        rw [List.length_append, List.length_cons] at hlen2
        simp only [List.length_cons, List.length_nil] at hlen2
        walk_at "ev"
        exact hY _ true _ _ rfl rfl ⟨by rw [List.map_append, List.map_append]; rfl, by rw [List.length_append, List.length_singleton]; omega, rfl⟩
      · obtain ⟨rfl, _, rfl⟩ := hp
        walk_at "ev"
        rw [show intsOf [PyData.int (a.1 - (a.2.length : Int)), PyData.int (c.1 - (c.2.length : Int))] = some [a.1 - (a.2.length : Int), c.1 - (c.2.length : Int)] from rfl]
        walk_at "ev"
        walk_at "go"
        refine ⟨cmulB_of (by omega) (by omega), ?_⟩
        have sz : ([a.1 - (a.2.length : Int), c.1 - (c.2.length : Int)].sum + x * (b.1 - (b.2.length : Int))) = (a.1 - a.2.length) + (c.1 - c.2.length) + x * (b.1 - (b.2.length : Int)) := by simp
        rw [sz]
        subst xe
        have em : ((pre.length : Nat) : Int) * (b.1 - (b.2.length : Int)) = -((pre.length : Nat) * ((b.2.length : Int) - b.1)) := by
          rw [← Int.mul_neg]
          congr 1
          omega
        have next : ∀ (v3 v4 v5 v6 v7 v8 : Sl), (p :: ps').all (fitP (crE a b c pre.length)) = false → N ⟨[.fz (dC a b c), .fz (.list ((p :: ps').map pairD)), .fz (dE b), v3, v4, v5, v6, v7, v8], [], 0⟩ := fun v3 v4 v5 v6 v7 v8 hf => hN _ rfl ⟨fun k hk => by
          rw [List.length_append, List.length_singleton] at hk
          by_cases c : k = pre.length
          · rw [c]; exact hf
          · exact no k (by omega), v3, v4, v5, v6, v7, v8, rfl⟩
        walk_at "go"
        refine iteB (fun c1 => ?_) (fun c1 => ?_)
        · have c1 := of_decide_eq_true c1
          have nbd := num_bd (g := (b.2.length : Int) - b.1) (k := pre.length) (by omega) p5 p6 (y := (a.2.length : Int) - a.1) (z := (c.2.length : Int) - c.1) (by omega) (by omega) (by omega) (by omega) (by omega)
          have nb3 := nbd.2.1
          rw [show -((b.2.length : Int) - b.1) = b.1 - b.2.length by omega] at nb3
          have nb4 := nbd.1
          have len := crE_small ea eb ec (n := 400) (m := 18) nb3 nb4 (by omega) (by omega) (by omega)
          refine ⟨a, b, c, (pre.length : Nat), rfl, ⟨ea, eb, ec⟩, ⟨by omega, by omega, by omega⟩, ⟨by omega, by omega, by omega⟩, ⟨by omega, by omega⟩, ⟨by omega, by omega⟩, ?_⟩
          rw [Int.toNat_natCast]
          walk_at "ev"
          refine ⟨crE a b c pre.length, p :: ps', rfl, crE_eff ea eb ec _, by omega, pl, okq, ?_⟩
          walk_at "ev"
          refine iteB (fun cf => ?_) (fun cf => next _ _ _ _ _ _ cf)
          rw [show intsOf [PyData.int 0] = some [0] from rfl]
          walk_at "ev"
          rw [show (List.replicate pre.length [(0 : Int)]).flatten = List.replicate pre.length 0 from rep_zero _]
          refine ⟨⟨by omega, by omega, by simp⟩, by rw [List.length_replicate]; omega, ?_⟩
          have := q _ (.inr (.inl ⟨ne, nb2, .inl ⟨pre.length, x4, cf, rfl⟩⟩)) fun _ z => absurd z nb2
          rw [show wayD (List.replicate pre.length 0 ++ [1]) [0] = PyData.tuple [.list (List.map PyData.int (List.replicate pre.length 0) ++ [.int 1]), .list [.int 0], .int 0] from by unfold wayD dI; rw [List.map_append]; rfl] at this
          exact this
        · have c1 := of_decide_eq_false c1
          refine next _ _ _ _ _ _ ?_
          cases h : (p :: ps').all (fitP (crE a b c pre.length)) with
          | false => rfl
          | true =>
            rw [List.all_cons, Bool.and_eq_true] at h
            have := fit_chg ea eb ec h.1
            exact absurd (by omega) c1
    · obtain ⟨no, u3, u4, u5, u6, u7, u8, rfl⟩ := hP
      rw [show (rg 0 420).length = 420 by decide] at no
      walk_at "ev"
      walk_at "go"
      refine q _ (.inr (.inl ⟨ne, nb2, .inr ⟨fun k => ?_, rfl⟩⟩)) fun _ z => absurd z nb2
      by_cases hk : k < 420
      · exact no k hk
      · cases h : (p :: ps').all (fitP (crE a b c k)) with
        | false => rfl
        | true =>
          rw [List.all_cons, Bool.and_eq_true] at h
          have nbd := num_bd (g := (b.2.length : Int) - b.1) (k := k) (by omega) p5 p6 (y := (a.2.length : Int) - a.1) (z := (c.2.length : Int) - c.1) (by omega) (by omega) (by omega) (by omega) (fit_chg ea eb ec h.1)
          omega
  · have cb2 : b.1 = b.2.length := by simpa using cb
    walk_at "go"
    refine ⟨⟨by decide, by decide⟩, ?_⟩
    refine lc_inv (j := 3) true (rg 0 14) PyData.int (fun pre acc n => acc = (List.range pre.length).map (fun k => dE (pwE b k)) ∧ pre.length ≤ 14 ∧ n = 0) rfl rfl (fun pre acc n hp => ?_) (fun pre x post acc n Y X hl hp hY hX => ?_) (fun acc n hp => ?_) [] 0 ⟨rfl, by simp, rfl⟩
    · obtain ⟨rfl, h1, _⟩ := hp
      rw [List.length_map, List.length_range]
      omega
    · obtain ⟨rfl, h1, rfl⟩ := hp
      obtain ⟨ex, hx⟩ := rg_mid hl
      have xe : x.toNat = pre.length := by omega
      walk_at "ev"
      refine ⟨(0, []), b, (0, []), x, rfl, ⟨eff0, eb, eff0⟩, ⟨by decide, by omega, by decide⟩, ⟨by decide, by omega, by decide⟩, ⟨by omega, by omega⟩, ⟨by rw [cb2]; simp, by rw [cb2]; simp⟩, ?_⟩
      rw [xe]
      refine hY _ true _ _ rfl rfl ⟨?_, ?_, rfl⟩
      · rw [List.length_append, List.length_singleton, List.range_succ, List.map_append]
        rfl
      · rw [List.length_append, List.length_singleton]
        omega
    · obtain ⟨rfl, _, rfl⟩ := hp
      rw [show (rg 0 14).length = 14 by decide]
      walk_at "ev"
      walk_at "go"
      refine ⟨by decide, ?_⟩
      obtain ⟨X, hX⟩ : ∃ X, PyData.list ((List.range 14).map fun k => dE (pwE b k)) = X := ⟨_, rfl⟩
      refine forL_ints (rg 1 14) (fun pre γ => (∀ k j : Nat, k ≤ pre.length → j < k → pwE b k ≠ pwE b j) ∧ ∃ u3 u4 u5 u6 u7 u8 : Sl, (u5 = .ow true X ∨ u5 = .fz X) ∧ γ = ⟨[.fz (dC a b c), .fz (.list ((p :: ps').map pairD)), .fz (dE b), u3, u4, u5, u6, u7, u8], [], 0⟩) (fun pre x post γ N hl ht hP hN => ?_) (fun γ ht hP => ?_) _ rfl ⟨fun k j h1 h2 => by simp at h1; omega, .jk, .jk, _, .jk, .jk, .jk, .inl rfl, by rw [← hX]; rfl⟩
      · obtain ⟨no, u3, u4, u5, u6, u7, u8, hu, rfl⟩ := hP
        obtain ⟨hx, x2⟩ := rg_mid hl
        obtain ⟨n, hn⟩ : ∃ n : Nat, n = pre.length + 1 := ⟨_, rfl⟩
        have xe : x = (n : Nat) := by omega
        have n13 : n < 14 := by omega
        subst xe
        have gn : ((List.range 14).map fun k => dE (pwE b k))[n]? = some (dE (pwE b n)) := by rw [List.getElem?_map, List.getElem?_range n13]; rfl
        have ct : G.cutD ((List.range 14).map fun k => dE (pwE b k)) none (some (n : Int)) = (List.range n).map fun k => dE (pwE b k) := by
          rw [cutD_to, ← List.map_take, List.take_range, Nat.min_eq_left (by omega)]
        have bdn := crE_bd eff0 eb eff0 n
        have m1 : (n : Int) * b.1 ≤ 14 * 6 := Int.mul_le_mul (by omega) (by omega) b0 (by omega)
        have m2 : n * b.2.length ≤ 14 * 8 := Nat.mul_le_mul (by omega) lb
        simp only [List.length_nil] at bdn
        have tm : tame (dE (pwE b n)) := ⟨shaped_dE _, by show PyData.depth (dE (pwE b n)) ≤ _; exact Nat.le_trans (sh_effE (crE_eff eff0 eb eff0 n) (by omega) (by omega)).dp (by decide)⟩
        have an : (((List.range n).map fun k => dE (pwE b k)).any fun e => e.eqv (dE (pwE b n))) = decide (∃ j, j < n ∧ pwE b j = pwE b n) := by
          rw [Bool.eq_iff_iff, List.any_eq_true, decide_eq_true_eq]
          constructor
          · rintro ⟨e, he, h2⟩
            obtain ⟨j, hj, rfl⟩ := List.mem_map.mp he
            rw [eqv_dE] at h2
            exact ⟨j, List.mem_range.mp hj, of_decide_eq_true h2⟩
          · rintro ⟨j, hj, h2⟩
            exact ⟨_, List.mem_map.mpr ⟨j, List.mem_range.mpr hj, rfl⟩, by rw [eqv_dE]; exact decide_eq_true h2⟩
        unfold kb__law_sx_often_6
        rcases hu with rfl | rfl
        all_goals subst hX
        all_goals walk_at "ev"
        all_goals refine ixD_any (by omega) (by rw [List.length_map, List.length_range]; omega) fun d hd => ?_
        all_goals rw [Int.toNat_natCast, gn] at hd
        all_goals obtain rfl : dE (pwE b n) = d := by simpa using hd
        all_goals walk_at "ev"
        all_goals first | rw [Int.toNat_natCast, gn, ct] | rw [ct]
        all_goals
          walk_at "ev"
          refine ⟨tm, lay_crs _ _, ?_⟩
          rw [an]
          refine iteB (fun cf => ?_) (fun cf => ?_)
          · obtain ⟨j, hj, ej⟩ := of_decide_eq_true cf
            have ok := fsI_ok (pwE b) n
            have fl : fsI (pwE b) n < n := by
              rcases Nat.lt_or_ge (fsI (pwE b) n) n with h | h
              · exact h
              · exact absurd ej (ok.2.2 j (by omega))
            refine ⟨⟨by omega, by omega⟩, ?_⟩
            have lr := rg_length 0 (n : Int)
            refine lc_inv (j := 7) true (rg 0 (n : Int)) PyData.int (fun pre acc n' => acc = ((List.range pre.length).map (mkV a b c (p :: ps'))).map PyData.int ∧ pre.length ≤ n ∧ n' = 0) rfl rfl (fun pre acc n' hp => ?_) (fun pre x post acc n' Y X hl hp hY hX => ?_) (fun acc n' hp => ?_) [] 0 ⟨rfl, by simp, rfl⟩
            · obtain ⟨rfl, h1, _⟩ := hp
              rw [List.length_map, List.length_map, List.length_range]
              omega
            · obtain ⟨rfl, h1, rfl⟩ := hp
              obtain ⟨ex, hx⟩ := rg_mid hl
              have xe : x.toNat = pre.length := by omega
              have z1 : x * (b.1 - (b.2.length : Int)) = 0 := by rw [cb2]; simp
              have z2 : x * ((b.2.length : Int) - b.1) = 0 := by rw [cb2]; simp
              walk_at "ev"
              refine ⟨a, b, c, x, rfl, ⟨ea, eb, ec⟩, ⟨by omega, by omega, by omega⟩, ⟨by omega, by omega, by omega⟩, ⟨by omega, by omega⟩, ⟨by omega, by omega⟩, ?_⟩
              have xz : ((x.toNat : Nat) : Int) = x := by omega
              have len := crE_small ea eb ec (k := x.toNat) (n := 0) (m := 18) (by rw [xz]; omega) (by rw [xz]; omega) (by omega) (by omega) (by omega)
              walk_at "ev"
              refine ⟨crE a b c x.toNat, p :: ps', rfl, crE_eff ea eb ec _, by omega, pl, okq, ?_⟩
              walk_at "ev"
              rw [xe]
              refine hY _ true (.int (mkV a b c (p :: ps') pre.length)) _ rfl rfl ⟨?_, ?_, rfl⟩
              · rw [List.length_append, List.length_singleton, List.range_succ, List.map_append, List.map_append, List.map_singleton]
                rfl
              · rw [List.length_append, List.length_singleton]
                omega
            · obtain ⟨rfl, _, rfl⟩ := hp
              rw [lr, show ((n : Int) - 0).toNat = n by omega]
              walk_at "ev"
              walk_at "go"
              refine ixD_any (by omega) (by rw [List.length_map, List.length_range]; omega) fun d hd => ?_
              rw [Int.toNat_natCast, gn] at hd
              obtain rfl : dE (pwE b n) = d := by simpa using hd
              have g2 : ∀ m : Nat, m < 14 → ((List.range 14).map fun k => dE (pwE b k))[m]? = some (dE (pwE b m)) := fun m hm => by rw [List.getElem?_map, List.getElem?_range hm]; rfl
              refine ⟨fsI (pwE b) n, tm, lay_crs _ _, ⟨_, g2 _ (by omega), ?_⟩, fun m e hm he => ?_, by omega, ?_⟩
              · rw [eqv_dE]
                exact decide_eq_true ok.2.1
              · rw [g2 m (by omega)] at he
                obtain rfl : dE (pwE b m) = e := by simpa using he
                rw [eqv_dE]
                exact decide_eq_false (ok.2.2 m hm)
              · obtain ⟨P, hP⟩ : ∃ P, fsI (pwE b) n + P = n := ⟨n - fsI (pwE b) n, by omega⟩
                have per := pw_per (ps := p :: ps') ea eb ec cb2 fl ok.2.1.symm
                rw [show n - fsI (pwE b) n = P by omega] at per
                refine ⟨mkV a b c (p :: ps'), fsI (pwE b) n, P, by rw [hP], per, by omega, by omega, by omega, fun h' L' t' hh hL => ?_⟩
                exact q _ (.inr (.inr ⟨ne, cb2, h', L', t', by omega, by omega, rfl⟩)) fun _ _ nr => nr j n hj n13 ej.symm
          · refine hN _ rfl ⟨fun k j h1 h2 => ?_, _, _, _, _, _, _, .inr rfl, rfl⟩
            rw [List.length_append, List.length_singleton] at h1
            by_cases hk : k = n
            · subst hk
              exact fun e => of_decide_eq_false cf ⟨j, h2, e.symm⟩
            · exact no k j (by omega) h2
      · obtain ⟨no, u3, u4, u5, u6, u7, u8, hu, rfl⟩ := hP
        rw [show (rg 1 14).length = 13 by decide] at no
        walk_at "ev"
        walk_at "go"
        exact qn ne cb2 fun j k h1 h2 => no k j (by omega) h1
theorem ok__law_sx_often (p : Prog K mg) : FnG P w K mg base CX0 3 p.f__law_sx_often p.fd__law_sx_often ["_law_course_here", "_law_pairs"] (spT w__law_sx_often) :=
  okT p.d__law_sx_often.F sc__law_sx_often (by decide) ar__law_sx_often (fun cdv A outer s H E hg hr => ⟨_, (pss_cons (ps_set (i := 2) sc__law_sx_often.nd rfl (Or.inr rfl) (pe_ix ix_tup (pv 0) pe_int (fun _ _ => rfl)))
      (pss_cons (ps_if (pt_cmpR (op_eqD hr.units) (pv 1) (pe_lst pa_nil) (nomark _))
      (pss_one (ps_ret (pe_tup (pa_cons (pe_lst pa_nil) (pa_cons (pe_lst (pa_cons pe_int pa_nil)) (pa_cons pe_int pa_nil)))))) pss_nil)
      (pss_cons (ps_if (pt_cmpR op_ne (pe_ix ix_tup (pv 2) pe_int (fun _ _ => rfl)) (pe_callB call_len_seq (by rfl) p.blt.len PySem.boot_len (pa_cons (pe_ix ix_tup (pv 2) pe_int (fun _ _ => rfl)) pa_nil)) (nomark _))
      (pss_cons (ps_for PassesOwn.never rfl (pi_range1 (by rfl) p.blt.range (pa_cons pe_int pa_nil)) (pg_name (i := 3) sc__law_sx_often.nd rfl (Or.inl rfl))
      (pss_cons (ps_set (i := 4) sc__law_sx_often.nd rfl (Or.inl rfl) (pe_callB (cr_sum rfl) (by rfl) p.blt.sum (by decide +kernel) (pa_cons (pe_lc (own := [("_law_one", 8)]) (g := gName 8) (tt := tYes) rfl sc__law_sx_often.nd (pi_list (pe_lst (pa_cons (pe_ix ix_tup (pv 0) pe_int (fun _ _ => rfl)) (pa_cons (pe_ix ix_tup (pv 0) pe_int (fun _ _ => rfl)) pa_nil)))) (blkOk_by (N := N__law_sx_often) (sc := defScope s__law_sx_often) (by decide +kernel)) (fun _ _ _ _ _ => pg_name (i := 8) sc__law_sx_often.nd rfl (Or.inl rfl)) (fun _ _ _ _ _ => pts_nil) (fun _ _ _ _ _ => (pe_op op_sub (pe_ix (show IxR _ (rIxT K) from ix_tup) (pv 8) pe_int (fun _ _ => rfl)) (pe_callB call_len_seq (by rfl) p.blt.len PySem.boot_len (pa_cons (pe_ix (show IxR _ (rIxT K) from ix_tup) (pv 8) pe_int (fun _ _ => rfl)) pa_nil))))) pa_nil)))
      (pss_cons (ps_set (i := 4) sc__law_sx_often.nd rfl (Or.inl rfl) (pe_op op_add (pv 4) (pe_op op_mulB (pv 3) (pe_op op_sub (pe_ix ix_tup (pv 2) pe_int (fun _ _ => rfl)) (pe_callB call_len_seq (by rfl) p.blt.len PySem.boot_len (pa_cons (pe_ix ix_tup (pv 2) pe_int (fun _ _ => rfl)) pa_nil))))))
      (pss_one (ps_if (PW.pt (pw_and (pt_cmpR op_eq (pe_op op_sub (pe_callB call_len_seq (by rfl) p.blt.len PySem.boot_len (pa_cons (pe_ix ix_tup (pe_ix ix_list (pv 1) pe_int (fun _ _ => rfl)) pe_int (fun _ _ => rfl)) pa_nil)) (pe_callB call_len_seq (by rfl) p.blt.len PySem.boot_len (pa_cons (pe_ix ix_tup (pe_ix ix_list (pv 1) pe_int (fun _ _ => rfl)) pe_int (fun _ _ => rfl)) pa_nil))) (pv 4) (nomark _)) (pw_and1 (pt_val (pe_callG ((ok__law_sx_fits p).mono (by decide)) hg hr (by rfl) p.d__law_sx_fits.gl p.d__law_sx_fits.kp p.d__law_sx_fits.bd pass0 (pa_cons (pe_callG ((ok__law_sx_course p).mono (by decide)) hg hr (by rfl) p.d__law_sx_course.gl p.d__law_sx_course.kp p.d__law_sx_course.bd pass0 (pa_cons (pv 0) (pa_cons (pv 3) pa_nil))) (pa_cons (pv 1) pa_nil)))))))
      (pss_one (ps_ret (pe_tup (pa_cons (pe_op op_cat (pe_op op_rep (pe_lst (pa_cons pe_int pa_nil)) (pv 3)) (pe_lst (pa_cons pe_int pa_nil))) (pa_cons (pe_lst (pa_cons pe_int pa_nil)) (pa_cons pe_int pa_nil)))))) pss_nil)))))
      (pss_one (ps_ret (pe_tup (pa_cons (pe_lst pa_nil) (pa_cons (pe_lst (pa_cons pe_int pa_nil)) (pa_cons pe_int pa_nil))))))) pss_nil)
      (pss_cons (ps_setLc (i := 5) (own := [("_law_number", 3)]) (g := gName 3) (tt := tYes) rfl sc__law_sx_often.nd rfl rfl (sw_true rfl rfl rfl (by decide +kernel)) (pi_range1 (by rfl) p.blt.range (pa_cons pe_int pa_nil)) (blkOk_by (N := N__law_sx_often) (sc := defScope s__law_sx_often) (by decide +kernel)) (fun _ _ _ _ _ => pg_name (i := 3) sc__law_sx_often.nd rfl (Or.inl rfl)) (fun _ _ _ _ _ => pts_nil) (fun _ _ _ _ _ => (pe_callG ((ok__law_sx_course p).mono (by decide)) hg hr (by rfl) p.d__law_sx_course.gl p.d__law_sx_course.kp p.d__law_sx_course.bd pass0 (pa_cons (pe_tup (pa_cons (pe_tup (pa_cons pe_int (pa_cons (pe_lst pa_nil) pa_nil))) (pa_cons (pv 2) (pa_cons (pe_tup (pa_cons pe_int (pa_cons (pe_lst pa_nil) pa_nil))) pa_nil)))) (pa_cons (pv 3) pa_nil)))))
      (pss_cons (ps_for PassesOwn.never rfl (pi_range2 (by rfl) p.blt.range (pa_cons pe_int (pa_cons pe_int pa_nil))) (pg_name (i := 3) sc__law_sx_often.nd rfl (Or.inl rfl))
      (pss_one (ps_if (pt_cmpR (op_inD hr.units) (pe_ix ix_list (pv 5) (pv 3) (fun _ _ => rfl)) (pe_slice sl_list (pv 5) po_none (po_some (pv 3))) rfl)
      (pss_cons (ps_setLc (i := 6) (own := [("_law_turn", 7)]) (g := gName 7) (tt := tYes) rfl sc__law_sx_often.nd rfl rfl (sw_true rfl rfl rfl (by decide +kernel)) (pi_range1 (by rfl) p.blt.range (pa_cons (pv 3) pa_nil)) (blkOk_by (N := N__law_sx_often) (sc := defScope s__law_sx_often) (by decide +kernel)) (fun _ _ _ _ _ => pg_name (i := 7) sc__law_sx_often.nd rfl (Or.inl rfl)) (fun _ _ _ _ _ => pts_nil) (fun _ _ _ _ _ => (pe_callTy call_int1 (by rfl) p.blt.int (by decide +kernel) (pa_cons (pe_callG ((ok__law_sx_fits p).mono (by decide)) hg hr (by rfl) p.d__law_sx_fits.gl p.d__law_sx_fits.kp p.d__law_sx_fits.bd pass0 (pa_cons (pe_callG ((ok__law_sx_course p).mono (by decide)) hg hr (by rfl) p.d__law_sx_course.gl p.d__law_sx_course.kp p.d__law_sx_course.bd pass0 (pa_cons (pv 0) (pa_cons (pv 7) pa_nil))) (pa_cons (pv 1) pa_nil))) pa_nil))))
      (pss_one (ps_ret (pe_callG ((ok__law_sx_way p).mono (by decide)) hg hr (by rfl) p.d__law_sx_way.gl p.d__law_sx_way.kp p.d__law_sx_way.bd pass0 (pa_cons (pv 6) (pa_cons (pe_bm PySem.F.plainAttrs_list PySem.F.slot_list_index PySem.F.type_list_index (mt_indexD hr.units) (pv 5) (pa_cons (pe_ix ix_list (pv 5) (pv 3) (fun _ _ => rfl)) pa_nil)) pa_nil)))))) pss_nil)))
      (pss_one (ps_ret pe_non))))))),
    fun C xc => (so_seq (so_asg (so_ixT (so_frz (i := 0)) (so_c (sca_int _))) (so_gname (i := 2)))
      (so_seq (so_ifS (so_test (so_op sr_eqD (so_var (i := 1)) (so_lit_lst so_lits_nil)))
      (so_ret (so_lit_tup (so_lits_cons (so_lit_lst so_lits_nil) (so_lits_cons (so_lit_lst (so_lits_cons (so_lit_c (sca_int _) rfl) so_lits_nil)) (so_lits_cons (so_lit_c (sca_int _) rfl) so_lits_nil))))) so_next)
      (so_seq (so_ifS (so_test (so_op sr_ne (so_ixT (so_var (i := 2)) (so_c (sca_int _))) (so_f sc_len (so_cons (so_ixT (so_var (i := 2)) (so_c (sca_int _))) so_nil))))
      (so_seq (so_for (so_rng1 (so_c (sca_int _))) (so_gname (i := 3))
      (so_seq (so_asg (so_f sc_sum (so_cons (so_lc (so_itL (so_lst (so_cons (so_ixT (so_frz (i := 0)) (so_c (sca_int _))) (so_cons (so_ixT (so_frz (i := 0)) (so_c (sca_int _))) so_nil)))) so_yes (so_op sr_I0 (so_ixT (so_var (i := 8)) (so_c (sca_int _))) (so_f sc_len (so_cons (so_ixT (so_var (i := 8)) (so_c (sca_int _))) so_nil)))) so_nil)) (so_gname (i := 4)))
      (so_seq (so_asg (so_op sr_I0 (so_var (i := 4)) (so_op sr_I (so_var (i := 3)) (so_op sr_I0 (so_ixT (so_var (i := 2)) (so_c (sca_int _))) (so_f sc_len (so_cons (so_ixT (so_var (i := 2)) (so_c (sca_int _))) so_nil))))) (so_gname (i := 4)))
      (so_ifS (so_tand (so_test (so_op sr_eq (so_op sr_I0 (so_f sc_len (so_cons (so_ixT (so_ixL (so_var (i := 1)) (so_c (sca_int _))) (so_c (sca_int _))) so_nil)) (so_f sc_len (so_cons (so_ixT (so_ixL (so_var (i := 1)) (so_c (sca_int _))) (so_c (sca_int _))) so_nil))) (so_var (i := 4)))) (so_test (so_callT (so_cons (so_callT (so_cons (so_var (i := 0)) (so_cons (so_var (i := 3)) so_nil))) (so_cons (so_var (i := 1)) so_nil)))))
      (so_ret (so_tup (so_cons (so_cat (so_repN (so_lit_lst (so_lits_cons (so_lit_c (sca_int _) rfl) so_lits_nil)) (so_var (i := 3))) (so_lit_lst (so_lits_cons (so_lit_c (sca_int _) rfl) so_lits_nil))) (so_cons (so_lit_lst (so_lits_cons (so_lit_c (sca_int _) rfl) so_lits_nil)) (so_cons (so_c (sca_int _)) so_nil))))) so_next))))
      (so_ret (so_lit_tup (so_lits_cons (so_lit_lst so_lits_nil) (so_lits_cons (so_lit_lst (so_lits_cons (so_lit_c (sca_int _) rfl) so_lits_nil)) (so_lits_cons (so_lit_c (sca_int _) rfl) so_lits_nil)))))) so_next)
      (so_seq (so_asg (so_lc (so_rng1 (so_c (sca_int _))) so_yes (so_callT (so_cons (so_tup (so_cons (so_lit_tup (so_lits_cons (so_lit_c (sca_int _) rfl) (so_lits_cons (so_lit_lst so_lits_nil) so_lits_nil))) (so_cons (so_frz (i := 2)) (so_cons (so_lit_tup (so_lits_cons (so_lit_c (sca_int _) rfl) (so_lits_cons (so_lit_lst so_lits_nil) so_lits_nil))) so_nil)))) (so_cons (so_var (i := 3)) so_nil)))) (so_gname (i := 5)))
      (so_seq (so_for (so_rng2 (so_c (sca_int _)) (so_c (sca_int _))) (so_gname (i := 3))
      (so_ifS (so_test (so_op sr_inD (so_ixL (so_var (i := 5)) (so_var (i := 3))) (so_sl (so_frz (i := 5)) so_no (so_part (so_var (i := 3))))))
      (so_seq (so_asg (so_lc (so_rng1 (so_var (i := 3))) so_yes (so_f sc_int (so_cons (so_callT (so_cons (so_callT (so_cons (so_var (i := 0)) (so_cons (so_var (i := 7)) so_nil))) (so_cons (so_var (i := 1)) so_nil))) so_nil))) (so_gname (i := 6)))
      (so_ret (so_callT (so_cons (so_var (i := 6)) (so_cons (so_m sm_indexD (so_var (i := 5)) (so_cons (so_ixL (so_var (i := 5)) (so_var (i := 3))) so_nil)) so_nil))))) so_next))
      (so_ret (so_c sca_non)))))))⟩) val__law_sx_often
def w__law_sx_drawn_course : Tw := fun ds Q => ds = [] ∧ ∀ a b c : Int × List Int, (Eff a ∧ Eff b ∧ Eff c) → (Lst a ∧ Lst b ∧ Lst c) → (a.1 ≤ 6 ∧ b.1 ≤ 6 ∧ c.1 ≤ 6) → (a.2.length ≤ 8 ∧ b.2.length ≤ 8 ∧ c.2.length ≤ 8) → Q (dC a b c)
theorem ar__law_sx_drawn_course : ∀ ds G, w__law_sx_drawn_course ds G → ds.length + 1 = 1 := by
  rintro ds G ⟨rfl, _⟩
  rfl
def kr__law_sx_drawn_course_1 : KS := (kIfS (kTest (kOp (vEq false) (kCallP 1 w__law_sx_pick 1 (kCons (kVar 0) (kCons (kC (.int 3)) kNil))) (kC (.int 0))))
  (kAsg (kCallT w__law_sx_least 2 (kCons (kVar 3) (kCons (kCallP 10 w__law_sx_shuffled 1 (kCons (kVar 0) (kCons (kListRg (kRg2 (kC (.int 1)) (kOp (vI noC fun i j => i + j) (kVar 3) (kC (.int 1))))) kNil))) kNil))) (kgSub (kVar 2) (kC (.int 1))))
  kNext)
def kr__law_sx_drawn_course_2 : KS := (kSeq (kAsg (kCallT w__law_sx_least 2 (kCons (kVar 3) (kCons (kLc (kRng1 (kVar 3)) 4 kYes (kOp (vI noC fun i j => i + j) (kC (.int 1)) (kCallP 1 w__law_sx_pick 1 (kCons (kVar 0) (kCons (kVar 3) kNil))))) kNil))) (kgSub (kVar 2) (kC (.int 1))))
  kr__law_sx_drawn_course_1)
def kr__law_sx_drawn_course_3 : KS := (kRet (kTupOf (kCons (kMov 2) kNil)))
def kr__law_sx_drawn_course_4 : KS := (kSeq (kIfS (kTest (kOp (vEq false) (kCallP 1 w__law_sx_pick 1 (kCons (kVar 0) (kCons (kC (.int 2)) kNil))) (kC (.int 0))))
  (kSeq (kAsg (kOp (vI noC fun i j => i + j) (kC (.int 1)) (kCallP 1 w__law_sx_pick 1 (kCons (kVar 0) (kCons (kC (.int 6)) kNil)))) (kgName 3))
  kr__law_sx_drawn_course_2)
  kNext)
  kr__law_sx_drawn_course_3)
def kr__law_sx_drawn_course_5 : KS := (kSeq (kAsg (kLc (kRng1 (kC (.int 3))) 4 kYes (kCallP 30 w__law_sx_effect 2 (kCons (kVar 0) (kCons (kIx false (kVar 1) (kC (.int 0))) (kCons (kIx false (kVar 1) (kC (.int 1))) kNil))))) (kgName 2))
  kr__law_sx_drawn_course_4)
def k__law_sx_drawn_course : KS := (kSeq (kAsg (kIx true (kLit (.list [(.tuple [(.int 4), (.int 4)]), (.tuple [(.int 4), (.int 4)]), (.tuple [(.int 4), (.int 4)]), (.tuple [(.int 6), (.int 8)])])) (kCallP 1 w__law_sx_pick 1 (kCons (kVar 0) (kCons (kC (.int 4)) kNil)))) (kgName 1))
  kr__law_sx_drawn_course_5)
local macro_rules | `(tactic| walk_at "go") => `(tactic| ((first | unfold kr__law_sx_drawn_course_1 | unfold kr__law_sx_drawn_course_2 | unfold kr__law_sx_drawn_course_3 | unfold kr__law_sx_drawn_course_4 | unfold kr__law_sx_drawn_course_5); walk_at "ev"))
theorem val__law_sx_drawn_course : ∀ ds G, w__law_sx_drawn_course ds G → k__law_sx_drawn_course ⟨.pu :: (ds.map Sl.fz ++ [.jk, .jk, .jk, .jk]), [], 150⟩ (edP G) := by
  rintro ds Gq ⟨rfl, q⟩
  unfold k__law_sx_drawn_course
  walk_at "ev"
  refine ⟨by decide, 4, rfl, by decide, by decide, fun t t0 t1 => ?_⟩
  walk_at "ev"
  have body : ∀ n l : Int, 0 ≤ n → n ≤ 6 → 0 ≤ l → l ≤ 8 → kr__law_sx_drawn_course_5 ⟨[.pu, .fz (.tuple [.int n, .int l]), .jk, .jk, .jk], [], 149⟩ (edP Gq) := fun n l n0 n1 l0 l1 => by
    walk_at "go"
    have ret : ∀ (a b c : Int × List Int) (u1 u3 u4 : Sl) (j : Int), (Eff a ∧ Eff b ∧ Eff c) → (Lst a ∧ Lst b ∧ Lst c) → (a.1 ≤ 6 ∧ b.1 ≤ 6 ∧ c.1 ≤ 6) → (a.2.length ≤ 8 ∧ b.2.length ≤ 8 ∧ c.2.length ≤ 8) → 0 ≤ j → kr__law_sx_drawn_course_3 ⟨[.pu, u1, .ow true (.list [dE a, dE b, dE c]), u3, u4], [], j⟩ (edP Gq) := fun a b c u1 u3 u4 j h1 h2 h3 h4 hj => by
      walk_at "go"
      exact ⟨hj, q a b c h1 h2 h3 h4⟩
    refine ⟨⟨by decide, by decide⟩, ?_⟩
    refine lc_inv (j := 4) true (rg 0 3) PyData.int (fun pre acc n' => ∃ es : List (Int × List Int), acc = es.map dE ∧ es.length = pre.length ∧ (∀ e ∈ es, Eff e ∧ Lst e ∧ e.1 ≤ 6 ∧ e.2.length ≤ 8) ∧ pre.length ≤ 3 ∧ n' = 149 - 30 * pre.length) rfl rfl (fun pre acc n' hp => ?_) (fun pre x post acc n' Y X hl hp hY hX => ?_) (fun acc n' hp => ?_) [] 149 ⟨[], rfl, rfl, by simp, by simp, by simp⟩
    · obtain ⟨es, rfl, h1, _, h2, _⟩ := hp
      rw [List.length_map]
      omega
    · obtain ⟨es, rfl, h1, h2, h3, rfl⟩ := hp
      have hlen := congrArg List.length hl
      rw [show (rg 0 3).length = 3 by decide, List.length_append, List.length_cons] at hlen
      walk_at "ev"
      refine ⟨⟨by decide, by omega⟩, n, l, rfl, n0, by omega, l0, by omega, fun e e1 e2 e3 e4 => ?_⟩
      walk_at "ev"
      refine hY _ true _ _ rfl rfl ⟨es ++ [e], by rw [List.map_append]; rfl, by simp [h1], fun y hy => ?_, by rw [List.length_append, List.length_singleton]; omega, by rw [List.length_append, List.length_singleton]; omega⟩
      rcases List.mem_append.mp hy with hy | hy
      · exact h2 y hy
      · simp only [List.mem_singleton] at hy
        subst hy
        exact ⟨e1, e2, by omega, by omega⟩
    · obtain ⟨es, rfl, h1, h2, h3, rfl⟩ := hp
      rw [show (rg 0 3).length = 3 by decide] at h1
      rw [show (rg 0 3).length = 3 by decide]
      match es, h1 with
      | [a, b, c], _ =>
      obtain ⟨a1, a2, a3, a4⟩ := h2 a (by simp)
      obtain ⟨b1, b2, b3, b4⟩ := h2 b (by simp)
      obtain ⟨c1, c2, c3, c4⟩ := h2 c (by simp)
      walk_at "ev"
      walk_at "go"
      refine ⟨by decide, 2, rfl, by decide, by decide, fun r r0 r1 => ?_⟩
      walk_at "ev"
      refine iteB (fun cc => ?_) (fun cc => ret a b c _ _ _ _ ⟨a1, b1, c1⟩ ⟨a2, b2, c2⟩ ⟨a3, b3, c3⟩ ⟨a4, b4, c4⟩ (by decide))
      refine ⟨by decide, 6, rfl, by decide, by decide, fun d d0 d1 => ?_⟩
      walk_at "ev"
      walk_at "go"
      obtain ⟨m, hm, m0, m1⟩ : ∃ m : Int, 1 + d = m ∧ 1 ≤ m ∧ m ≤ 6 := ⟨_, rfl, by omega, by omega⟩
      rw [hm]
      refine ⟨⟨by omega, by omega⟩, ?_⟩
      have lr := rg_length 0 m
      refine lc_inv (j := 4) true (rg 0 m) PyData.int (fun pre acc n' => ∃ hs : List Int, acc = hs.map PyData.int ∧ hs.length = pre.length ∧ pre.length ≤ 6 ∧ (∀ x ∈ hs, 1 ≤ x ∧ x ≤ m) ∧ n' = 57 - pre.length) rfl rfl (fun pre acc n' hp => ?_) (fun pre x post acc n' Y X hl2 hp hY hX => ?_) (fun acc n' hp => ?_) [] 57 ⟨[], rfl, rfl, by simp, by simp, by simp⟩
      · obtain ⟨hs, rfl, h1, h2, _⟩ := hp
        rw [List.length_map]
        omega
      · obtain ⟨hs, rfl, h1, h2, h3, rfl⟩ := hp
        have hlen := congrArg List.length hl2
        rw [lr, List.length_append, List.length_cons] at hlen
        walk_at "ev"
        refine ⟨⟨by decide, by omega⟩, m, rfl, by omega, by omega, fun r r0 r1 => ?_⟩
        walk_at "ev"
        refine hY _ true _ _ rfl rfl ⟨hs ++ [1 + r], by simp, by simp [h1], by rw [List.length_append, List.length_singleton]; omega, fun y hy => ?_, by rw [List.length_append, List.length_singleton]; omega⟩
        rcases List.mem_append.mp hy with hy | hy
        · exact h3 y hy
        · simp at hy
          omega
      · obtain ⟨hs, rfl, h1, h2, h3, rfl⟩ := hp
        rw [lr] at h1 h2
        walk_at "ev"
        have ew : Eff (m, hs) := ⟨by dsimp only; omega, fun x hx => (h3 x hx).1, fun x hx => (h3 x hx).2⟩
        have kw := leastE_ok ew
        have kw1 := kw.le
        have kw2 := kw.len
        refine ⟨m, hs, rfl, ew, by omega, ?_⟩
        walk_at "ev"
        walk_at "go"
        refine ⟨⟨by decide, by decide⟩, ⟨by decide, by rw [lr]; omega⟩, 3, rfl, by decide, by decide, fun r r0 r1 => ?_⟩
        walk_at "ev"
        refine iteB (fun cc => ?_) (fun cc => ret a _ c _ _ _ _ ⟨a1, kw.eff, c1⟩ ⟨a2, kw.lst, c2⟩ ⟨a3, by omega, c3⟩ ⟨a4, by omega, c4⟩ (by rw [lr]; omega))
        have lr2 := rg_length 1 (m + 1)
        refine ⟨⟨by omega, by omega, by omega, by omega⟩, ⟨by decide, by rw [lr]; omega⟩, rg 1 (m + 1), rfl, by omega, fun hs2 pm => ?_⟩
        have ew2 : Eff (m, hs2) := ⟨by dsimp only; omega, fun x hx => (mem_rg.mp (pm.mem_iff.mp hx)).1, fun x hx => by
          have := (mem_rg.mp (pm.mem_iff.mp hx)).2
          show x ≤ m
          omega⟩
        have pl := pm.length_eq
        have kv := leastE_ok ew2
        have kv1 := kv.le
        have kv2 := kv.len
        walk_at "ev"
        refine ⟨m, hs2, rfl, ew2, by omega, ?_⟩
        walk_at "ev"
        refine ⟨⟨by decide, by rw [List.length_set]; simp⟩, ret a _ c _ _ _ _ ⟨a1, kv.eff, c1⟩ ⟨a2, kv.lst, c2⟩ ⟨a3, by omega, c3⟩ ⟨a4, by omega, c4⟩ ?_⟩
        rw [lr]
        omega
  refine ixD_any t0 (by simp; omega) fun x hx => ?_
  have ht : t = 0 ∨ t = 1 ∨ t = 2 ∨ t = 3 := by omega
  rcases ht with rfl | rfl | rfl | rfl
  · simp at hx
    subst hx
    walk_at "ev"
    exact body 4 4 (by decide) (by decide) (by decide) (by decide)
  · simp at hx
    subst hx
    walk_at "ev"
    exact body 4 4 (by decide) (by decide) (by decide) (by decide)
  · simp at hx
    subst hx
    walk_at "ev"
    exact body 4 4 (by decide) (by decide) (by decide) (by decide)
  · simp at hx
    subst hx
    walk_at "ev"
    exact body 6 8 (by decide) (by decide) (by decide) (by decide)
theorem ok__law_sx_drawn_course (p : Prog K mg) : FnG P w K mg base CX0 4 p.f__law_sx_drawn_course p.fd__law_sx_drawn_course ["_law_sack"] (spP 150 w__law_sx_drawn_course) :=
  okP p.d__law_sx_drawn_course.F sc__law_sx_drawn_course (by decide) ar__law_sx_drawn_course (by decide) (fun cdv A outer s H E hg hr => ⟨_, (pss_cons (ps_set (i := 1) sc__law_sx_drawn_course.nd rfl (Or.inr rfl) (pe_ix ix_list (pe_lst (pa_cons (pe_tup (pa_cons pe_int (pa_cons pe_int pa_nil))) (pa_cons (pe_tup (pa_cons pe_int (pa_cons pe_int pa_nil))) (pa_cons (pe_tup (pa_cons pe_int (pa_cons pe_int pa_nil))) (pa_cons (pe_tup (pa_cons pe_int (pa_cons pe_int pa_nil))) pa_nil))))) (pe_callG ((ok__law_sx_pick p).mono (by decide)) hg hr (by rfl) p.d__law_sx_pick.gl p.d__law_sx_pick.kp p.d__law_sx_pick.bd pass0 (pa_cons (pv 0) (pa_cons pe_int pa_nil))) (fun _ _ => rfl)))
      (pss_cons (ps_setLc (i := 2) (own := [("_law_turn", 4)]) (g := gName 4) (tt := tYes) rfl sc__law_sx_drawn_course.nd rfl rfl (sw_true rfl rfl rfl (by decide +kernel)) (pi_range1 (by rfl) p.blt.range (pa_cons pe_int pa_nil)) (blkOk_by (N := N__law_sx_drawn_course) (sc := defScope s__law_sx_drawn_course) (by decide +kernel)) (fun _ _ _ _ _ => pg_name (i := 4) sc__law_sx_drawn_course.nd rfl (Or.inl rfl)) (fun _ _ _ _ _ => pts_nil) (fun _ _ _ _ _ => (pe_callG ((ok__law_sx_effect p).mono (by decide)) hg hr (by rfl) p.d__law_sx_effect.gl p.d__law_sx_effect.kp p.d__law_sx_effect.bd pass0 (pa_cons (pv 0) (pa_cons (pe_ix (show IxR _ (rIxT K) from ix_tup) (pv 1) pe_int (fun _ _ => rfl)) (pa_cons (pe_ix (show IxR _ (rIxT K) from ix_tup) (pv 1) pe_int (fun _ _ => rfl)) pa_nil))))))
      (pss_cons (ps_if (pt_cmpR op_eq (pe_callG ((ok__law_sx_pick p).mono (by decide)) hg hr (by rfl) p.d__law_sx_pick.gl p.d__law_sx_pick.kp p.d__law_sx_pick.bd pass0 (pa_cons (pv 0) (pa_cons pe_int pa_nil))) pe_int (nomark _))
      (pss_cons (ps_set (i := 3) sc__law_sx_drawn_course.nd rfl (Or.inr rfl) (pe_op op_add pe_int (pe_callG ((ok__law_sx_pick p).mono (by decide)) hg hr (by rfl) p.d__law_sx_pick.gl p.d__law_sx_pick.kp p.d__law_sx_pick.bd pass0 (pa_cons (pv 0) (pa_cons pe_int pa_nil)))))
      (pss_cons (ps_asg (pe_callG ((ok__law_sx_least p).mono (by decide)) hg hr (by rfl) p.d__law_sx_least.gl p.d__law_sx_least.kp p.d__law_sx_least.bd pass0 (pa_cons (pv 3) (pa_cons (pe_lc (own := [("_law_turn", 4)]) (g := gName 4) (tt := tYes) rfl sc__law_sx_drawn_course.nd (pi_range1 (by rfl) p.blt.range (pa_cons (pv 3) pa_nil)) (blkOk_by (N := N__law_sx_drawn_course) (sc := defScope s__law_sx_drawn_course) (by decide +kernel)) (fun _ _ _ _ _ => pg_name (i := 4) sc__law_sx_drawn_course.nd rfl (Or.inl rfl)) (fun _ _ _ _ _ => pts_nil) (fun _ _ _ _ _ => (pe_op op_add pe_int (pe_callG ((ok__law_sx_pick p).mono (by decide)) hg hr (by rfl) p.d__law_sx_pick.gl p.d__law_sx_pick.kp p.d__law_sx_pick.bd pass0 (pa_cons (pv 0) (pa_cons (pv 3) pa_nil)))))) pa_nil))) (pg_sub (pv 2) pe_int set_list))
      (pss_one (ps_if (pt_cmpR op_eq (pe_callG ((ok__law_sx_pick p).mono (by decide)) hg hr (by rfl) p.d__law_sx_pick.gl p.d__law_sx_pick.kp p.d__law_sx_pick.bd pass0 (pa_cons (pv 0) (pa_cons pe_int pa_nil))) pe_int (nomark _))
      (pss_one (ps_asg (pe_callG ((ok__law_sx_least p).mono (by decide)) hg hr (by rfl) p.d__law_sx_least.gl p.d__law_sx_least.kp p.d__law_sx_least.bd pass0 (pa_cons (pv 3) (pa_cons (pe_callG ((ok__law_sx_shuffled p).mono (by decide)) hg hr (by rfl) p.d__law_sx_shuffled.gl p.d__law_sx_shuffled.kp p.d__law_sx_shuffled.bd pass0 (pa_cons (pv 0) (pa_cons (pe_listRg rfl (by rfl) p.blt.list (prg_2 (by rfl) p.blt.range pe_int (pe_op op_add (pv 3) pe_int))) pa_nil))) pa_nil))) (pg_sub (pv 2) pe_int set_list))) pss_nil)))) pss_nil)
      (pss_one (ps_ret (pe_callTy call_tuple_of (by rfl) p.blt.tuple (by decide +kernel) (pa_cons (pv 2) pa_nil))))))),
    fun C xc => (so_seq (so_asg (so_ixL (so_lit_lst (so_lits_cons (so_lit_tup (so_lits_cons (so_lit_c (sca_int _) rfl) (so_lits_cons (so_lit_c (sca_int _) rfl) so_lits_nil))) (so_lits_cons (so_lit_tup (so_lits_cons (so_lit_c (sca_int _) rfl) (so_lits_cons (so_lit_c (sca_int _) rfl) so_lits_nil))) (so_lits_cons (so_lit_tup (so_lits_cons (so_lit_c (sca_int _) rfl) (so_lits_cons (so_lit_c (sca_int _) rfl) so_lits_nil))) (so_lits_cons (so_lit_tup (so_lits_cons (so_lit_c (sca_int _) rfl) (so_lits_cons (so_lit_c (sca_int _) rfl) so_lits_nil))) so_lits_nil))))) (so_callP (so_cons (so_var (i := 0)) (so_cons (so_c (sca_int _)) so_nil)))) (so_gname (i := 1)))
      (so_seq (so_asg (so_lc (so_rng1 (so_c (sca_int _))) so_yes (so_callP (so_cons (so_var (i := 0)) (so_cons (so_ixT (so_var (i := 1)) (so_c (sca_int _))) (so_cons (so_ixT (so_var (i := 1)) (so_c (sca_int _))) so_nil))))) (so_gname (i := 2)))
      (so_seq (so_ifS (so_test (so_op sr_eq (so_callP (so_cons (so_var (i := 0)) (so_cons (so_c (sca_int _)) so_nil))) (so_c (sca_int _))))
      (so_seq (so_asg (so_op sr_I0 (so_c (sca_int _)) (so_callP (so_cons (so_var (i := 0)) (so_cons (so_c (sca_int _)) so_nil)))) (so_gname (i := 3)))
      (so_seq (so_asg (so_callT (so_cons (so_var (i := 3)) (so_cons (so_lc (so_rng1 (so_var (i := 3))) so_yes (so_op sr_I0 (so_c (sca_int _)) (so_callP (so_cons (so_var (i := 0)) (so_cons (so_var (i := 3)) so_nil))))) so_nil))) (so_gsub (so_var (i := 2)) (so_c (sca_int _))))
      (so_ifS (so_test (so_op sr_eq (so_callP (so_cons (so_var (i := 0)) (so_cons (so_c (sca_int _)) so_nil))) (so_c (sca_int _))))
      (so_asg (so_callT (so_cons (so_var (i := 3)) (so_cons (so_callP (so_cons (so_var (i := 0)) (so_cons (so_listRg2 (so_c (sca_int _)) (so_op sr_I0 (so_var (i := 3)) (so_c (sca_int _)))) so_nil))) so_nil))) (so_gsub (so_var (i := 2)) (so_c (sca_int _)))) so_next))) so_next)
      (so_ret (so_tupOf (so_cons (so_mov (i := 2)) so_nil))))))⟩) val__law_sx_drawn_course
theorem kb_often_sc (p : Prog K mg) : KBinds K p.fd_often ["course", "seen"] ["seen", "course"] (gKw [1, 0]) (gKwV [1, 0]) := by
  obtain ⟨oc, od, kV, doc, pm, an, cdv, ct, osl, e, lk, hcd⟩ := p.d_often.F.ex
  rw [e]
  refine kb_of (by decide) fun ws hl => ?_
  match ws, hl with
  | [], h => simp at h
  | [x0], h => simp at h
  | x0 :: x1 :: r, _ => rfl
def w__law_sx_right : Tw := fun ds Q => ds = [] ∧ Q (.bool true)
theorem ar__law_sx_right : ∀ ds G, w__law_sx_right ds G → ds.length + 1 = 1 := by
  rintro ds G ⟨rfl, _⟩
  rfl
def kr__law_sx_right_1 : KS := (kRet (kOp (vEq false) (kF 1 vRepr (kCons (kVar 9) kNil)) (kF 1 vRepr (kCons (kVar 7) kNil))))
def kr__law_sx_right_2 : KS := (kSeq (kIfS (kTest (kOp (vEq true) (kF 1 vRepr (kCons (kCallTK w_often [1, 0] 2 (kCons (kVar 9) (kCons (kVar 1) kNil))) kNil)) (kF 1 vRepr (kCons (kVar 8) kNil))))
  (kRet (kC (.bool false)))
  kNext)
  kr__law_sx_right_1)
def kr__law_sx_right_3 : KS := (kSeq (kIfS (kTest (kOp (vEq true) (kF 1 vRepr (kCons (kCallT w_often 2 (kCons (kVar 10) (kCons (kSl (kFrz 9) (kPart (kC (.int 1))) kNo) kNil))) kNil)) (kF 1 vRepr (kCons (kCallT w__law_sx_often 2 (kCons (kVar 1) (kCons (kSl (kFrz 7) (kPart (kC (.int 1))) kNo) kNil))) kNil))))
  (kRet (kC (.bool false)))
  kNext)
  kr__law_sx_right_2)
def kr__law_sx_right_4 : KS := (kSeq (kIfS (kTNot (kTest (kCallA2 (kCons (kCallT w_often 2 (kCons (kVar 10) (kCons (kVar 9) kNil))) (kCons (kCallT (w__law_sx_copy 60) 1 (kCons (kVar 8) kNil)) kNil)))))
  (kRet (kC (.bool false)))
  kNext)
  kr__law_sx_right_3)
def kr__law_sx_right_5 : KS := (kSeq (kAsg (kTupOf (kCons (kLc (kIt false (kFrz 1)) 11 kYes (kIf (kTest (kOp (vB fun i j => decide (i < j)) (kF 2 (v2I fun i j => if j > i then j else i) (kCons (kIx false (kVar 11) (kC (.int 0))) (kCons (kF 1 vLen (kCons (kIx false (kVar 11) (kC (.int 1))) kNil)) kNil))) (kC (.int 5)))) (kCallP 1 w__law_sx_wide 1 (kCons (kVar 0) (kCons (kVar 11) kNil))) (kFrz 11))) kNil)) (kgName 10))
  kr__law_sx_right_4)
def kr__law_sx_right_6 : KS := (kSeq (kIfS (kTest (kOp (vIsN false) (kVar 8) (kC .none)))
  (kRet (kC (.bool true)))
  kNext)
  kr__law_sx_right_5)
def kr__law_sx_right_7 : KS := (kSeq (kPar 8 9 (kCons (kCallT w__law_sx_often 2 (kCons (kVar 1) (kCons (kVar 7) kNil))) (kCons (kCallT (w__law_sx_copy 60) 1 (kCons (kVar 7) kNil)) kNil)))
  kr__law_sx_right_6)
def kr__law_sx_right_8 : KS := (kSeq (kAsg (kCallP 2400 w__law_sx_seen 3 (kCons (kVar 0) (kCons (kVar 6) (kCons (kCallP 1 w__law_sx_pick 1 (kCons (kVar 0) (kCons (kC (.int 7)) kNil))) (kCons (kVar 2) kNil))))) (kgName 7))
  kr__law_sx_right_7)
def kr__law_sx_right_9 : KS := (kSeq (kAsg (kCallT w__law_sx_course 2 (kCons (kVar 1) (kCons (kVar 5) kNil))) (kgName 6))
  kr__law_sx_right_8)
def kr__law_sx_right_10 : KS := (kSeq (kAsg (kCallP 1 w__law_sx_pick 1 (kCons (kVar 0) (kCons (kOp (vI CDivW fun i j => i / j) (kIx true (kLit (.list [(.int 13), (.int 13), (.int 90), (.int 320)])) (kVar 4)) (kF 2 (v2I fun i j => if j > i then j else i) (kCons (kC (.int 1)) (kCons (kVar 3) kNil)))) kNil))) (kgName 5))
  kr__law_sx_right_9)
def kr__law_sx_right_11 : KS := (kSeq (kPar 3 4 (kCons (kF 1 (v1I fun i => if i < 0 then -i else i) (kCons (kOp (vI noC fun i j => i - j) (kIx false (kIx false (kVar 1) (kC (.int 1))) (kC (.int 0))) (kF 1 vLen (kCons (kIx false (kIx false (kVar 1) (kC (.int 1))) (kC (.int 1))) kNil))) kNil)) (kCons (kCallP 1 w__law_sx_pick 1 (kCons (kVar 0) (kCons (kC (.int 4)) kNil))) kNil)))
  kr__law_sx_right_10)
def k__law_sx_right : KS := (kSeq (kPar 1 2 (kCons (kCallP 150 w__law_sx_drawn_course 0 (kCons (kVar 0) kNil)) (kCons (kOp (vI noC fun i j => i + j) (kC (.int 1)) (kCallP 1 w__law_sx_pick 1 (kCons (kVar 0) (kCons (kC (.int 5)) kNil)))) kNil)))
  kr__law_sx_right_11)
local macro_rules | `(tactic| walk_at "go") => `(tactic| ((first | unfold kr__law_sx_right_1 | unfold kr__law_sx_right_2 | unfold kr__law_sx_right_3 | unfold kr__law_sx_right_4 | unfold kr__law_sx_right_5 | unfold kr__law_sx_right_6 | unfold kr__law_sx_right_7 | unfold kr__law_sx_right_8 | unfold kr__law_sx_right_9 | unfold kr__law_sx_right_10 | unfold kr__law_sx_right_11); walk_at "ev"))
theorem val__law_sx_right : ∀ ds G, w__law_sx_right ds G → k__law_sx_right ⟨.pu :: (ds.map Sl.fz ++ [.jk, .jk, .jk, .jk, .jk, .jk, .jk, .jk, .jk, .jk, .jk]), [], 4000⟩ (edP G) := by
  rintro ds Gq ⟨rfl, q⟩
  unfold k__law_sx_right
  walk_at "ev"
  refine ⟨by decide, rfl, fun a b c ⟨ea, eb, ec⟩ ⟨sa, sb, sc⟩ ⟨na, nb, nc⟩ ⟨la, lb, lc⟩ => ?_⟩
  have a0 := ea.nn
  have b0 := eb.nn
  have c0 := ec.nn
  walk_at "ev"
  refine ⟨by decide, 5, rfl, by decide, by decide, fun t t0 t1 => ?_⟩
  walk_at "ev"
  walk_at "go"
  obtain ⟨g, hg⟩ : ∃ g : Int, (if b.1 - (b.2.length : Int) < 0 then -(b.1 - (b.2.length : Int)) else b.1 - b.2.length) = g := ⟨_, rfl⟩
  have gb : 0 ≤ g ∧ g ≤ 8 ∧ b.1 - (b.2.length : Int) ≤ g ∧ (b.2.length : Int) - b.1 ≤ g := by
    rw [← hg]
    split <;> omega
  rw [hg]
  obtain ⟨g0, g8, gu, gd⟩ := gb
  refine ⟨by decide, 4, rfl, by decide, by decide, fun r r0 r1 => ?_⟩
  walk_at "ev"
  walk_at "go"
  obtain ⟨m, hm, m1, m8, mg⟩ : ∃ m : Int, (if g > 1 then g else 1) = m ∧ 1 ≤ m ∧ m ≤ 8 ∧ g ≤ m := ⟨_, rfl, by split <;> omega, by split <;> omega, by split <;> omega⟩
  have body : ∀ (v : Int), 13 ≤ v → v ≤ 320 → ∀ D : Int, D = v / m → 1 ≤ D ∧ ∀ N : Int, 0 ≤ N → N < D → N ≤ 320 ∧ N * g ≤ 320 := fun v v0 v1 D hD => by
    have d1 : 1 ≤ D := by
      rw [hD]
      exact (Int.le_ediv_iff_mul_le (by omega)).mpr (by omega)
    refine ⟨d1, fun N N0 N1 => ?_⟩
    have e1 : D * m ≤ v := by
      rw [hD]
      exact Int.ediv_mul_le _ (by omega)
    have e2 : N * m ≤ D * m := Int.mul_le_mul_of_nonneg_right (by omega) (by omega)
    have e3 : N * g ≤ N * m := Int.mul_le_mul_of_nonneg_left mg N0
    have e4 : N * 1 ≤ N * m := Int.mul_le_mul_of_nonneg_left m1 N0
    omega
  refine ixD_any r0 (by simp; omega) fun x hx => ?_
  have : ∃ v : Int, x = .int v ∧ 13 ≤ v ∧ v ≤ 320 := by
    have hr : r = 0 ∨ r = 1 ∨ r = 2 ∨ r = 3 := by omega
    rcases hr with rfl | rfl | rfl | rfl
    · simp at hx
      exact ⟨13, hx.symm, by omega, by omega⟩
    · simp at hx
      exact ⟨13, hx.symm, by omega, by omega⟩
    · simp at hx
      exact ⟨90, hx.symm, by omega, by omega⟩
    · simp at hx
      exact ⟨320, hx.symm, by omega, by omega⟩
  obtain ⟨v, rfl, v0, v1⟩ := this
  walk_at "ev"
  rw [hm]
  refine ⟨wide_div (b := 20) (by omega) (by omega) (by decide) (by decide), by decide, _, rfl, (body v v0 v1 _ rfl).1, ?_, fun N N0 N1 => ?_⟩
  · have : v / m ≤ v := Int.ediv_le_self _ (by omega)
    omega
  obtain ⟨N2, Ng⟩ := (body v v0 v1 _ rfl).2 N N0 N1
  obtain ⟨n, rfl⟩ : ∃ n : Nat, N = n := ⟨N.toNat, by omega⟩
  have g1 : (n : Int) * (b.1 - b.2.length) ≤ 320 := Int.le_trans (Int.mul_le_mul_of_nonneg_left gu (by omega)) Ng
  have g2 : (n : Int) * (b.2.length - b.1) ≤ 320 := Int.le_trans (Int.mul_le_mul_of_nonneg_left gd (by omega)) Ng
  walk_at "ev"
  walk_at "go"
  refine ⟨a, b, c, (n : Nat), rfl, ⟨ea, eb, ec⟩, ⟨by omega, by omega, by omega⟩, ⟨by omega, by omega, by omega⟩, ⟨by omega, by omega⟩, ⟨by omega, by omega⟩, ?_⟩
  rw [Int.toNat_natCast]
  have len := crE_small ea eb ec (n := 320) (m := 18) g1 g2 (by omega) (by omega) (by omega)
  have chg := crE_chg ea eb ec n
  have ge := crE_eff ea eb ec n
  obtain ⟨E, hE⟩ : ∃ E, crE a b c n = E := ⟨_, rfl⟩
  rw [hE] at len chg ge
  rw [hE]
  have e4 : (n : Int) * ((b.2.length : Int) - b.1) = -(n * (b.1 - b.2.length)) := by
    rw [← Int.mul_neg]
    congr 1
    omega
  walk_at "ev"
  walk_at "go"
  refine ⟨by decide, 7, rfl, by decide, by decide, fun mm mm0 mm1 => ?_⟩
  walk_at "ev"
  refine ⟨by decide, E, mm, 1 + t, rfl, ge, by omega, by omega, by omega, by omega, by omega, by omega, fun ps hps pl => ?_⟩
  walk_at "ev"
  have okps : ∀ qs : List (List Str × List Str), (∀ p ∈ qs, p ∈ ps) → qs.length ≤ 6 → OkPs qs := fun qs hq lq => ⟨by omega, fun p hp => by
    obtain ⟨a1, a2, a3, a4, a5⟩ := hps p (hq p hp)
    exact ⟨⟨by omega, fun s hs => ok_ts (a1 s hs), fun s hs => ok_ts (a2 s hs)⟩, by omega, by omega, by omega⟩⟩
  have shP : ∀ qs : List (List Str × List Str), (∀ p ∈ qs, p ∈ ps) → qs.length ≤ 6 → Sh 4 2100000 (.list (qs.map pairD)) := fun qs hq lq => (sh_list (k := 3) (B := 340000) (n := 6) (fun d hd => by
    obtain ⟨p, hp, rfl⟩ := List.mem_map.mp hd
    obtain ⟨a1, a2, a3, a4, a5⟩ := hps p (hq p hp)
    exact sh_pairs2 a1 a2 (by omega) (by omega)) (by rw [List.length_map]; exact lq)).mono (by omega) (by omega)
  have s0 := shP ps (fun _ h => h) pl
  have okp := okps ps (fun _ h => h) pl
  walk_at "go"
  have copy : ∀ Q : D → Prop, Q (.list (ps.map pairD)) → w__law_sx_copy 60 [.list (ps.map pairD)] Q := fun Q hq => ⟨_, rfl, by have := s0.dp; omega, nd_shaped (shaped_pairs fun p hp => (okp.2 p hp).1), by have := s0.wd; omega, hq⟩
  refine ⟨a, b, c, ps, rfl, ⟨ea, eb, ec⟩, ⟨na, nb, nc⟩, ⟨la, lb, lc⟩, okp, fun n1 n2 n3 => ?_, fun d wd nr => ?_⟩
  · walk_at "ev"
    refine copy _ ?_
    walk_at "ev"
    walk_at "go"
    exact ⟨by decide, q⟩
  · have shd := wd.sh
    obtain ⟨xs, ys, rfl, _⟩ := wd.few
    walk_at "ev"
    refine copy _ ?_
    walk_at "ev"
    walk_at "go"
    walk_at "go"
    refine lc_invB (j := 11) [a, b, c] dE (fun pre acc n' => ∃ es : List (Int × List Int), acc = es.map dE ∧ es.map (fun e => leastE e.1 e.2) = pre ∧ (∀ e ∈ es, Eff e ∧ e.1 ≤ 6 ∧ e.2.length ≤ 8) ∧ pre.length ≤ 3 ∧ 1446 - pre.length ≤ n') rfl rfl (fun pre acc n' hp => ?_) (fun bb pre x post acc n' Y X hl hp hY hX => ?_) (fun bb acc n' hp => ?_) _ [] 1446 ⟨[], rfl, rfl, by simp, by simp, by simp⟩
    · obtain ⟨es, rfl, h1, _, h2, _⟩ := hp
      have := congrArg List.length h1
      rw [List.length_map] at this
      rw [List.length_map]
      omega
    · obtain ⟨es, rfl, h1, h2, h3, h4⟩ := hp
      · have hlen := congrArg List.length hl
        rw [List.length_append, List.length_cons] at hlen
        simp only [List.length_cons, List.length_nil] at hlen
        have mx : x ∈ [a, b, c] := hl ▸ List.mem_append_right _ List.mem_cons_self
        have ox : Eff x ∧ Lst x ∧ x.1 ≤ 6 ∧ x.2.length ≤ 8 := by
          simp at mx
          rcases mx with rfl | rfl | rfl
          · exact ⟨ea, sa, na, la⟩
          · exact ⟨eb, sb, nb, lb⟩
          · exact ⟨ec, sc, nc, lc⟩
        obtain ⟨x1, x2, x3, x4⟩ := ox
        have x0 := x1.nn
        have put : ∀ y : Int × List Int, leastE y.1 y.2 = x → Eff y → y.1 ≤ 6 → y.2.length ≤ 8 → ∃ es2 : List (Int × List Int), es.map dE ++ [dE y] = es2.map dE ∧ es2.map (fun e => leastE e.1 e.2) = pre ++ [x] ∧ (∀ e ∈ es2, Eff e ∧ e.1 ≤ 6 ∧ e.2.length ≤ 8) ∧ (pre ++ [x]).length ≤ 3 := fun y y1 y2 y3 y4 => by
          refine ⟨es ++ [y], by rw [List.map_append]; rfl, by rw [List.map_append, h1, ← y1]; rfl, fun e me => ?_, by rw [List.length_append, List.length_singleton]; omega⟩
          rcases List.mem_append.mp me with me | me
          · exact h2 e me
          · simp only [List.mem_singleton] at me
            subst me
            exact ⟨y2, y3, y4⟩
        walk_at "ev"
        refine iteB (fun cc => ?_) (fun cc => ?_)
        · have c1 := of_decide_eq_true cc
          have c2 : x.1 < 5 ∧ x.2.length < 5 := by split at c1 <;> omega
          refine ⟨⟨by decide, by omega⟩, x, rfl, x1, by omega, by omega, fun k k0 k1 => ?_⟩
          have lw := rg_length (x.1 + 1) (x.1 + k + 1)
          obtain ⟨es2, e1, e2, e3, e4⟩ := put (x.1 + k, x.2 ++ rg (x.1 + 1) (x.1 + k + 1)) (by
            show leastE (x.1 + k) (x.2 ++ rg (x.1 + 1) (x.1 + k + 1)) = x
            rw [leastE_wideI x1.le k0]
            exact x2) (wide_eff x1 k0) (by dsimp only; omega) (by rw [List.length_append]; omega)
          walk_at "ev"
          exact hY _ true _ _ rfl ⟨es2, e1, e2, e3, e4, by rw [List.length_append, List.length_singleton]; omega⟩
        · obtain ⟨es2, e1, e2, e3, e4⟩ := put x x2 x1 x3 x4
          exact hY (.fz (dE x)) _ (dE x) _ rfl ⟨es2, e1, e2, e3, e4, by rw [List.length_append, List.length_singleton]; omega⟩
    · obtain ⟨es, rfl, h1, h2, h3, h4⟩ := hp
      have l3 := congrArg List.length h1
      rw [List.length_map] at l3
      match es, l3 with
      | [a', b', c'], _ =>
      simp only [List.map_cons, List.map_nil, List.cons.injEq, and_true] at h1
      obtain ⟨ha', hb', hc'⟩ := h1
      obtain ⟨a1, a2, a3⟩ := h2 a' (by simp)
      obtain ⟨b1, b2, b3⟩ := h2 b' (by simp)
      obtain ⟨c1, c2, c3⟩ := h2 c' (by simp)
      have few : Few a' b' c' := ⟨a1, b1, c1, a2, b2, c2, by omega, by omega, by omega⟩
      have few0 : Few a b c := ⟨ea, eb, ec, na, nb, nc, by omega, by omega, by omega⟩
      simp only [List.length_cons, List.length_nil] at h4
      obtain ⟨nn, hnn, nn0⟩ : ∃ nn : Int, n' = nn ∧ 0 ≤ nn := ⟨_, rfl, by omega⟩
      subst hnn
      have main : ∀ s10 : Sl, (s10 = .ow true (dC a' b' c') ∨ s10 = .fz (dC a' b' c')) → kr__law_sx_right_4 ⟨[.pu, .fz (dC a b c), .fz (.int (1 + t)), .fz (.int g), .fz (.int r), .fz (.int n), .ow true (dE E), .ow true (.list (ps.map pairD)), .ow true (wayD xs ys), .ow true (.list (ps.map pairD)), s10, .jk], [], n'⟩ (edP Gq) := fun s10 h10 => by
        rcases h10 with rfl | rfl
        all_goals
          walk_at "go"
          refine ⟨a', b', c', ps, rfl, few, okp, fun d' w' => ?_⟩
          rw [ha', hb', hc'] at w'
          obtain rfl := w'.uniq ea eb ec wd
          walk_at "ev"
          refine ⟨_, rfl, by have := shd.1.dp; omega, shd.2.1, by have := shd.1.wd; omega, ?_⟩
          walk_at "ev"
          refine ⟨⟨shd.2.1, shd.1.mono (by omega) (by omega), Nat.le_trans shd.2.2.1 (by decide)⟩, ?_⟩
          walk_at "go"
          rw [show G.cutD (ps.map pairD) (some 1) none = (ps.drop 1).map pairD from by rw [List.map_drop]; exact cutD_from (ps.map pairD) 1]
          have hq : ∀ p ∈ ps.drop 1, p ∈ ps := fun p m => List.drop_subset _ _ m
          have lq : (ps.drop 1).length ≤ 6 := by rw [List.length_drop]; omega
          have neq : ps.drop 1 ≠ [] → ps ≠ [] := fun z y => z (by rw [y]; rfl)
          refine ⟨a', b', c', ps.drop 1, rfl, few, okps _ hq lq, fun e we => ?_⟩
          rw [ha', hb', hc'] at we
          have she := we.sh
          have she1 := she.1.dp
          have she2 := she.1.wd
          have shd1 := shd.1.dp
          have shd2 := shd.1.wd
          have s01 := s0.dp
          have s02 := s0.wd
          walk_at "ev"
          refine ⟨she.1.sh, by omega, by omega, a, b, c, ps.drop 1, rfl, ⟨ea, eb, ec⟩, ⟨na, nb, nc⟩, ⟨la, lb, lc⟩, okps _ hq lq, fun n1 n2 n3 => absurd n3 (nr (neq n1) n2), fun f wf _ => ?_⟩
          obtain rfl := wf.uniq ea eb ec we
          refine ⟨she.1.sh, by omega, by omega, ?_⟩
          refine iteB (fun z => by simp at z) (fun _ => ?_)
          walk_at "go"
          refine ⟨a, b, c, ps, rfl, few0, okp, fun d2 w2 => ?_⟩
          rw [show leastE a.1 a.2 = a from sa, show leastE b.1 b.2 = b from sb, show leastE c.1 c.2 = c from sc] at w2
          obtain rfl := w2.uniq ea eb ec wd
          walk_at "ev"
          refine ⟨shd.1.sh, by omega, by omega, shd.1.sh, by omega, by omega, ?_⟩
          walk_at "go"
          refine ⟨s0.sh, by omega, by omega, s0.sh, by omega, by omega, ?_⟩
          exact ⟨nn0, q⟩
      cases bb
      · walk_at "ev"
        exact main _ (.inr rfl)
      · walk_at "ev"
        exact main _ (.inl rfl)
theorem ok__law_sx_right (p : Prog K mg) : FnG P w K mg base CX0 62 p.f__law_sx_right p.fd__law_sx_right ["_law_sack"] (spP 4000 w__law_sx_right) :=
  okP p.d__law_sx_right.F sc__law_sx_right (by decide) ar__law_sx_right (by decide) (fun cdv A outer s H E hg hr => ⟨_, (pss_cons (ps_par (i := 1) (j := 2) rfl sc__law_sx_right.nd rfl rfl (by decide) rfl rfl (pa_cons (pe_callG ((ok__law_sx_drawn_course p).mono (by decide)) hg hr (by rfl) p.d__law_sx_drawn_course.gl p.d__law_sx_drawn_course.kp p.d__law_sx_drawn_course.bd pass0 (pa_cons (pv 0) pa_nil)) (pa_cons (pe_op op_add pe_int (pe_callG ((ok__law_sx_pick p).mono (by decide)) hg hr (by rfl) p.d__law_sx_pick.gl p.d__law_sx_pick.kp p.d__law_sx_pick.bd pass0 (pa_cons (pv 0) (pa_cons pe_int pa_nil)))) pa_nil)) (by rfl))
      (pss_cons (ps_par (i := 3) (j := 4) rfl sc__law_sx_right.nd rfl rfl (by decide) rfl rfl (pa_cons (pe_callB call_abs (by rfl) p.blt.abs (by decide +kernel) (pa_cons (pe_op op_sub (pe_ix ix_tup (pe_ix ix_tup (pv 1) pe_int (fun _ _ => rfl)) pe_int (fun _ _ => rfl)) (pe_callB call_len_seq (by rfl) p.blt.len PySem.boot_len (pa_cons (pe_ix ix_tup (pe_ix ix_tup (pv 1) pe_int (fun _ _ => rfl)) pe_int (fun _ _ => rfl)) pa_nil))) pa_nil)) (pa_cons (pe_callG ((ok__law_sx_pick p).mono (by decide)) hg hr (by rfl) p.d__law_sx_pick.gl p.d__law_sx_pick.kp p.d__law_sx_pick.bd pass0 (pa_cons (pv 0) (pa_cons pe_int pa_nil))) pa_nil)) (by rfl))
      (pss_cons (ps_set (i := 5) sc__law_sx_right.nd rfl (Or.inl rfl) (pe_callG ((ok__law_sx_pick p).mono (by decide)) hg hr (by rfl) p.d__law_sx_pick.gl p.d__law_sx_pick.kp p.d__law_sx_pick.bd pass0 (pa_cons (pv 0) (pa_cons (pe_op op_fdivW (pe_ix ix_list (pe_lst (pa_cons pe_int (pa_cons pe_int (pa_cons pe_int (pa_cons pe_int pa_nil))))) (pv 4) (fun _ _ => rfl)) (pe_callB (call_max2 rfl) (by rfl) p.blt.max (by decide +kernel) (pa_cons pe_int (pa_cons (pv 3) pa_nil)))) pa_nil))))
      (pss_cons (ps_set (i := 6) sc__law_sx_right.nd rfl (Or.inl rfl) (pe_callG ((ok__law_sx_course p).mono (by decide)) hg hr (by rfl) p.d__law_sx_course.gl p.d__law_sx_course.kp p.d__law_sx_course.bd pass0 (pa_cons (pv 1) (pa_cons (pv 5) pa_nil))))
      (pss_cons (ps_set (i := 7) sc__law_sx_right.nd rfl (Or.inl rfl) (pe_callG ((ok__law_sx_seen p).mono (by decide)) hg hr (by rfl) p.d__law_sx_seen.gl p.d__law_sx_seen.kp p.d__law_sx_seen.bd pass0 (pa_cons (pv 0) (pa_cons (pv 6) (pa_cons (pe_callG ((ok__law_sx_pick p).mono (by decide)) hg hr (by rfl) p.d__law_sx_pick.gl p.d__law_sx_pick.kp p.d__law_sx_pick.bd pass0 (pa_cons (pv 0) (pa_cons pe_int pa_nil))) (pa_cons (pv 2) pa_nil))))))
      (pss_cons (ps_par (i := 8) (j := 9) rfl sc__law_sx_right.nd rfl rfl (by decide) rfl rfl (pa_cons (pe_callG ((ok__law_sx_often p).mono (by decide)) hg hr (by rfl) p.d__law_sx_often.gl p.d__law_sx_often.kp p.d__law_sx_often.bd pass0 (pa_cons (pv 1) (pa_cons (pv 7) pa_nil))) (pa_cons (pe_callG ((ok__law_sx_copy p 60).mono (by decide)) hg hr (by rfl) p.d__law_sx_copy.gl p.d__law_sx_copy.kp p.d__law_sx_copy.bd pass0 (pa_cons (pv 7) pa_nil)) pa_nil)) (by rfl))
      (pss_cons (ps_if (pt_cmpR op_isN (pv 8) pe_non (nomark _))
      (pss_one (ps_ret pe_bl)) pss_nil)
      (pss_cons (ps_set (i := 10) sc__law_sx_right.nd rfl (Or.inl rfl) (pe_callTy call_tuple_of (by rfl) p.blt.tuple (by decide +kernel) (pa_cons (pe_lc (own := [("_law_one", 11)]) (g := gName 11) (tt := tYes) rfl sc__law_sx_right.nd (pi_tup (pv 1)) (blkOk_by (N := N__law_sx_right) (sc := defScope s__law_sx_right) (by decide +kernel)) (fun _ _ _ _ _ => pg_name (i := 11) sc__law_sx_right.nd rfl (Or.inl rfl)) (fun _ _ _ _ _ => pts_nil) (fun _ _ _ _ _ => (pe_ifExp (pt_cmpR op_lt (pe_callB (call_max2 rfl) (by rfl) p.blt.max (by decide +kernel) (pa_cons (pe_ix (show IxR _ (rIxT K) from ix_tup) (pv 11) pe_int (fun _ _ => rfl)) (pa_cons (pe_callB call_len_seq (by rfl) p.blt.len PySem.boot_len (pa_cons (pe_ix (show IxR _ (rIxT K) from ix_tup) (pv 11) pe_int (fun _ _ => rfl)) pa_nil)) pa_nil))) pe_int (nomark _)) (pe_callG ((ok__law_sx_wide p).mono (by decide)) hg hr (by rfl) p.d__law_sx_wide.gl p.d__law_sx_wide.kp p.d__law_sx_wide.bd pass0 (pa_cons (pv 0) (pa_cons (pv 11) pa_nil))) (pv 11)))) pa_nil)))
      (pss_cons (ps_if (pt_not (pt_val (pe_callG ((ok__law_sx_alone p).mono (by decide)) hg hr (by rfl) p.d__law_sx_alone.gl p.d__law_sx_alone.kp p.d__law_sx_alone.bd pass0 (pa_cons (pe_callG ((ok_often p).mono (by decide)) hg hr (by rfl) p.d_often.gl p.d_often.kp p.d_often.bd pass0 (pa_cons (pv 10) (pa_cons (pv 9) pa_nil))) (pa_cons (pe_callG ((ok__law_sx_copy p 60).mono (by decide)) hg hr (by rfl) p.d__law_sx_copy.gl p.d__law_sx_copy.kp p.d__law_sx_copy.bd pass0 (pa_cons (pv 8) pa_nil)) pa_nil)))))
      (pss_one (ps_ret pe_bl)) pss_nil)
      (pss_cons (ps_if (pt_cmpR op_ne (pe_callB (cr_repr hg hr.units) (by rfl) p.blt.repr (by decide +kernel) (pa_cons (pe_callG ((ok_often p).mono (by decide)) hg hr (by rfl) p.d_often.gl p.d_often.kp p.d_often.bd pass0 (pa_cons (pv 10) (pa_cons (pe_slice sl_list (pv 9) (po_some pe_int) po_none) pa_nil))) pa_nil)) (pe_callB (cr_repr hg hr.units) (by rfl) p.blt.repr (by decide +kernel) (pa_cons (pe_callG ((ok__law_sx_often p).mono (by decide)) hg hr (by rfl) p.d__law_sx_often.gl p.d__law_sx_often.kp p.d__law_sx_often.bd pass0 (pa_cons (pv 1) (pa_cons (pe_slice sl_list (pv 7) (po_some pe_int) po_none) pa_nil))) pa_nil)) (nomark _))
      (pss_one (ps_ret pe_bl)) pss_nil)
      (pss_cons (ps_if (pt_cmpR op_ne (pe_callB (cr_repr hg hr.units) (by rfl) p.blt.repr (by decide +kernel) (pa_cons (pe_callK0G ((ok_often p).mono (by decide)) hg hr (by rfl) p.d_often.gl p.d_often.kp (kb_often_sc p) pass0 (pk_cons (pv 9) (pk_cons (pv 1) pk_nil))) pa_nil)) (pe_callB (cr_repr hg hr.units) (by rfl) p.blt.repr (by decide +kernel) (pa_cons (pv 8) pa_nil)) (nomark _))
      (pss_one (ps_ret pe_bl)) pss_nil)
      (pss_one (ps_ret (pe_cmpR op_eq (pe_callB (cr_repr hg hr.units) (by rfl) p.blt.repr (by decide +kernel) (pa_cons (pv 9) pa_nil)) (pe_callB (cr_repr hg hr.units) (by rfl) p.blt.repr (by decide +kernel) (pa_cons (pv 7) pa_nil)) (nomark _))))))))))))))),
    fun C xc => (so_seq (so_par (i := 1) (j := 2) (by decide) (so_cons (so_callP (so_cons (so_var (i := 0)) so_nil)) (so_cons (so_op sr_I0 (so_c (sca_int _)) (so_callP (so_cons (so_var (i := 0)) (so_cons (so_c (sca_int _)) so_nil)))) so_nil)))
      (so_seq (so_par (i := 3) (j := 4) (by decide) (so_cons (so_f sc_1i (so_cons (so_op sr_I0 (so_ixT (so_ixT (so_var (i := 1)) (so_c (sca_int _))) (so_c (sca_int _))) (so_f sc_len (so_cons (so_ixT (so_ixT (so_var (i := 1)) (so_c (sca_int _))) (so_c (sca_int _))) so_nil))) so_nil)) (so_cons (so_callP (so_cons (so_var (i := 0)) (so_cons (so_c (sca_int _)) so_nil))) so_nil)))
      (so_seq (so_asg (so_callP (so_cons (so_var (i := 0)) (so_cons (so_op sr_I (so_ixL (so_lit_lst (so_lits_cons (so_lit_c (sca_int _) rfl) (so_lits_cons (so_lit_c (sca_int _) rfl) (so_lits_cons (so_lit_c (sca_int _) rfl) (so_lits_cons (so_lit_c (sca_int _) rfl) so_lits_nil))))) (so_var (i := 4))) (so_f sc_2i (so_cons (so_c (sca_int _)) (so_cons (so_var (i := 3)) so_nil)))) so_nil))) (so_gname (i := 5)))
      (so_seq (so_asg (so_callT (so_cons (so_var (i := 1)) (so_cons (so_var (i := 5)) so_nil))) (so_gname (i := 6)))
      (so_seq (so_asg (so_callP (so_cons (so_var (i := 0)) (so_cons (so_var (i := 6)) (so_cons (so_callP (so_cons (so_var (i := 0)) (so_cons (so_c (sca_int _)) so_nil))) (so_cons (so_var (i := 2)) so_nil))))) (so_gname (i := 7)))
      (so_seq (so_par (i := 8) (j := 9) (by decide) (so_cons (so_callT (so_cons (so_var (i := 1)) (so_cons (so_var (i := 7)) so_nil))) (so_cons (so_callT (so_cons (so_var (i := 7)) so_nil)) so_nil)))
      (so_seq (so_ifS (so_test (so_op sr_isN (so_var (i := 8)) (so_c sca_non)))
      (so_ret (so_c (sca_bl _))) so_next)
      (so_seq (so_asg (so_tupOf (so_cons (so_lc (so_itT (so_frz (i := 1))) so_yes (so_if (so_test (so_op sr_B (so_f sc_2i (so_cons (so_ixT (so_var (i := 11)) (so_c (sca_int _))) (so_cons (so_f sc_len (so_cons (so_ixT (so_var (i := 11)) (so_c (sca_int _))) so_nil)) so_nil))) (so_c (sca_int _)))) (so_callP (so_cons (so_var (i := 0)) (so_cons (so_var (i := 11)) so_nil))) (so_frz (i := 11)))) so_nil)) (so_gname (i := 10)))
      (so_seq (so_ifS (so_tnot (so_test (so_callA2 (so_cons (so_callT (so_cons (so_var (i := 10)) (so_cons (so_var (i := 9)) so_nil))) (so_cons (so_callT (so_cons (so_var (i := 8)) so_nil)) so_nil)))))
      (so_ret (so_c (sca_bl _))) so_next)
      (so_seq (so_ifS (so_test (so_op sr_ne (so_f sc_repr (so_cons (so_callT (so_cons (so_var (i := 10)) (so_cons (so_sl (so_frz (i := 9)) (so_part (so_c (sca_int _))) so_no) so_nil))) so_nil)) (so_f sc_repr (so_cons (so_callT (so_cons (so_var (i := 1)) (so_cons (so_sl (so_frz (i := 7)) (so_part (so_c (sca_int _))) so_no) so_nil))) so_nil))))
      (so_ret (so_c (sca_bl _))) so_next)
      (so_seq (so_ifS (so_test (so_op sr_ne (so_f sc_repr (so_cons (so_callTK (ix := [1, 0]) (so_cons (so_var (i := 9)) (so_cons (so_var (i := 1)) so_nil))) so_nil)) (so_f sc_repr (so_cons (so_var (i := 8)) so_nil))))
      (so_ret (so_c (sca_bl _))) so_next)
      (so_ret (so_op sr_eq (so_f sc_repr (so_cons (so_var (i := 9)) so_nil)) (so_f sc_repr (so_cons (so_var (i := 7)) so_nil)))))))))))))))⟩) val__law_sx_right
def spLaw (K : PySem.W.Frag) : Sp := fun vs H Q _ => ∃ (a : Addr) (ns : List Int), vs = [.ref a] ∧ SqL K H a (ns.map V.int) ∧ ns.length ≤ 63 ∧ (∀ z ∈ ns, Builtin.Int.intBits z ≤ 1048576) ∧ ∀ H', Q (.bl true) H'
theorem ok_law (p : Prog K mg) : FnG P w K mg base CX0 63 p.f_law p.fd_law ["_law_script"] (spLaw K) := by
  refine okG p.d_law.F sc_law (fun vs H Q E h => ?_) (fun cdv A outer s H vs Q E hg hr h => ?_)
  · obtain ⟨a, ns, rfl, _⟩ := h
    rfl
  · obtain ⟨a, ns, rfl, hs, hl, hb, q⟩ := h
    refine ⟨_, (pss_cons (ps_for PassesOwn.never rfl (pi_range1 (by rfl) p.blt.range (pa_cons (pe_callB (call_max2 rfl) (by rfl) p.blt.max (by decide +kernel) (pa_cons pe_int (pa_cons (pe_callB (call_min2 rfl) (by rfl) p.blt.min (by decide +kernel) (pa_cons pe_int (pa_cons (pe_callB call_len_seq (by rfl) p.blt.len PySem.boot_len (pa_cons (pv 0) pa_nil)) pa_nil))) pa_nil))) pa_nil)) (pg_name (i := 1) sc_law.nd rfl (Or.inl rfl))
      (pss_cons (ps_set (i := 2) sc_law.nd rfl (Or.inl rfl) (pe_callG ((ok__law_sx_sack p).mono (by decide)) hg hr (by rfl) p.d__law_sx_sack.gl p.d__law_sx_sack.kp p.d__law_sx_sack.bd pass0 (pa_cons (pv 0) (pa_cons (pv 1) pa_nil))))
      (pss_one (ps_if (pt_not (pt_val (pe_callG ((ok__law_sx_right p).mono (by decide)) hg hr (by rfl) p.d__law_sx_right.gl p.d__law_sx_right.kp p.d__law_sx_right.bd pass0 (pa_cons (pv 2) pa_nil))))
      (pss_one (ps_ret pe_bl)) pss_nil))))
      (pss_one (ps_ret pe_bl))), ?_⟩
    refine ⟨_, rfl, a, _, rfl, .inl hs, _, _, rfl, _, _, rfl, ?_⟩
    rw [ints_len]
    refine ⟨_, rfl, by split <;> split <;> omega, by split <;> split <;> omega, ?_⟩
    refine for_range (fun i σ H1 => ∃ y1 y2, σ = [some (.ref a), y1, y2] ∧ Same H H1) ⟨none, none, rfl, Same.refl _⟩ (fun i σ H1 hi hI => ?_) (fun σ H1 hI => q _)
    obtain ⟨y1, y2, rfl, sm⟩ := hI
    have hi' : i ≤ 64 := by
      revert hi
      split <;> split <;> omega
    refine ⟨_, rfl, _, rfl, a, ns, _, rfl, sm.seq hs, hl, hb, by omega, by omega, fun H2 u sm2 un pu => ?_⟩
    refine ⟨_, rfl, u, _, [], [], [], _, rfl, pu, by omega, .nil, (fun z => nomatch z), ⟨rfl, rfl⟩, fun d v H4 ed fr pu4 nw => ?_⟩
    subst ed
    obtain ⟨S, rp, _⟩ := nw
    cases rp
    refine ⟨_, rfl, iteF ?_⟩
    refine ⟨_, _, rfl, fun b o e => fr b o (sm2 b o (sm b o e)) fun z => ?_⟩
    rw [z] at e
    have := sm _ _ e
    rw [un] at this
    cases this
theorem all_mk {l : PySem.W.OpenLaw} {w : World} {K : PySem.W.Frag} {h : Heap} {mg : Str → Option Value} {fa : Addr} (X : K.In h) (G : h.Ns mainGlobals mg) (hfa : mg "law" = some (.ref fa))
    {f0 f1 f2 f3 f4 f5 f6 f7 f8 f9 f10 f11 f12 f13 f14 f15 f16 f17 f18 f19 f20 f21 f22 f23 f24 f25 f26 f27 f28 f29 f30 f31 f32 f33 f34 : Addr} {od0 an0 : Option Addr} {sl0 : Array (Option Value)} {oc0 kV0 dc0 pm0 cd0 ct0 : Value} {od1 an1 : Option Addr} {sl1 : Array (Option Value)} {oc1 kV1 dc1 pm1 cd1 ct1 : Value} {od2 an2 : Option Addr} {sl2 : Array (Option Value)} {oc2 kV2 dc2 pm2 cd2 ct2 : Value} {od3 an3 : Option Addr} {sl3 : Array (Option Value)} {oc3 kV3 dc3 pm3 cd3 ct3 : Value} {od4 an4 : Option Addr} {sl4 : Array (Option Value)} {oc4 kV4 dc4 pm4 cd4 ct4 : Value} {od5 an5 : Option Addr} {sl5 : Array (Option Value)} {oc5 kV5 dc5 pm5 cd5 ct5 : Value} {od6 an6 : Option Addr} {sl6 : Array (Option Value)} {oc6 kV6 dc6 pm6 cd6 ct6 : Value} {od7 an7 : Option Addr} {sl7 : Array (Option Value)} {oc7 kV7 dc7 pm7 cd7 ct7 : Value} {od8 an8 : Option Addr} {sl8 : Array (Option Value)} {oc8 kV8 dc8 pm8 cd8 ct8 : Value} {od9 an9 : Option Addr} {sl9 : Array (Option Value)} {oc9 kV9 dc9 pm9 cd9 ct9 : Value} {od10 an10 : Option Addr} {sl10 : Array (Option Value)} {oc10 kV10 dc10 pm10 cd10 ct10 : Value} {od11 an11 : Option Addr} {sl11 : Array (Option Value)} {oc11 kV11 dc11 pm11 cd11 ct11 : Value} {od12 an12 : Option Addr} {sl12 : Array (Option Value)} {oc12 kV12 dc12 pm12 cd12 ct12 : Value} {od13 an13 : Option Addr} {sl13 : Array (Option Value)} {oc13 kV13 dc13 pm13 cd13 ct13 : Value} {od14 an14 : Option Addr} {sl14 : Array (Option Value)} {oc14 kV14 dc14 pm14 cd14 ct14 : Value} {od15 an15 : Option Addr} {sl15 : Array (Option Value)} {oc15 kV15 dc15 pm15 cd15 ct15 : Value} {od16 an16 : Option Addr} {sl16 : Array (Option Value)} {oc16 kV16 dc16 pm16 cd16 ct16 : Value} {od17 an17 : Option Addr} {sl17 : Array (Option Value)} {oc17 kV17 dc17 pm17 cd17 ct17 : Value} {od18 an18 : Option Addr} {sl18 : Array (Option Value)} {oc18 kV18 dc18 pm18 cd18 ct18 : Value} {od19 an19 : Option Addr} {sl19 : Array (Option Value)} {oc19 kV19 dc19 pm19 cd19 ct19 : Value} {od20 an20 : Option Addr} {sl20 : Array (Option Value)} {oc20 kV20 dc20 pm20 cd20 ct20 : Value} {od21 an21 : Option Addr} {sl21 : Array (Option Value)} {oc21 kV21 dc21 pm21 cd21 ct21 : Value} {od22 an22 : Option Addr} {sl22 : Array (Option Value)} {oc22 kV22 dc22 pm22 cd22 ct22 : Value} {od23 an23 : Option Addr} {sl23 : Array (Option Value)} {oc23 kV23 dc23 pm23 cd23 ct23 : Value} {od24 an24 : Option Addr} {sl24 : Array (Option Value)} {oc24 kV24 dc24 pm24 cd24 ct24 : Value} {od25 an25 : Option Addr} {sl25 : Array (Option Value)} {oc25 kV25 dc25 pm25 cd25 ct25 : Value} {od26 an26 : Option Addr} {sl26 : Array (Option Value)} {oc26 kV26 dc26 pm26 cd26 ct26 : Value} {od27 an27 : Option Addr} {sl27 : Array (Option Value)} {oc27 kV27 dc27 pm27 cd27 ct27 : Value} {od28 an28 : Option Addr} {sl28 : Array (Option Value)} {oc28 kV28 dc28 pm28 cd28 ct28 : Value} {od29 an29 : Option Addr} {sl29 : Array (Option Value)} {oc29 kV29 dc29 pm29 cd29 ct29 : Value} {od30 an30 : Option Addr} {sl30 : Array (Option Value)} {oc30 kV30 dc30 pm30 cd30 ct30 : Value} {od31 an31 : Option Addr} {sl31 : Array (Option Value)} {oc31 kV31 dc31 pm31 cd31 ct31 : Value} {od32 an32 : Option Addr} {sl32 : Array (Option Value)} {oc32 kV32 dc32 pm32 cd32 ct32 : Value} {od33 an33 : Option Addr} {sl33 : Array (Option Value)} {oc33 kV33 dc33 pm33 cd33 ct33 : Value} {od34 an34 : Option Addr} {sl34 : Array (Option Value)} {oc34 kV34 dc34 pm34 cd34 ct34 : Value}
    (a0 : PySem.W.nsIn K mainGlobals "is_effect" = some (some (.ref f0))) (l0 : K.lookup f0 = some ⟨oc0, od0, .func (PySem.W.fnOf "is_effect" "is_effect" (defArgs s_is_effect) (defBody s_is_effect) (defScope s_is_effect) .none kV0 dc0 pm0 an0 cd0 ct0), sl0⟩) (c0 : PySem.W.codeIn K cd0 "is_effect" = true) (k0 : PySem.W.keepIn K (.ref f0) = true)
    (a1 : PySem.W.nsIn K mainGlobals "least_of" = some (some (.ref f1))) (l1 : K.lookup f1 = some ⟨oc1, od1, .func (PySem.W.fnOf "least_of" "least_of" (defArgs s_least_of) (defBody s_least_of) (defScope s_least_of) .none kV1 dc1 pm1 an1 cd1 ct1), sl1⟩) (c1 : PySem.W.codeIn K cd1 "least_of" = true) (k1 : PySem.W.keepIn K (.ref f1) = true)
    (a2 : PySem.W.nsIn K mainGlobals "checked" = some (some (.ref f2))) (l2 : K.lookup f2 = some ⟨oc2, od2, .func (PySem.W.fnOf "checked" "checked" (defArgs s_checked) (defBody s_checked) (defScope s_checked) .none kV2 dc2 pm2 an2 cd2 ct2), sl2⟩) (c2 : PySem.W.codeIn K cd2 "checked" = true) (k2 : PySem.W.keepIn K (.ref f2) = true)
    (a3 : PySem.W.nsIn K mainGlobals "join_of" = some (some (.ref f3))) (l3 : K.lookup f3 = some ⟨oc3, od3, .func (PySem.W.fnOf "join_of" "join_of" (defArgs s_join_of) (defBody s_join_of) (defScope s_join_of) .none kV3 dc3 pm3 an3 cd3 ct3), sl3⟩) (c3 : PySem.W.codeIn K cd3 "join_of" = true) (k3 : PySem.W.keepIn K (.ref f3) = true)
    (a4 : PySem.W.nsIn K mainGlobals "power_of" = some (some (.ref f4))) (l4 : K.lookup f4 = some ⟨oc4, od4, .func (PySem.W.fnOf "power_of" "power_of" (defArgs s_power_of) (defBody s_power_of) (defScope s_power_of) .none kV4 dc4 pm4 an4 cd4 ct4), sl4⟩) (c4 : PySem.W.codeIn K cd4 "power_of" = true) (k4 : PySem.W.keepIn K (.ref f4) = true)
    (a5 : PySem.W.nsIn K mainGlobals "shifted" = some (some (.ref f5))) (l5 : K.lookup f5 = some ⟨oc5, od5, .func (PySem.W.fnOf "shifted" "shifted" (defArgs s_shifted) (defBody s_shifted) (defScope s_shifted) .none kV5 dc5 pm5 an5 cd5 ct5), sl5⟩) (c5 : PySem.W.codeIn K cd5 "shifted" = true) (k5 : PySem.W.keepIn K (.ref f5) = true)
    (a6 : PySem.W.nsIn K mainGlobals "goes_on" = some (some (.ref f6))) (l6 : K.lookup f6 = some ⟨oc6, od6, .func (PySem.W.fnOf "goes_on" "goes_on" (defArgs s_goes_on) (defBody s_goes_on) (defScope s_goes_on) .none kV6 dc6 pm6 an6 cd6 ct6), sl6⟩) (c6 : PySem.W.codeIn K cd6 "goes_on" = true) (k6 : PySem.W.keepIn K (.ref f6) = true)
    (a7 : PySem.W.nsIn K mainGlobals "told_way" = some (some (.ref f7))) (l7 : K.lookup f7 = some ⟨oc7, od7, .func (PySem.W.fnOf "told_way" "told_way" (defArgs s_told_way) (defBody s_told_way) (defScope s_told_way) .none kV7 dc7 pm7 an7 cd7 ct7), sl7⟩) (c7 : PySem.W.codeIn K cd7 "told_way" = true) (k7 : PySem.W.keepIn K (.ref f7) = true)
    (a8 : PySem.W.nsIn K mainGlobals "comes_again" = some (some (.ref f8))) (l8 : K.lookup f8 = some ⟨oc8, od8, .func (PySem.W.fnOf "comes_again" "comes_again" (defArgs s_comes_again) (defBody s_comes_again) (defScope s_comes_again) .none kV8 dc8 pm8 an8 cd8 ct8), sl8⟩) (c8 : PySem.W.codeIn K cd8 "comes_again" = true) (k8 : PySem.W.keepIn K (.ref f8) = true)
    (a9 : PySem.W.nsIn K mainGlobals "checked_course" = some (some (.ref f9))) (l9 : K.lookup f9 = some ⟨oc9, od9, .func (PySem.W.fnOf "checked_course" "checked_course" (defArgs s_checked_course) (defBody s_checked_course) (defScope s_checked_course) .none kV9 dc9 pm9 an9 cd9 ct9), sl9⟩) (c9 : PySem.W.codeIn K cd9 "checked_course" = true) (k9 : PySem.W.keepIn K (.ref f9) = true)
    (a10 : PySem.W.nsIn K mainGlobals "effect_of_course" = some (some (.ref f10))) (l10 : K.lookup f10 = some ⟨oc10, od10, .func (PySem.W.fnOf "effect_of_course" "effect_of_course" (defArgs s_effect_of_course) (defBody s_effect_of_course) (defScope s_effect_of_course) .none kV10 dc10 pm10 an10 cd10 ct10), sl10⟩) (c10 : PySem.W.codeIn K cd10 "effect_of_course" = true) (k10 : PySem.W.keepIn K (.ref f10) = true)
    (a11 : PySem.W.nsIn K mainGlobals "comes_round" = some (some (.ref f11))) (l11 : K.lookup f11 = some ⟨oc11, od11, .func (PySem.W.fnOf "comes_round" "comes_round" (defArgs s_comes_round) (defBody s_comes_round) (defScope s_comes_round) .none kV11 dc11 pm11 an11 cd11 ct11), sl11⟩) (c11 : PySem.W.codeIn K cd11 "comes_round" = true) (k11 : PySem.W.keepIn K (.ref f11) = true)
    (a12 : PySem.W.nsIn K mainGlobals "turns_all" = some (some (.ref f12))) (l12 : K.lookup f12 = some ⟨oc12, od12, .func (PySem.W.fnOf "turns_all" "turns_all" (defArgs s_turns_all) (defBody s_turns_all) (defScope s_turns_all) .none kV12 dc12 pm12 an12 cd12 ct12), sl12⟩) (c12 : PySem.W.codeIn K cd12 "turns_all" = true) (k12 : PySem.W.keepIn K (.ref f12) = true)
    (a13 : PySem.W.nsIn K mainGlobals "mark_way" = some (some (.ref f13))) (l13 : K.lookup f13 = some ⟨oc13, od13, .func (PySem.W.fnOf "mark_way" "mark_way" (defArgs s_mark_way) (defBody s_mark_way) (defScope s_mark_way) .none kV13 dc13 pm13 an13 cd13 ct13), sl13⟩) (c13 : PySem.W.codeIn K cd13 "mark_way" = true) (k13 : PySem.W.keepIn K (.ref f13) = true)
    (a14 : PySem.W.nsIn K mainGlobals "course_power" = some (some (.ref f14))) (l14 : K.lookup f14 = some ⟨oc14, od14, .func (PySem.W.fnOf "course_power" "course_power" (defArgs s_course_power) (defBody s_course_power) (defScope s_course_power) .none kV14 dc14 pm14 an14 cd14 ct14), sl14⟩) (c14 : PySem.W.codeIn K cd14 "course_power" = true) (k14 : PySem.W.keepIn K (.ref f14) = true)
    (a15 : PySem.W.nsIn K mainGlobals "only_time" = some (some (.ref f15))) (l15 : K.lookup f15 = some ⟨oc15, od15, .func (PySem.W.fnOf "only_time" "only_time" (defArgs s_only_time) (defBody s_only_time) (defScope s_only_time) .none kV15 dc15 pm15 an15 cd15 ct15), sl15⟩) (c15 : PySem.W.codeIn K cd15 "only_time" = true) (k15 : PySem.W.keepIn K (.ref f15) = true)
    (a16 : PySem.W.nsIn K mainGlobals "often" = some (some (.ref f16))) (l16 : K.lookup f16 = some ⟨oc16, od16, .func (PySem.W.fnOf "often" "often" (defArgs s_often) (defBody s_often) (defScope s_often) .none kV16 dc16 pm16 an16 cd16 ct16), sl16⟩) (c16 : PySem.W.codeIn K cd16 "often" = true) (k16 : PySem.W.keepIn K (.ref f16) = true)
    (a17 : PySem.W.nsIn K mainGlobals "_law_sx_sack" = some (some (.ref f17))) (l17 : K.lookup f17 = some ⟨oc17, od17, .func (PySem.W.fnOf "_law_sx_sack" "_law_sx_sack" (defArgs s__law_sx_sack) (defBody s__law_sx_sack) (defScope s__law_sx_sack) .none kV17 dc17 pm17 an17 cd17 ct17), sl17⟩) (c17 : PySem.W.codeIn K cd17 "_law_sx_sack" = true) (k17 : PySem.W.keepIn K (.ref f17) = true)
    (a18 : PySem.W.nsIn K mainGlobals "_law_sx_pick" = some (some (.ref f18))) (l18 : K.lookup f18 = some ⟨oc18, od18, .func (PySem.W.fnOf "_law_sx_pick" "_law_sx_pick" (defArgs s__law_sx_pick) (defBody s__law_sx_pick) (defScope s__law_sx_pick) .none kV18 dc18 pm18 an18 cd18 ct18), sl18⟩) (c18 : PySem.W.codeIn K cd18 "_law_sx_pick" = true) (k18 : PySem.W.keepIn K (.ref f18) = true)
    (a19 : PySem.W.nsIn K mainGlobals "_law_sx_shuffled" = some (some (.ref f19))) (l19 : K.lookup f19 = some ⟨oc19, od19, .func (PySem.W.fnOf "_law_sx_shuffled" "_law_sx_shuffled" (defArgs s__law_sx_shuffled) (defBody s__law_sx_shuffled) (defScope s__law_sx_shuffled) .none kV19 dc19 pm19 an19 cd19 ct19), sl19⟩) (c19 : PySem.W.codeIn K cd19 "_law_sx_shuffled" = true) (k19 : PySem.W.keepIn K (.ref f19) = true)
    (a20 : PySem.W.nsIn K mainGlobals "_law_sx_least" = some (some (.ref f20))) (l20 : K.lookup f20 = some ⟨oc20, od20, .func (PySem.W.fnOf "_law_sx_least" "_law_sx_least" (defArgs s__law_sx_least) (defBody s__law_sx_least) (defScope s__law_sx_least) .none kV20 dc20 pm20 an20 cd20 ct20), sl20⟩) (c20 : PySem.W.codeIn K cd20 "_law_sx_least" = true) (k20 : PySem.W.keepIn K (.ref f20) = true)
    (a21 : PySem.W.nsIn K mainGlobals "_law_sx_effect" = some (some (.ref f21))) (l21 : K.lookup f21 = some ⟨oc21, od21, .func (PySem.W.fnOf "_law_sx_effect" "_law_sx_effect" (defArgs s__law_sx_effect) (defBody s__law_sx_effect) (defScope s__law_sx_effect) .none kV21 dc21 pm21 an21 cd21 ct21), sl21⟩) (c21 : PySem.W.codeIn K cd21 "_law_sx_effect" = true) (k21 : PySem.W.keepIn K (.ref f21) = true)
    (a22 : PySem.W.nsIn K mainGlobals "_law_sx_wide" = some (some (.ref f22))) (l22 : K.lookup f22 = some ⟨oc22, od22, .func (PySem.W.fnOf "_law_sx_wide" "_law_sx_wide" (defArgs s__law_sx_wide) (defBody s__law_sx_wide) (defScope s__law_sx_wide) .none kV22 dc22 pm22 an22 cd22 ct22), sl22⟩) (c22 : PySem.W.codeIn K cd22 "_law_sx_wide" = true) (k22 : PySem.W.keepIn K (.ref f22) = true)
    (a23 : PySem.W.nsIn K mainGlobals "_law_sx_do" = some (some (.ref f23))) (l23 : K.lookup f23 = some ⟨oc23, od23, .func (PySem.W.fnOf "_law_sx_do" "_law_sx_do" (defArgs s__law_sx_do) (defBody s__law_sx_do) (defScope s__law_sx_do) .none kV23 dc23 pm23 an23 cd23 ct23), sl23⟩) (c23 : PySem.W.codeIn K cd23 "_law_sx_do" = true) (k23 : PySem.W.keepIn K (.ref f23) = true)
    (a24 : PySem.W.nsIn K mainGlobals "_law_sx_copy" = some (some (.ref f24))) (l24 : K.lookup f24 = some ⟨oc24, od24, .func (PySem.W.fnOf "_law_sx_copy" "_law_sx_copy" (defArgs s__law_sx_copy) (defBody s__law_sx_copy) (defScope s__law_sx_copy) .none kV24 dc24 pm24 an24 cd24 ct24), sl24⟩) (c24 : PySem.W.codeIn K cd24 "_law_sx_copy" = true) (k24 : PySem.W.keepIn K (.ref f24) = true)
    (a25 : PySem.W.nsIn K mainGlobals "_law_sx_lists" = some (some (.ref f25))) (l25 : K.lookup f25 = some ⟨oc25, od25, .func (PySem.W.fnOf "_law_sx_lists" "_law_sx_lists" (defArgs s__law_sx_lists) (defBody s__law_sx_lists) (defScope s__law_sx_lists) .none kV25 dc25 pm25 an25 cd25 ct25), sl25⟩) (c25 : PySem.W.codeIn K cd25 "_law_sx_lists" = true) (k25 : PySem.W.keepIn K (.ref f25) = true)
    (a26 : PySem.W.nsIn K mainGlobals "_law_sx_alone" = some (some (.ref f26))) (l26 : K.lookup f26 = some ⟨oc26, od26, .func (PySem.W.fnOf "_law_sx_alone" "_law_sx_alone" (defArgs s__law_sx_alone) (defBody s__law_sx_alone) (defScope s__law_sx_alone) .none kV26 dc26 pm26 an26 cd26 ct26), sl26⟩) (c26 : PySem.W.codeIn K cd26 "_law_sx_alone" = true) (k26 : PySem.W.keepIn K (.ref f26) = true)
    (a27 : PySem.W.nsIn K mainGlobals "_law_sx_fits" = some (some (.ref f27))) (l27 : K.lookup f27 = some ⟨oc27, od27, .func (PySem.W.fnOf "_law_sx_fits" "_law_sx_fits" (defArgs s__law_sx_fits) (defBody s__law_sx_fits) (defScope s__law_sx_fits) .none kV27 dc27 pm27 an27 cd27 ct27), sl27⟩) (c27 : PySem.W.codeIn K cd27 "_law_sx_fits" = true) (k27 : PySem.W.keepIn K (.ref f27) = true)
    (a28 : PySem.W.nsIn K mainGlobals "_law_sx_seen" = some (some (.ref f28))) (l28 : K.lookup f28 = some ⟨oc28, od28, .func (PySem.W.fnOf "_law_sx_seen" "_law_sx_seen" (defArgs s__law_sx_seen) (defBody s__law_sx_seen) (defScope s__law_sx_seen) .none kV28 dc28 pm28 an28 cd28 ct28), sl28⟩) (c28 : PySem.W.codeIn K cd28 "_law_sx_seen" = true) (k28 : PySem.W.keepIn K (.ref f28) = true)
    (a29 : PySem.W.nsIn K mainGlobals "_law_sx_course" = some (some (.ref f29))) (l29 : K.lookup f29 = some ⟨oc29, od29, .func (PySem.W.fnOf "_law_sx_course" "_law_sx_course" (defArgs s__law_sx_course) (defBody s__law_sx_course) (defScope s__law_sx_course) .none kV29 dc29 pm29 an29 cd29 ct29), sl29⟩) (c29 : PySem.W.codeIn K cd29 "_law_sx_course" = true) (k29 : PySem.W.keepIn K (.ref f29) = true)
    (a30 : PySem.W.nsIn K mainGlobals "_law_sx_way" = some (some (.ref f30))) (l30 : K.lookup f30 = some ⟨oc30, od30, .func (PySem.W.fnOf "_law_sx_way" "_law_sx_way" (defArgs s__law_sx_way) (defBody s__law_sx_way) (defScope s__law_sx_way) .none kV30 dc30 pm30 an30 cd30 ct30), sl30⟩) (c30 : PySem.W.codeIn K cd30 "_law_sx_way" = true) (k30 : PySem.W.keepIn K (.ref f30) = true)
    (a31 : PySem.W.nsIn K mainGlobals "_law_sx_often" = some (some (.ref f31))) (l31 : K.lookup f31 = some ⟨oc31, od31, .func (PySem.W.fnOf "_law_sx_often" "_law_sx_often" (defArgs s__law_sx_often) (defBody s__law_sx_often) (defScope s__law_sx_often) .none kV31 dc31 pm31 an31 cd31 ct31), sl31⟩) (c31 : PySem.W.codeIn K cd31 "_law_sx_often" = true) (k31 : PySem.W.keepIn K (.ref f31) = true)
    (a32 : PySem.W.nsIn K mainGlobals "_law_sx_drawn_course" = some (some (.ref f32))) (l32 : K.lookup f32 = some ⟨oc32, od32, .func (PySem.W.fnOf "_law_sx_drawn_course" "_law_sx_drawn_course" (defArgs s__law_sx_drawn_course) (defBody s__law_sx_drawn_course) (defScope s__law_sx_drawn_course) .none kV32 dc32 pm32 an32 cd32 ct32), sl32⟩) (c32 : PySem.W.codeIn K cd32 "_law_sx_drawn_course" = true) (k32 : PySem.W.keepIn K (.ref f32) = true)
    (a33 : PySem.W.nsIn K mainGlobals "_law_sx_right" = some (some (.ref f33))) (l33 : K.lookup f33 = some ⟨oc33, od33, .func (PySem.W.fnOf "_law_sx_right" "_law_sx_right" (defArgs s__law_sx_right) (defBody s__law_sx_right) (defScope s__law_sx_right) .none kV33 dc33 pm33 an33 cd33 ct33), sl33⟩) (c33 : PySem.W.codeIn K cd33 "_law_sx_right" = true) (k33 : PySem.W.keepIn K (.ref f33) = true)
    (a34 : PySem.W.nsIn K mainGlobals "law" = some (some (.ref f34))) (l34 : K.lookup f34 = some ⟨oc34, od34, .func (PySem.W.fnOf "law" "law" (defArgs s_law) (defBody s_law) (defScope s_law) .none kV34 dc34 pm34 an34 cd34 ct34), sl34⟩) (c34 : PySem.W.codeIn K cd34 "law" = true) (k34 : PySem.W.keepIn K (.ref f34) = true)
    (z0 : PySem.W.nsIn K mainGlobals "len" = some none)
    (z1 : PySem.W.nsIn K mainGlobals "range" = some none)
    (z2 : PySem.W.nsIn K mainGlobals "max" = some none)
    (z3 : PySem.W.nsIn K mainGlobals "min" = some none)
    (z4 : PySem.W.nsIn K mainGlobals "abs" = some none)
    (z5 : PySem.W.nsIn K mainGlobals "int" = some none)
    (z6 : PySem.W.nsIn K mainGlobals "list" = some none)
    (z7 : PySem.W.nsIn K mainGlobals "tuple" = some none)
    (z8 : PySem.W.nsIn K mainGlobals "repr" = some none)
    (z9 : PySem.W.nsIn K mainGlobals "all" = some none)
    (z10 : PySem.W.nsIn K mainGlobals "any" = some none)
    (z11 : PySem.W.nsIn K mainGlobals "sum" = some none)
    (z12 : PySem.W.nsIn K mainGlobals "sorted" = some none)
    (z13 : PySem.W.nsIn K mainGlobals "isinstance" = some none)
    (z14 : PySem.W.nsIn K mainGlobals "set" = some none)
    (z15 : PySem.W.nsIn K mainGlobals "enumerate" = some none)
    (z16 : PySem.W.nsIn K mainGlobals "zip" = some none)
    (z17 : PySem.W.nsIn K mainGlobals "str" = some none)
    (z18 : PySem.W.nsIn K mainGlobals "divmod" = some none)
    (z19 : PySem.W.nsIn K mainGlobals "dict" = some none)
    (z20 : PySem.W.nsIn K mainGlobals "bool" = some none)
    (z21 : PySem.W.nsIn K mainGlobals "reversed" = some none)
    : ∃ fd : FuncData, (∀ (s : Shared) (v : Value), BindsTo s fd ⟨[v], []⟩ [("_law_script", v)]) ∧ ∀ base : Heap, K.In base → base.Ns mainGlobals mg → FnG l.prog w K mg base CX0 63 fa fd ["_law_script"] (spLaw K) := by
  have e := hfa.symm.trans (PySem.W.mg_of X G a34)
  cases e
  exact ⟨PySem.W.fnOf "law" "law" (defArgs s_law) (defBody s_law) (defScope s_law) .none kV34 dc34 pm34 an34 cd34 ct34, fun s v => .of_eq rfl, fun base _ _ => ok_law (⟨⟨PySem.W.mg_none_of X G z0, PySem.W.mg_none_of X G z1, PySem.W.mg_none_of X G z2, PySem.W.mg_none_of X G z3, PySem.W.mg_none_of X G z4, PySem.W.mg_none_of X G z5, PySem.W.mg_none_of X G z6, PySem.W.mg_none_of X G z7, PySem.W.mg_none_of X G z8, PySem.W.mg_none_of X G z9, PySem.W.mg_none_of X G z10, PySem.W.mg_none_of X G z11, PySem.W.mg_none_of X G z12, PySem.W.mg_none_of X G z13, PySem.W.mg_none_of X G z14, PySem.W.mg_none_of X G z15, PySem.W.mg_none_of X G z16, PySem.W.mg_none_of X G z17, PySem.W.mg_none_of X G z18, PySem.W.mg_none_of X G z19, PySem.W.mg_none_of X G z20, PySem.W.mg_none_of X G z21⟩,
    f0, _, ⟨fun_mk (st := s_is_effect) l0 c0 k0, PySem.W.mg_of X G a0, (fun_mk (st := s_is_effect) l0 c0 k0).binds fun _ _ _ _ _ _ us hl => match us, hl with | [_], _ => rfl⟩,
    f1, _, ⟨fun_mk (st := s_least_of) l1 c1 k1, PySem.W.mg_of X G a1, (fun_mk (st := s_least_of) l1 c1 k1).binds fun _ _ _ _ _ _ us hl => match us, hl with | [_, _], _ => rfl⟩,
    f2, _, ⟨fun_mk (st := s_checked) l2 c2 k2, PySem.W.mg_of X G a2, (fun_mk (st := s_checked) l2 c2 k2).binds fun _ _ _ _ _ _ us hl => match us, hl with | [_], _ => rfl⟩,
    f3, _, ⟨fun_mk (st := s_join_of) l3 c3 k3, PySem.W.mg_of X G a3, (fun_mk (st := s_join_of) l3 c3 k3).binds fun _ _ _ _ _ _ us hl => match us, hl with | [_, _], _ => rfl⟩,
    f4, _, ⟨fun_mk (st := s_power_of) l4 c4 k4, PySem.W.mg_of X G a4, (fun_mk (st := s_power_of) l4 c4 k4).binds fun _ _ _ _ _ _ us hl => match us, hl with | [_, _], _ => rfl⟩,
    f5, _, ⟨fun_mk (st := s_shifted) l5 c5 k5, PySem.W.mg_of X G a5, (fun_mk (st := s_shifted) l5 c5 k5).binds fun _ _ _ _ _ _ us hl => match us, hl with | [_, _], _ => rfl⟩,
    f6, _, ⟨fun_mk (st := s_goes_on) l6 c6 k6, PySem.W.mg_of X G a6, (fun_mk (st := s_goes_on) l6 c6 k6).binds fun _ _ _ _ _ _ us hl => match us, hl with | [_, _, _], _ => rfl⟩,
    f7, _, ⟨fun_mk (st := s_told_way) l7 c7 k7, PySem.W.mg_of X G a7, (fun_mk (st := s_told_way) l7 c7 k7).binds fun _ _ _ _ _ _ us hl => match us, hl with | [_, _, _, _], _ => rfl⟩,
    f8, _, ⟨fun_mk (st := s_comes_again) l8 c8 k8, PySem.W.mg_of X G a8, (fun_mk (st := s_comes_again) l8 c8 k8).binds fun _ _ _ _ _ _ us hl => match us, hl with | [_], _ => rfl⟩,
    f9, _, ⟨fun_mk (st := s_checked_course) l9 c9 k9, PySem.W.mg_of X G a9, (fun_mk (st := s_checked_course) l9 c9 k9).binds fun _ _ _ _ _ _ us hl => match us, hl with | [_], _ => rfl⟩,
    f10, _, ⟨fun_mk (st := s_effect_of_course) l10 c10 k10, PySem.W.mg_of X G a10, (fun_mk (st := s_effect_of_course) l10 c10 k10).binds fun _ _ _ _ _ _ us hl => match us, hl with | [_, _], _ => rfl⟩,
    f11, _, ⟨fun_mk (st := s_comes_round) l11 c11 k11, PySem.W.mg_of X G a11, (fun_mk (st := s_comes_round) l11 c11 k11).binds fun _ _ _ _ _ _ us hl => match us, hl with | [_], _ => rfl⟩,
    f12, _, ⟨fun_mk (st := s_turns_all) l12 c12 k12, PySem.W.mg_of X G a12, (fun_mk (st := s_turns_all) l12 c12 k12).binds fun _ _ _ _ _ _ us hl => match us, hl with | [_, _], _ => rfl⟩,
    f13, _, ⟨fun_mk (st := s_mark_way) l13 c13 k13, PySem.W.mg_of X G a13, (fun_mk (st := s_mark_way) l13 c13 k13).binds fun _ _ _ _ _ _ us hl => match us, hl with | [_, _], _ => rfl⟩,
    f14, _, ⟨fun_mk (st := s_course_power) l14 c14 k14, PySem.W.mg_of X G a14, (fun_mk (st := s_course_power) l14 c14 k14).binds fun _ _ _ _ _ _ us hl => match us, hl with | [_, _], _ => rfl⟩,
    f15, _, ⟨fun_mk (st := s_only_time) l15 c15 k15, PySem.W.mg_of X G a15, (fun_mk (st := s_only_time) l15 c15 k15).binds fun _ _ _ _ _ _ us hl => match us, hl with | [_, _], _ => rfl⟩,
    f16, _, ⟨fun_mk (st := s_often) l16 c16 k16, PySem.W.mg_of X G a16, (fun_mk (st := s_often) l16 c16 k16).binds fun _ _ _ _ _ _ us hl => match us, hl with | [_, _], _ => rfl⟩,
    f17, _, ⟨fun_mk (st := s__law_sx_sack) l17 c17 k17, PySem.W.mg_of X G a17, (fun_mk (st := s__law_sx_sack) l17 c17 k17).binds fun _ _ _ _ _ _ us hl => match us, hl with | [_, _], _ => rfl⟩,
    f18, _, ⟨fun_mk (st := s__law_sx_pick) l18 c18 k18, PySem.W.mg_of X G a18, (fun_mk (st := s__law_sx_pick) l18 c18 k18).binds fun _ _ _ _ _ _ us hl => match us, hl with | [_, _], _ => rfl⟩,
    f19, _, ⟨fun_mk (st := s__law_sx_shuffled) l19 c19 k19, PySem.W.mg_of X G a19, (fun_mk (st := s__law_sx_shuffled) l19 c19 k19).binds fun _ _ _ _ _ _ us hl => match us, hl with | [_, _], _ => rfl⟩,
    f20, _, ⟨fun_mk (st := s__law_sx_least) l20 c20 k20, PySem.W.mg_of X G a20, (fun_mk (st := s__law_sx_least) l20 c20 k20).binds fun _ _ _ _ _ _ us hl => match us, hl with | [_, _], _ => rfl⟩,
    f21, _, ⟨fun_mk (st := s__law_sx_effect) l21 c21 k21, PySem.W.mg_of X G a21, (fun_mk (st := s__law_sx_effect) l21 c21 k21).binds fun _ _ _ _ _ _ us hl => match us, hl with | [_, _, _], _ => rfl⟩,
    f22, _, ⟨fun_mk (st := s__law_sx_wide) l22 c22 k22, PySem.W.mg_of X G a22, (fun_mk (st := s__law_sx_wide) l22 c22 k22).binds fun _ _ _ _ _ _ us hl => match us, hl with | [_, _], _ => rfl⟩,
    f23, _, ⟨fun_mk (st := s__law_sx_do) l23 c23 k23, PySem.W.mg_of X G a23, (fun_mk (st := s__law_sx_do) l23 c23 k23).binds fun _ _ _ _ _ _ us hl => match us, hl with | [_, _], _ => rfl⟩,
    f24, _, ⟨fun_mk (st := s__law_sx_copy) l24 c24 k24, PySem.W.mg_of X G a24, (fun_mk (st := s__law_sx_copy) l24 c24 k24).binds fun _ _ _ _ _ _ us hl => match us, hl with | [_], _ => rfl⟩,
    f25, _, ⟨fun_mk (st := s__law_sx_lists) l25 c25 k25, PySem.W.mg_of X G a25, (fun_mk (st := s__law_sx_lists) l25 c25 k25).binds fun _ _ _ _ _ _ us hl => match us, hl with | [_], _ => rfl⟩,
    f26, _, ⟨fun_mk (st := s__law_sx_alone) l26 c26 k26, PySem.W.mg_of X G a26, (fun_mk (st := s__law_sx_alone) l26 c26 k26).binds fun _ _ _ _ _ _ us hl => match us, hl with | [_, _], _ => rfl⟩,
    f27, _, ⟨fun_mk (st := s__law_sx_fits) l27 c27 k27, PySem.W.mg_of X G a27, (fun_mk (st := s__law_sx_fits) l27 c27 k27).binds fun _ _ _ _ _ _ us hl => match us, hl with | [_, _], _ => rfl⟩,
    f28, _, ⟨fun_mk (st := s__law_sx_seen) l28 c28 k28, PySem.W.mg_of X G a28, (fun_mk (st := s__law_sx_seen) l28 c28 k28).binds fun _ _ _ _ _ _ us hl => match us, hl with | [_, _, _, _], _ => rfl⟩,
    f29, _, ⟨fun_mk (st := s__law_sx_course) l29 c29 k29, PySem.W.mg_of X G a29, (fun_mk (st := s__law_sx_course) l29 c29 k29).binds fun _ _ _ _ _ _ us hl => match us, hl with | [_, _], _ => rfl⟩,
    f30, _, ⟨fun_mk (st := s__law_sx_way) l30 c30 k30, PySem.W.mg_of X G a30, (fun_mk (st := s__law_sx_way) l30 c30 k30).binds fun _ _ _ _ _ _ us hl => match us, hl with | [_, _], _ => rfl⟩,
    f31, _, ⟨fun_mk (st := s__law_sx_often) l31 c31 k31, PySem.W.mg_of X G a31, (fun_mk (st := s__law_sx_often) l31 c31 k31).binds fun _ _ _ _ _ _ us hl => match us, hl with | [_, _], _ => rfl⟩,
    f32, _, ⟨fun_mk (st := s__law_sx_drawn_course) l32 c32 k32, PySem.W.mg_of X G a32, (fun_mk (st := s__law_sx_drawn_course) l32 c32 k32).binds fun _ _ _ _ _ _ us hl => match us, hl with | [_], _ => rfl⟩,
    f33, _, ⟨fun_mk (st := s__law_sx_right) l33 c33 k33, PySem.W.mg_of X G a33, (fun_mk (st := s__law_sx_right) l33 c33 k33).binds fun _ _ _ _ _ _ us hl => match us, hl with | [_], _ => rfl⟩,
    fa, _, ⟨fun_mk (st := s_law) l34 c34 k34, PySem.W.mg_of X G a34, (fun_mk (st := s_law) l34 c34 k34).binds fun _ _ _ _ _ _ us hl => match us, hl with | [_], _ => rfl⟩⟩ : Prog K mg)⟩
end
end My
open PySem PySem.W PyProof.Rows
set_option maxHeartbeats 0 in
theorem PySem.Challenge.cw_pileshifts_k41_how_often_a_course_was_do_holds : PySem.Challenge.rw_pileshifts_k41_how_often_a_course_was_do.Holds := by
  w_on; o_law; k_head; (case hw => w_witness2)
  k_fill
  refine G.walk_ofG (l := PySem.Challenge.rw_pileshifts_k41_how_often_a_course_was_do) (n := 63) (k := 63) (x := "_law_script") (CX := fun _ => L2.CX0) (sp := fun w => My.spLaw _) rfl (by decide) rfl ⟨rfl, by decide, by decide⟩ (fun w h Y => PySem.W.kIn_of Y) ?F (fun _ _ a ns hl hb _ hS => ⟨a, ns, rfl, hS, hl, hb, fun _ => rfl⟩) (fun _ _ _ _ _ h => h)
  case F =>
    intro w mg fa h KX G hmg
    refine' My.all_mk KX G hmg ?a0 ?l0 ?c0 ?k0 ?a1 ?l1 ?c1 ?k1 ?a2 ?l2 ?c2 ?k2 ?a3 ?l3 ?c3 ?k3 ?a4 ?l4 ?c4 ?k4 ?a5 ?l5 ?c5 ?k5 ?a6 ?l6 ?c6 ?k6 ?a7 ?l7 ?c7 ?k7 ?a8 ?l8 ?c8 ?k8 ?a9 ?l9 ?c9 ?k9 ?a10 ?l10 ?c10 ?k10 ?a11 ?l11 ?c11 ?k11 ?a12 ?l12 ?c12 ?k12 ?a13 ?l13 ?c13 ?k13 ?a14 ?l14 ?c14 ?k14 ?a15 ?l15 ?c15 ?k15 ?a16 ?l16 ?c16 ?k16 ?a17 ?l17 ?c17 ?k17 ?a18 ?l18 ?c18 ?k18 ?a19 ?l19 ?c19 ?k19 ?a20 ?l20 ?c20 ?k20 ?a21 ?l21 ?c21 ?k21 ?a22 ?l22 ?c22 ?k22 ?a23 ?l23 ?c23 ?k23 ?a24 ?l24 ?c24 ?k24 ?a25 ?l25 ?c25 ?k25 ?a26 ?l26 ?c26 ?k26 ?a27 ?l27 ?c27 ?k27 ?a28 ?l28 ?c28 ?k28 ?a29 ?l29 ?c29 ?k29 ?a30 ?l30 ?c30 ?k30 ?a31 ?l31 ?c31 ?k31 ?a32 ?l32 ?c32 ?k32 ?a33 ?l33 ?c33 ?k33 ?a34 ?l34 ?c34 ?k34 ?z0 ?z1 ?z2 ?z3 ?z4 ?z5 ?z6 ?z7 ?z8 ?z9 ?z10 ?z11 ?z12 ?z13 ?z14 ?z15 ?z16 ?z17 ?z18 ?z19 ?z20 ?z21
    (case a0 => k_is)
    (case l0 => k_is)
    (case c0 => k_is)
    (case k0 => k_is)
    (case a1 => k_is)
    (case l1 => k_is)
    (case c1 => k_is)
    (case k1 => k_is)
    (case a2 => k_is)
    (case l2 => k_is)
    (case c2 => k_is)
    (case k2 => k_is)
    (case a3 => k_is)
    (case l3 => k_is)
    (case c3 => k_is)
    (case k3 => k_is)
    (case a4 => k_is)
    (case l4 => k_is)
    (case c4 => k_is)
    (case k4 => k_is)
    (case a5 => k_is)
    (case l5 => k_is)
    (case c5 => k_is)
    (case k5 => k_is)
    (case a6 => k_is)
    (case l6 => k_is)
    (case c6 => k_is)
    (case k6 => k_is)
    (case a7 => k_is)
    (case l7 => k_is)
    (case c7 => k_is)
    (case k7 => k_is)
    (case a8 => k_is)
    (case l8 => k_is)
    (case c8 => k_is)
    (case k8 => k_is)
    (case a9 => k_is)
    (case l9 => k_is)
    (case c9 => k_is)
    (case k9 => k_is)
    (case a10 => k_is)
    (case l10 => k_is)
    (case c10 => k_is)
    (case k10 => k_is)
    (case a11 => k_is)
    (case l11 => k_is)
    (case c11 => k_is)
    (case k11 => k_is)
    (case a12 => k_is)
    (case l12 => k_is)
    (case c12 => k_is)
    (case k12 => k_is)
    (case a13 => k_is)
    (case l13 => k_is)
    (case c13 => k_is)
    (case k13 => k_is)
    (case a14 => k_is)
    (case l14 => k_is)
    (case c14 => k_is)
    (case k14 => k_is)
    (case a15 => k_is)
    (case l15 => k_is)
    (case c15 => k_is)
    (case k15 => k_is)
    (case a16 => k_is)
    (case l16 => k_is)
    (case c16 => k_is)
    (case k16 => k_is)
    (case a17 => k_is)
    (case l17 => k_is)
    (case c17 => k_is)
    (case k17 => k_is)
    (case a18 => k_is)
    (case l18 => k_is)
    (case c18 => k_is)
    (case k18 => k_is)
    (case a19 => k_is)
    (case l19 => k_is)
    (case c19 => k_is)
    (case k19 => k_is)
    (case a20 => k_is)
    (case l20 => k_is)
    (case c20 => k_is)
    (case k20 => k_is)
    (case a21 => k_is)
    (case l21 => k_is)
    (case c21 => k_is)
    (case k21 => k_is)
    (case a22 => k_is)
    (case l22 => k_is)
    (case c22 => k_is)
    (case k22 => k_is)
    (case a23 => k_is)
    (case l23 => k_is)
    (case c23 => k_is)
    (case k23 => k_is)
    (case a24 => k_is)
    (case l24 => k_is)
    (case c24 => k_is)
    (case k24 => k_is)
    (case a25 => k_is)
    (case l25 => k_is)
    (case c25 => k_is)
    (case k25 => k_is)
    (case a26 => k_is)
    (case l26 => k_is)
    (case c26 => k_is)
    (case k26 => k_is)
    (case a27 => k_is)
    (case l27 => k_is)
    (case c27 => k_is)
    (case k27 => k_is)
    (case a28 => k_is)
    (case l28 => k_is)
    (case c28 => k_is)
    (case k28 => k_is)
    (case a29 => k_is)
    (case l29 => k_is)
    (case c29 => k_is)
    (case k29 => k_is)
    (case a30 => k_is)
    (case l30 => k_is)
    (case c30 => k_is)
    (case k30 => k_is)
    (case a31 => k_is)
    (case l31 => k_is)
    (case c31 => k_is)
    (case k31 => k_is)
    (case a32 => k_is)
    (case l32 => k_is)
    (case c32 => k_is)
    (case k32 => k_is)
    (case a33 => k_is)
    (case l33 => k_is)
    (case c33 => k_is)
    (case k33 => k_is)
    (case a34 => k_is)
    (case l34 => k_is)
    (case c34 => k_is)
    (case k34 => k_is)
    (case z0 => k_is)
    (case z1 => k_is)
    (case z2 => k_is)
    (case z3 => k_is)
    (case z4 => k_is)
    (case z5 => k_is)
    (case z6 => k_is)
    (case z7 => k_is)
    (case z8 => k_is)
    (case z9 => k_is)
    (case z10 => k_is)
    (case z11 => k_is)
    (case z12 => k_is)
    (case z13 => k_is)
    (case z14 => k_is)
    (case z15 => k_is)
    (case z16 => k_is)
    (case z17 => k_is)
    (case z18 => k_is)
    (case z19 => k_is)
    (case z20 => k_is)
    (case z21 => k_is)
