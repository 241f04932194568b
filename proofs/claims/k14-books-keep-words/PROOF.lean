import PyProof.Rows.All
import Wide.All
import OpenK.AllK
import Wide.FinOn
import HandS.ForMost
import HandS.Wide
import HandS.WideBits
import KE.BitLaws
import HandS.EndBits
import HandS.Conv
import HandS.SetFor
import HandS.Codes
import HandS.IsInst
import HandS.Dict
import PyProof.DictTruth
import PyProof.DictKeyH
import PyProof.P3In
import PyProof.Rows.SetFrom
import HandS.Zip
import HandS.SortKw
import KE.DatumOrd
import PyProof.StrLawsRepr
import HandS.More
import HandS.TryMany
import KE.KDictZip
import PyProof.EnumMake
import PyProof.EnumFor
import HandS.ExcIs
import KE.KExcIs
import HandS.Exc
import HandS.ExcOwn
import HandS.ExcInit
import HandS.ExcField
import HandS.WordsExc
import HandS.TryOnly
import HandS.NoneIn
import HandS.Style
import PyProof.ReprRoads
import PyProof.ReprLen
import PyProof.MaxThree
import KE.SortData
import HandS.Property
import HandS.MakeKw
import HandS.DictComp
import HandS.Star
import HandS.NamedTupSort
import PyProof.InstEq
import PyProof.InstNe
import PyProof.CompUse
import PySem.Challenge.RW_pileshifts_k14_books_keep_words
set_option Elab.async false
set_option linter.all false
set_option maxRecDepth 100000
set_option maxHeartbeats 4000000
namespace G
open PySem PySem.Spec PyProof.Rows L2
abbrev D := PyData
/-- no tuple -/
def NT : HO → Prop
  | .tup _ => False
  | .xd _ => False
  | _ => True
def dOf : Key → D
  | .inl i => .int i
  | .inr x => .str x
/-- what holds values: an instance with its fields, a dict with its keys -/
inductive Bx (H : Hp) (a : Addr) : D → List V → Prop
  | ins {C dx : Addr} {ns : List Str} {vs : List V} : H a = some (.ins C dx (ns.zip vs)) → ns.length = vs.length → Bx H a (.tuple (.int C :: ns.map PyData.str)) vs
  | dK {ks : List Key} {vs : List V} : H a = some (.dK (ks.zip vs)) → ks.length = vs.length → Bx H a (.list (ks.map dOf)) vs
theorem Bx.mono {H H' : Hp} {a : Addr} {t : D} {vs : List V} (h : Bx H a t vs) (k : ∀ o, H a = some o → H' a = some o) : Bx H' a t vs := by
  cases h with
  | ins e l => exact .ins (k _ e) l
  | dK e l => exact .dK (k _ e) l
theorem Bx.dom {H : Hp} {a : Addr} {t : D} {vs : List V} (h : Bx H a t vs) : ∃ o, H a = some o ∧ NT o := by
  cases h with
  | ins e _ => exact ⟨_, e, True.intro⟩
  | dK e _ => exact ⟨_, e, True.intro⟩
theorem zip_inj {α β : Type} {ns ms : List α} {vs us : List β} (h : ns.length = vs.length) (k : ms.length = us.length) (e : ns.zip vs = ms.zip us) : ns = ms ∧ vs = us := by
  have a := congrArg (List.map (·.1)) e
  have b := congrArg (List.map (·.2)) e
  rw [List.map_fst_zip (by omega), List.map_fst_zip (by omega)] at a
  rw [List.map_snd_zip (by omega), List.map_snd_zip (by omega)] at b
  exact ⟨a, b⟩
theorem Bx.uniq {H : Hp} {a : Addr} {t t' : D} {vs us : List V} (h : Bx H a t vs) (k : Bx H a t' us) : t = t' ∧ vs = us := by
  cases h with
  | ins e l =>
    cases k with
    | ins e' l' =>
      rw [e] at e'
      simp only [Option.some.injEq, HO.ins.injEq] at e'
      obtain ⟨rfl, _, z⟩ := e'
      obtain ⟨rfl, rfl⟩ := zip_inj l l' z
      exact ⟨rfl, rfl⟩
    | dK e' _ => rw [e] at e'; cases e'
  | dK e l =>
    cases k with
    | ins e' _ => rw [e] at e'; cases e'
    | dK e' l' =>
      rw [e] at e'
      simp only [Option.some.injEq, HO.dK.injEq] at e'
      obtain ⟨rfl, rfl⟩ := zip_inj l l' e'
      exact ⟨rfl, rfl⟩
mutual
inductive Rep (H : Hp) : List Addr → V → D → Prop
  | non : Rep H [] .non .none
  | bl (b : Bool) : Rep H [] (.bl b) (.bool b)
  | int (i : Int) : Rep H [] (.int i) (.int i)
  | str (x : Str) : Rep H [] (.str x) (.str x)
  | lst {a : Addr} {vs : List V} {S : List Addr} {ds : List D} : H a = some (.lst vs) → Reps H S vs ds → Rep H (a :: S) (.ref a) (.list ds)
  | tup {a : Addr} {vs : List V} {S : List Addr} {ds : List D} : H a = some (.tup vs) → Reps H S vs ds → Rep H S (.ref a) (.tuple ds)
  | box {a : Addr} {t : D} {vs : List V} {S : List Addr} {ds : List D} : Bx H a t vs → Reps H S vs ds → Rep H (a :: S) (.ref a) (.dict [(t, .list ds)])
inductive Reps (H : Hp) : List Addr → List V → List D → Prop
  | nil : Reps H [] [] []
  | cons {S T : List Addr} {v : V} {vs : List V} {d : D} {ds : List D} : Rep H S v d → Reps H T vs ds → Reps H (S ++ T) (v :: vs) (d :: ds)
end
section
variable {H H' : Hp}
mutual
theorem Rep.mono (ht : ∀ t vs, H t = some (.tup vs) → H' t = some (.tup vs)) : ∀ (d : D) (S : List Addr) (v : V), Rep H S v d → (∀ a ∈ S, ∀ o, H a = some o → H' a = some o) → Rep H' S v d
  | .none, _, _, h, _ => by cases h; exact .non
  | .bool b, _, _, h, _ => by cases h; exact .bl b
  | .int i, _, _, h, _ => by cases h; exact .int i
  | .str x, _, _, h, _ => by cases h; exact .str x
  | .list ds, _, _, h, k => by
    cases h with
    | lst h1 h2 => exact .lst (k _ List.mem_cons_self _ h1) (Reps.mono ht ds _ _ h2 fun a ha => k a (List.mem_cons_of_mem _ ha))
  | .tuple ds, _, _, h, k => by
    cases h with
    | tup h1 h2 => exact .tup (ht _ _ h1) (Reps.mono ht ds _ _ h2 k)
  | .dict _, _, _, h, k => by
    cases h with
    | box h1 h2 => exact .box (h1.mono (k _ List.mem_cons_self)) (Reps.mono ht _ _ _ h2 fun a ha => k a (List.mem_cons_of_mem _ ha))
theorem Reps.mono (ht : ∀ t vs, H t = some (.tup vs) → H' t = some (.tup vs)) : ∀ (ds : List D) (S : List Addr) (vs : List V), Reps H S vs ds → (∀ a ∈ S, ∀ o, H a = some o → H' a = some o) → Reps H' S vs ds
  | [], _, _, h, _ => by cases h; exact .nil
  | d :: ds, _, _, h, k => by
    cases h with
    | cons h1 h2 => exact .cons (Rep.mono ht d _ _ h1 fun a ha => k a (List.mem_append_left _ ha)) (Reps.mono ht ds _ _ h2 fun a ha => k a (List.mem_append_right _ ha))
end
mutual
/-- the lists of a tree stand in the heap -/
theorem Rep.domN : ∀ (d : D) (S : List Addr) (v : V), Rep H S v d → ∀ a ∈ S, ∃ o, H a = some o ∧ NT o
  | .none, _, _, h => by cases h; intro a z; cases z
  | .bool b, _, _, h => by cases h; intro a z; cases z
  | .int i, _, _, h => by cases h; intro a z; cases z
  | .str x, _, _, h => by cases h; intro a z; cases z
  | .list ds, _, _, h => by
    cases h with
    | lst h1 h2 =>
      intro a z
      rcases List.mem_cons.mp z with rfl | z
      · exact ⟨_, h1, True.intro⟩
      · exact Reps.domN ds _ _ h2 a z
  | .tuple ds, _, _, h => by
    cases h with
    | tup h1 h2 => exact Reps.domN ds _ _ h2
  | .dict _, _, _, h => by
    cases h with
    | box h1 h2 =>
      intro a z
      rcases List.mem_cons.mp z with rfl | z
      · exact h1.dom
      · exact Reps.domN _ _ _ h2 a z
theorem Reps.domN : ∀ (ds : List D) (S : List Addr) (vs : List V), Reps H S vs ds → ∀ a ∈ S, ∃ o, H a = some o ∧ NT o
  | [], _, _, h => by cases h; intro a z; cases z
  | d :: ds, _, _, h => by
    cases h with
    | cons h1 h2 =>
      intro a z
      rcases List.mem_append.mp z with z | z
      · exact Rep.domN d _ _ h1 a z
      · exact Reps.domN ds _ _ h2 a z
end
theorem Rep.dom (d : D) (S : List Addr) (v : V) (h : Rep H S v d) : ∀ a ∈ S, ∃ o, H a = some o := fun a m => let ⟨o, e, _⟩ := Rep.domN d S v h a m; ⟨o, e⟩
theorem Reps.dom (ds : List D) (S : List Addr) (vs : List V) (h : Reps H S vs ds) : ∀ a ∈ S, ∃ o, H a = some o := fun a m => let ⟨o, e, _⟩ := Reps.domN ds S vs h a m; ⟨o, e⟩
mutual
/-- read by the layer's own words -/
theorem Rep.dp (K : PySem.W.Frag) : ∀ (d : D) (S : List Addr) (v : V), Rep H S v d → d.hasDict = false → Dp K H v d
  | .none, _, _, h, _ => by cases h; exact .non
  | .bool b, _, _, h, _ => by cases h; exact .bl b
  | .int i, _, _, h, _ => by cases h; exact .int i
  | .str x, _, _, h, _ => by cases h; exact .str x
  | .list ds, _, _, h, q => by
    cases h with
    | lst h1 h2 => exact .lst (SqL.of h1) (Reps.dp K ds _ _ h2 (by simpa [PyData.hasDict] using q))
  | .tuple ds, _, _, h, q => by
    cases h with
    | tup h1 h2 => exact .tup (SqT.of h1) (Reps.dp K ds _ _ h2 (by simpa [PyData.hasDict] using q))
  | .dict _, _, _, h, q => by simp [PyData.hasDict] at q
theorem Reps.dp (K : PySem.W.Frag) : ∀ (ds : List D) (S : List Addr) (vs : List V), Reps H S vs ds → PyData.hasDictAll ds = false → DpAll K H vs ds
  | [], _, _, h, _ => by cases h; exact .nil
  | d :: ds, _, _, h, q => by
    have q' : d.hasDict = false ∧ PyData.hasDictAll ds = false := by simpa [PyData.hasDictAll] using q
    cases h with
    | cons h1 h2 => exact .cons (Rep.dp K d _ _ h1 q'.1) (Reps.dp K ds _ _ h2 q'.2)
end
theorem Reps.length : ∀ {ds : List D} {S : List Addr} {vs : List V}, Reps H S vs ds → vs.length = ds.length
  | [], _, _, h => by cases h; rfl
  | d :: ds, _, _, h => by
    cases h with
    | cons h1 h2 => simp [Reps.length h2]
theorem Reps.append : ∀ {ds es : List D} {S T : List Addr} {vs us : List V}, Reps H S vs ds → Reps H T us es → Reps H (S ++ T) (vs ++ us) (ds ++ es)
  | [], _, _, _, _, _, h, k => by cases h; exact k
  | d :: ds, _, _, _, _, _, h, k => by
    cases h with
    | cons h1 h2 =>
      have q := Reps.cons h1 (Reps.append h2 k)
      rw [← List.append_assoc] at q
      exact q
theorem Reps.split : ∀ {ds es : List D} {S : List Addr} {us : List V}, Reps H S us (ds ++ es) → ∃ S1 S2 u1 u2, S = S1 ++ S2 ∧ us = u1 ++ u2 ∧ Reps H S1 u1 ds ∧ Reps H S2 u2 es
  | [], _, S, us, h => ⟨[], S, [], us, rfl, rfl, .nil, h⟩
  | d :: ds, _, _, _, h => by
    cases h with
    | cons h1 h2 =>
      obtain ⟨S1, S2, u1, u2, rfl, rfl, a, b⟩ := Reps.split h2
      exact ⟨_, S2, _, u2, (List.append_assoc ..).symm, rfl, .cons h1 a, b⟩
theorem Reps.intsR : ∀ (ns : List Int), Reps H [] (ns.map V.int) (ns.map PyData.int)
  | [] => .nil
  | n :: ns => .cons (S := []) (.int n) (Reps.intsR ns)
theorem Reps.intsInv : ∀ {ns : List Int} {S : List Addr} {vs : List V}, Reps H S vs (ns.map PyData.int) → S = [] ∧ vs = ns.map V.int
  | [], _, _, h => by cases h; exact ⟨rfl, rfl⟩
  | n :: ns, _, _, h => by
    cases h with
    | cons h1 h2 =>
      cases h1
      obtain ⟨rfl, rfl⟩ := Reps.intsInv h2
      exact ⟨rfl, rfl⟩
/-- one item -/
theorem Reps.get : ∀ {ds : List D} {S : List Addr} {vs : List V} {i : Nat} {d : D}, Reps H S vs ds → ds[i]? = some d → ∃ v T, vs[i]? = some v ∧ Rep H T v d ∧ ∀ a ∈ T, a ∈ S
  | [], _, _, _, _, _, e => by simp at e
  | d :: ds, _, _, 0, _, h, e => by
    cases h with
    | cons h1 h2 =>
      simp at e
      subst e
      exact ⟨_, _, rfl, h1, fun a z => List.mem_append_left _ z⟩
  | d :: ds, _, _, i + 1, _, h, e => by
    cases h with
    | cons h1 h2 =>
      obtain ⟨v, T, e1, r, s⟩ := Reps.get (i := i) h2 (by simpa using e)
      exact ⟨v, T, by simpa using e1, r, fun a z => List.mem_append_right _ (s a z)⟩
end
/-- a list of ints as data -/
abbrev dI (ns : List Int) : D := .list (ns.map PyData.int)
/-- a new tree: its lists are all new, each once -/
def New (H H' : Hp) (v : V) (d : D) : Prop := ∃ S, Rep H' S v d ∧ S.Nodup ∧ ∀ a ∈ S, H a = none
/-- three whole numbers, the last one (how many draws so far) at most b -/
def PuAt (H : Hp) (p : Addr) (b : Int) : Prop := ∃ x y z : Int, H p = some (.lst [.int x, .int y, .int z]) ∧ 0 ≤ y ∧ y < 10 ^ 25 ∧ 0 ≤ z ∧ z ≤ b
theorem PuAt.le {H : Hp} {p : Addr} {b c : Int} (h : PuAt H p b) (k : b ≤ c) : PuAt H p c := by
  obtain ⟨x, y, z, h1, h2, h3, h4, h5⟩ := h
  exact ⟨x, y, z, h1, h2, h3, h4, by omega⟩
/-- H0: the heap at the entry; M: its one list that may be changed; pu: the purse and a bound on its draws; Fz: trees that stay; Ow: trees whose lists each stand in one place alone, and may change; Tp: tuples -/
def St (H0 : Hp) (M : Option Addr) (pu : Option (Addr × Int)) (Fz Ow : List (V × D)) (Tp : List (Addr × List V)) (H : Hp) : Prop :=
  ∃ (Z : Addr → Prop) (S : List Addr),
    (∀ a o, H0 a = some o → some a ≠ M → Z a ∧ H a = some o) ∧
    (∀ x ∈ Fz, ∃ T, Rep H T x.1 x.2 ∧ ∀ a ∈ T, Z a) ∧
    Reps H S (Ow.map (·.1)) (Ow.map (·.2)) ∧ S.Nodup ∧ (∀ a ∈ S, ¬ Z a ∧ some a ≠ M) ∧
    (∀ x ∈ Tp, H x.1 = some (.tup x.2)) ∧
    (∀ p b, pu = some (p, b) → PuAt H p b ∧ ¬ Z p ∧ p ∉ S) ∧ (∀ a, Z a ∨ M = some a → ∃ o, H a = some o)
/-- pick one out of a list -/
inductive Pick {α : Type} (x : α) : List α → List α → Prop
  | hd {l : List α} : Pick x (x :: l) l
  | tl {y : α} {l l' : List α} : Pick x l l' → Pick x (y :: l) (y :: l')
/-- readable: v is the tree d -/
inductive Rdb (Fz Ow : List (V × D)) (Tp : List (Addr × List V)) : V → D → Prop
  | non : Rdb Fz Ow Tp .non .none
  | bl (b : Bool) : Rdb Fz Ow Tp (.bl b) (.bool b)
  | int (i : Int) : Rdb Fz Ow Tp (.int i) (.int i)
  | str (x : Str) : Rdb Fz Ow Tp (.str x) (.str x)
  | fz {v : V} {d : D} : (v, d) ∈ Fz → Rdb Fz Ow Tp v d
  | ow {v : V} {d : D} : (v, d) ∈ Ow → Rdb Fz Ow Tp v d
  | tp0 {t : Addr} : (t, []) ∈ Tp → Rdb Fz Ow Tp (.ref t) (.tuple [])
  | tp1 {t : Addr} {v1 : V} {d1 : D} : (t, [v1]) ∈ Tp → Rdb Fz Ow Tp v1 d1 → Rdb Fz Ow Tp (.ref t) (.tuple [d1])
  | tp2 {t : Addr} {v1 v2 : V} {d1 d2 : D} : (t, [v1, v2]) ∈ Tp → Rdb Fz Ow Tp v1 d1 → Rdb Fz Ow Tp v2 d2 → Rdb Fz Ow Tp (.ref t) (.tuple [d1, d2])
  | tp3 {t : Addr} {v1 v2 v3 : V} {d1 d2 d3 : D} : (t, [v1, v2, v3]) ∈ Tp → Rdb Fz Ow Tp v1 d1 → Rdb Fz Ow Tp v2 d2 → Rdb Fz Ow Tp v3 d3 → Rdb Fz Ow Tp (.ref t) (.tuple [d1, d2, d3])
inductive Rdbs (Fz Ow : List (V × D)) (Tp : List (Addr × List V)) : List V → List D → Prop
  | nil : Rdbs Fz Ow Tp [] []
  | cons {v : V} {vs : List V} {d : D} {ds : List D} : Rdb Fz Ow Tp v d → Rdbs Fz Ow Tp vs ds → Rdbs Fz Ow Tp (v :: vs) (d :: ds)
section
variable {H0 H H' : Hp} {M : Option Addr} {pu : Option (Addr × Int)} {Fz Ow Ow' : List (V × D)} {Tp : List (Addr × List V)} {v : V} {d : D}
theorem reps_of_mem {Ow : List (V × D)} {S : List Addr} (h : Reps H S (Ow.map (·.1)) (Ow.map (·.2))) : ∀ {x : V × D}, x ∈ Ow → ∃ T, Rep H T x.1 x.2 ∧ ∀ a ∈ T, a ∈ S := by
  induction Ow generalizing S with
  | nil => intro x z; cases z
  | cons y Ow ih =>
    intro x z
    cases h with
    | cons h1 h2 =>
      rcases List.mem_cons.mp z with rfl | z
      · exact ⟨_, h1, fun a m => List.mem_append_left _ m⟩
      · obtain ⟨T, r, s⟩ := ih h2 z
        exact ⟨T, r, fun a m => List.mem_append_right _ (s a m)⟩
/-- what is readable is read, away from the purse -/
theorem St.rd (h : St H0 M pu Fz Ow Tp H) (r : Rdb Fz Ow Tp v d) : ∃ T, Rep H T v d ∧ ∀ p b, pu = some (p, b) → p ∉ T := by
  obtain ⟨Z, S, h1, h2, h3, h4, h5, h6, h7, h8⟩ := h
  induction r with
  | non => exact ⟨_, .non, fun _ _ _ z => nomatch z⟩
  | bl b => exact ⟨_, .bl b, fun _ _ _ z => nomatch z⟩
  | int i => exact ⟨_, .int i, fun _ _ _ z => nomatch z⟩
  | str x => exact ⟨_, .str x, fun _ _ _ z => nomatch z⟩
  | fz m =>
    obtain ⟨T, r, z⟩ := h2 _ m
    exact ⟨T, r, fun p b e hp => (h7 p b e).2.1 (z p hp)⟩
  | ow m =>
    obtain ⟨T, r, z⟩ := reps_of_mem h3 m
    exact ⟨T, r, fun p b e hp => (h7 p b e).2.2 (z p hp)⟩
  | tp0 m => exact ⟨_, .tup (h6 _ m) .nil, fun _ _ _ z => nomatch z⟩
  | tp1 m _ i1 =>
    obtain ⟨T1, r1, z1⟩ := i1
    refine ⟨_, .tup (h6 _ m) (.cons r1 .nil), fun p b e hp => ?_⟩
    simp at hp
    exact z1 p b e hp
  | tp2 m _ _ i1 i2 =>
    obtain ⟨T1, r1, z1⟩ := i1
    obtain ⟨T2, r2, z2⟩ := i2
    refine ⟨_, .tup (h6 _ m) (.cons r1 (.cons r2 .nil)), fun p b e hp => ?_⟩
    simp at hp
    rcases hp with hp | hp
    · exact z1 p b e hp
    · exact z2 p b e hp
  | tp3 m _ _ _ i1 i2 i3 =>
    obtain ⟨T1, r1, z1⟩ := i1
    obtain ⟨T2, r2, z2⟩ := i2
    obtain ⟨T3, r3, z3⟩ := i3
    refine ⟨_, .tup (h6 _ m) (.cons r1 (.cons r2 (.cons r3 .nil))), fun p b e hp => ?_⟩
    simp at hp
    rcases hp with hp | hp | hp
    · exact z1 p b e hp
    · exact z2 p b e hp
    · exact z3 p b e hp
theorem St.rds (h : St H0 M pu Fz Ow Tp H) {vs : List V} {ds : List D} (r : Rdbs Fz Ow Tp vs ds) : ∃ T, Reps H T vs ds ∧ ∀ p b, pu = some (p, b) → p ∉ T := by
  induction r with
  | nil => exact ⟨_, .nil, fun _ _ _ z => nomatch z⟩
  | cons r _ ih =>
    obtain ⟨T1, r1, z1⟩ := h.rd r
    obtain ⟨T2, r2, z2⟩ := ih
    exact ⟨_, .cons r1 r2, fun p b e hp => (List.mem_append.mp hp).elim (z1 p b e) (z2 p b e)⟩
theorem Reps.pick {x : V × D} (k : Pick x Ow Ow') : ∀ {S : List Addr}, Reps H S (Ow.map (·.1)) (Ow.map (·.2)) → ∃ S1 S2, Rep H S1 x.1 x.2 ∧ Reps H S2 (Ow'.map (·.1)) (Ow'.map (·.2)) ∧ S.Perm (S1 ++ S2) := by
  induction k with
  | hd =>
    intro S h
    cases h with
    | cons h1 h2 => exact ⟨_, _, h1, h2, .refl _⟩
  | @tl y l l' k ih =>
    intro S h
    cases h with
    | @cons Sy T _ _ _ _ h1 h2 =>
      obtain ⟨S1, S2, r1, r2, pm⟩ := ih h2
      refine ⟨S1, Sy ++ S2, r1, .cons h1 r2, ?_⟩
      refine (List.Perm.append_left Sy pm).trans ?_
      rw [← List.append_assoc, ← List.append_assoc]
      exact List.Perm.append_right S2 List.perm_append_comm
/-- an owned tree to the front -/
theorem St.front {x : V × D} (h : St H0 M pu Fz Ow Tp H) (k : Pick x Ow Ow') : St H0 M pu Fz (x :: Ow') Tp H := by
  obtain ⟨Z, S, h1, h2, h3, h4, h5, h6, h7, h8⟩ := h
  obtain ⟨S1, S2, r1, r2, pm⟩ := Reps.pick k h3
  exact ⟨Z, S1 ++ S2, h1, h2, .cons r1 r2, pm.nodup_iff.mp h4, fun a m => h5 a (pm.mem_iff.mpr m), h6, fun p b e => ⟨(h7 p b e).1, (h7 p b e).2.1, fun m => (h7 p b e).2.2 (pm.mem_iff.mpr m)⟩, h8⟩
/-- forget an owned tree -/
theorem St.drop {x : V × D} (h : St H0 M pu Fz (x :: Ow) Tp H) : St H0 M pu Fz Ow Tp H := by
  obtain ⟨Z, S, h1, h2, h3, h4, h5, h6, h7, h8⟩ := h
  cases h3 with
  | cons r1 r2 => exact ⟨Z, _, h1, h2, r2, (List.nodup_append.mp h4).2.1, fun a m => h5 a (List.mem_append_right _ m), h6, fun p b e => ⟨(h7 p b e).1, (h7 p b e).2.1, fun m => (h7 p b e).2.2 (List.mem_append_right _ m)⟩, h8⟩
theorem St.fzs {Fz' : List (V × D)} (h : St H0 M pu Fz Ow Tp H) (k : ∀ x ∈ Fz', x ∈ Fz) : St H0 M pu Fz' Ow Tp H := by
  obtain ⟨Z, S, h1, h2, h3, h4, h5, h6, h7, h8⟩ := h
  exact ⟨Z, S, h1, fun x m => h2 x (k x m), h3, h4, h5, h6, h7, h8⟩
/-- an owned tree is from now on left as it is -/
theorem St.freeze (h : St H0 M pu Fz ((v, d) :: Ow) Tp H) : St H0 M pu ((v, d) :: Fz) Ow Tp H := by
  obtain ⟨Z, S, h1, h2, h3, h4, h5, h6, h7, h8⟩ := h
  cases h3 with
  | @cons S1 S2 _ _ _ _ r1 r2 =>
    have nd := List.nodup_append.mp h4
    refine ⟨fun a => Z a ∨ a ∈ S1, S2, fun a o e m => ⟨.inl (h1 a o e m).1, (h1 a o e m).2⟩, fun x m => ?_, r2, nd.2.1, fun a m => ⟨?_, (h5 a (List.mem_append_right _ m)).2⟩, h6, fun p b e => ⟨(h7 p b e).1, ?_, fun m => (h7 p b e).2.2 (List.mem_append_right _ m)⟩, fun a z => ?_⟩
    · rcases List.mem_cons.mp m with rfl | m
      · exact ⟨S1, r1, fun a z => .inr z⟩
      · obtain ⟨T, r, z⟩ := h2 x m
        exact ⟨T, r, fun a q => .inl (z a q)⟩
    · rintro (z | z)
      · exact (h5 a (List.mem_append_right _ m)).1 z
      · exact nd.2.2 a z a m rfl
    · rintro (z | z)
      · exact (h7 p b e).2.1 z
      · exact (h7 p b e).2.2 (List.mem_append_left _ z)
    · rcases z with (z | z) | z
      · exact h8 a (.inl z)
      · obtain ⟨xs, q⟩ := Rep.dom d S1 v r1 a z
        exact ⟨_, q⟩
      · exact h8 a (.inr z)
theorem St.step (h : St H0 M pu Fz Ow Tp H) (k : ∀ a o, H a = some o → (∀ p b, pu = some (p, b) → a ≠ p) → H' a = some o) (kp : ∀ p b, pu = some (p, b) → PuAt H' p b) : St H0 M pu Fz Ow Tp H' := by
  obtain ⟨Z, S, h1, h2, h3, h4, h5, h6, h7, h8⟩ := h
  have nt : ∀ t vs, H t = some (.tup vs) → H' t = some (.tup vs) := fun t vs e => k t _ e fun p b q z => by
    subst z
    obtain ⟨x, y, z, e2, _⟩ := (h7 t b q).1
    rw [e] at e2
    cases e2
  refine ⟨Z, S, fun a o e m => ⟨(h1 a o e m).1, k a o (h1 a o e m).2 fun p b q z => (h7 p b q).2.1 (z ▸ (h1 a o e m).1)⟩, fun x m => ?_, ?_, h4, h5, fun x m => nt _ _ (h6 x m), fun p b q => ⟨kp p b q, (h7 p b q).2⟩, fun a z => ?_⟩
  · obtain ⟨T, r, z⟩ := h2 x m
    exact ⟨T, Rep.mono nt _ _ _ r fun a q o e => k a o e fun p b e' y => (h7 p b e').2.1 (y ▸ z a q), z⟩
  · exact Reps.mono nt _ _ _ h3 fun a q o e => k a o e fun p b e' y => (h7 p b e').2.2 (y ▸ q)
  · obtain ⟨o, e⟩ := h8 a z
    cases hp : pu with
    | none => exact ⟨o, k a o e fun p b e' y => by rw [hp] at e'; cases e'⟩
    | some q =>
      by_cases hq : a = q.1
      · subst hq
        obtain ⟨x, y, zz, e2, _⟩ := kp q.1 q.2 (by rw [hp])
        exact ⟨_, e2⟩
      · exact ⟨o, k a o e fun p b e' y => hq (by rw [hp] at e'; cases e'; exact y)⟩
theorem PuAt.mono {p : Addr} {b : Int} (h : PuAt H p b) (k : ∀ o, H p = some o → H' p = some o) : PuAt H' p b := by
  obtain ⟨x, y, z, e, r⟩ := h
  exact ⟨x, y, z, k _ e, r⟩
/-- all is kept -/
theorem St.same (h : St H0 M pu Fz Ow Tp H) (k : Same H H') : St H0 M pu Fz Ow Tp H' := by
  have h7 := h
  obtain ⟨Z, S, _, _, _, _, _, _, h7, _⟩ := h7
  exact h.step (fun a o e _ => k a o e) fun p b e => (h7 p b e).1.mono (k p)
theorem same_upd {p : Addr} {o : HO} (h : H p = none) : Same H (upd H p o) := fun b x e => by
  rw [upd_ne (ne_of_none e h)]
  exact e
/-- a new tree comes -/
theorem St.new (h : St H0 M pu Fz Ow Tp H) (k : Same H H') (n : New H H' v d) : St H0 M pu Fz ((v, d) :: Ow) Tp H' := by
  obtain ⟨Z, S, h1, h2, h3, h4, h5, h6, h7, h8⟩ := h
  obtain ⟨S1, r, nd, fr⟩ := n
  have nt : ∀ t vs, H t = some (.tup vs) → H' t = some (.tup vs) := fun t vs e => k t _ e
  have out : ∀ a, Z a ∨ M = some a → a ∉ S1 := fun a z m => by
    obtain ⟨o, e⟩ := h8 a z
    rw [fr a m] at e
    cases e
  refine ⟨Z, S1 ++ S, fun a o e m => ⟨(h1 a o e m).1, k a o (h1 a o e m).2⟩, fun x m => ?_, .cons r (Reps.mono nt _ _ _ h3 fun a _ o e => k a o e), ?_, fun a m => ?_, fun x m => nt _ _ (h6 x m), fun p b e => ⟨(h7 p b e).1.mono (k p), (h7 p b e).2.1, fun m => ?_⟩, fun a z => ?_⟩
  · obtain ⟨T, r, z⟩ := h2 x m
    exact ⟨T, Rep.mono nt _ _ _ r fun a _ o e => k a o e, z⟩
  · refine List.nodup_append.mpr ⟨nd, h4, fun a m b m' e => ?_⟩
    subst e
    obtain ⟨xs, q⟩ := Reps.dom _ _ _ h3 a m'
    rw [fr a m] at q
    cases q
  · rcases List.mem_append.mp m with m | m
    · exact ⟨fun z => out a (.inl z) m, fun z => out a (.inr z.symm) m⟩
    · exact h5 a m
  · rcases List.mem_append.mp m with m | m
    · obtain ⟨x, y, z, e2, _⟩ := (h7 p b e).1
      rw [fr p m] at e2
      cases e2
    · exact (h7 p b e).2.2 m
  · obtain ⟨o, e⟩ := h8 a z
    exact ⟨o, k a o e⟩
/-- behind a call that drew from the purse -/
theorem St.newP {p : Addr} {b c : Int} (h : St H0 M (some (p, b)) Fz Ow Tp H) (k : ∀ a o, H a = some o → a ≠ p → H' a = some o) (kp : PuAt H' p c) (n : New H H' v d) : St H0 M (some (p, c)) Fz ((v, d) :: Ow) Tp H' := by
  obtain ⟨Z, S, h1, h2, h3, h4, h5, h6, h7, h8⟩ := h
  obtain ⟨S1, r, nd, fr⟩ := n
  obtain ⟨hp, nz, ns⟩ := h7 p b rfl
  have hpu : ∃ x y z, H p = some (.lst [V.int x, .int y, .int z]) := by
    obtain ⟨x, y, z, e, _⟩ := hp
    exact ⟨x, y, z, e⟩
  have nt : ∀ t vs, H t = some (.tup vs) → H' t = some (.tup vs) := fun t vs e => k t _ e fun z => by
    subst z
    obtain ⟨x, y, z, e2⟩ := hpu
    rw [e] at e2
    cases e2
  have out : ∀ a, Z a ∨ M = some a → a ∉ S1 := fun a z m => by
    obtain ⟨o, e⟩ := h8 a z
    rw [fr a m] at e
    cases e
  refine ⟨Z, S1 ++ S, fun a o e m => ⟨(h1 a o e m).1, k a o (h1 a o e m).2 fun z => nz (z ▸ (h1 a o e m).1)⟩, fun x m => ?_, .cons r (Reps.mono nt _ _ _ h3 fun a m o e => k a o e fun z => ns (z ▸ m)), ?_, fun a m => ?_, fun x m => nt _ _ (h6 x m), fun q b' e => ?_, fun a z => ?_⟩
  · obtain ⟨T, r, z⟩ := h2 x m
    exact ⟨T, Rep.mono nt _ _ _ r fun a q o e => k a o e fun y => nz (y ▸ z a q), z⟩
  · refine List.nodup_append.mpr ⟨nd, h4, fun a m b m' e => ?_⟩
    subst e
    obtain ⟨xs, q⟩ := Reps.dom _ _ _ h3 a m'
    rw [fr a m] at q
    cases q
  · rcases List.mem_append.mp m with m | m
    · exact ⟨fun z => out a (.inl z) m, fun z => out a (.inr z.symm) m⟩
    · exact h5 a m
  · cases e
    refine ⟨kp, nz, fun m => ?_⟩
    rcases List.mem_append.mp m with m | m
    · obtain ⟨x, y, z, e2⟩ := hpu
      rw [fr p m] at e2
      cases e2
    · exact ns m
  · obtain ⟨o, e⟩ := h8 a z
    by_cases hq : a = p
    · subst hq
      obtain ⟨x, y, zz, e2, _⟩ := kp
      exact ⟨_, e2⟩
    · exact ⟨o, k a o e hq⟩
/-- a tree that is an int, a truth value, None, a text -/
theorem St.int {i : Int} (h : St H0 M pu Fz ((v, .int i) :: Ow) Tp H) : v = .int i ∧ St H0 M pu Fz Ow Tp H := by
  refine ⟨?_, h.drop⟩
  obtain ⟨Z, S, h1, h2, h3, h4, h5, h6, h7, h8⟩ := h
  cases h3 with
  | cons r _ => cases r; rfl
theorem St.bool {b : Bool} (h : St H0 M pu Fz ((v, .bool b) :: Ow) Tp H) : v = .bl b ∧ St H0 M pu Fz Ow Tp H := by
  refine ⟨?_, h.drop⟩
  obtain ⟨Z, S, h1, h2, h3, h4, h5, h6, h7, h8⟩ := h
  cases h3 with
  | cons r _ => cases r; rfl
theorem St.none (h : St H0 M pu Fz ((v, .none) :: Ow) Tp H) : v = .non ∧ St H0 M pu Fz Ow Tp H := by
  refine ⟨?_, h.drop⟩
  obtain ⟨Z, S, h1, h2, h3, h4, h5, h6, h7, h8⟩ := h
  cases h3 with
  | cons r _ => cases r; rfl
theorem St.str {x : Str} (h : St H0 M pu Fz ((v, .str x) :: Ow) Tp H) : v = .str x ∧ St H0 M pu Fz Ow Tp H := by
  refine ⟨?_, h.drop⟩
  obtain ⟨Z, S, h1, h2, h3, h4, h5, h6, h7, h8⟩ := h
  cases h3 with
  | cons r _ => cases r; rfl
/-- an owned tuple is opened -/
theorem St.tup {ds : List D} (h : St H0 M pu Fz ((v, .tuple ds) :: Ow) Tp H) : ∃ t vs, v = .ref t ∧ vs.length = ds.length ∧ St H0 M pu Fz (vs.zip ds ++ Ow) ((t, vs) :: Tp) H := by
  obtain ⟨Z, S, h1, h2, h3, h4, h5, h6, h7, h8⟩ := h
  cases h3 with
  | cons r r' =>
    cases r with
    | @tup a vs S1 _ e rs =>
      have el := rs.length
      refine ⟨a, vs, rfl, el, Z, _, h1, h2, ?_, h4, h5, fun x m => ?_, h7, h8⟩
      · rw [List.map_append, List.map_append, List.map_fst_zip (by omega), List.map_snd_zip (by omega)]
        exact rs.append r'
      · rcases List.mem_cons.mp m with rfl | m
        · exact e
        · exact h6 x m
/-- a frozen tuple is opened -/
theorem St.ftup {ds : List D} (h : St H0 M pu Fz Ow Tp H) (m : (v, .tuple ds) ∈ Fz) : ∃ t vs, v = .ref t ∧ vs.length = ds.length ∧ St H0 M pu (vs.zip ds ++ Fz) Ow ((t, vs) :: Tp) H := by
  obtain ⟨Z, S, h1, h2, h3, h4, h5, h6, h7, h8⟩ := h
  obtain ⟨T, r, z⟩ := h2 _ m
  cases r with
  | @tup a vs S1 _ e rs =>
    have el := rs.length
    refine ⟨a, vs, rfl, el, Z, S, h1, fun x m => ?_, h3, h4, h5, fun x m => ?_, h7, h8⟩
    · rcases List.mem_append.mp m with m | m
      · have rs' : Reps H T ((vs.zip ds).map (·.1)) ((vs.zip ds).map (·.2)) := by
          rw [List.map_fst_zip (by omega), List.map_snd_zip (by omega)]
          exact rs
        obtain ⟨T', r, z'⟩ := reps_of_mem rs' m
        exact ⟨T', r, fun a q => z a (z' a q)⟩
      · exact h2 x m
    · rcases List.mem_cons.mp m with rfl | m
      · exact e
      · exact h6 x m
theorem St.ftup2 {d1 d2 : D} (h : St H0 M pu Fz Ow Tp H) (m : (v, .tuple [d1, d2]) ∈ Fz) : ∃ t v1 v2, v = .ref t ∧ St H0 M pu ((v1, d1) :: (v2, d2) :: Fz) Ow ((t, [v1, v2]) :: Tp) H := by
  obtain ⟨t, vs, rfl, e, h'⟩ := h.ftup m
  match vs, e, h' with
  | [v1, v2], _, h' => exact ⟨t, v1, v2, rfl, h'⟩
theorem St.fint {i : Int} (h : St H0 M pu Fz Ow Tp H) (m : (v, .int i) ∈ Fz) : v = .int i := by
  obtain ⟨Z, S, h1, h2, h3, h4, h5, h6, h7, h8⟩ := h
  obtain ⟨T, r, z⟩ := h2 _ m
  cases r
  rfl
/-- the heap at a tuple that is known -/
theorem St.tp {t : Addr} {vs : List V} (h : St H0 M pu Fz Ow Tp H) (m : (t, vs) ∈ Tp) : H t = some (.tup vs) := by
  obtain ⟨Z, S, h1, h2, h3, h4, h5, h6, h7, h8⟩ := h
  exact h6 _ m
theorem St.purse {p : Addr} {b : Int} (h : St H0 M (some (p, b)) Fz Ow Tp H) : PuAt H p b := by
  obtain ⟨Z, S, h1, h2, h3, h4, h5, h6, h7, h8⟩ := h
  exact (h7 p b rfl).1
/-- the heap at a readable list -/
theorem St.rlst {ds : List D} (h : St H0 M pu Fz Ow Tp H) (r : Rdb Fz Ow Tp v (.list ds)) : ∃ a vs T, v = .ref a ∧ H a = some (.lst vs) ∧ Reps H T vs ds := by
  obtain ⟨T, r, _⟩ := h.rd r
  cases r with
  | lst e rs => exact ⟨_, _, _, rfl, e, rs⟩
theorem St.rints {ns : List Int} (h : St H0 M pu Fz Ow Tp H) (r : Rdb Fz Ow Tp v (dI ns)) : ∃ a, v = .ref a ∧ H a = some (.lst (ns.map V.int)) := by
  obtain ⟨a, vs, T, rfl, e, rs⟩ := h.rlst r
  obtain ⟨_, rfl⟩ := Reps.intsInv rs
  exact ⟨a, rfl, e⟩
/-- a value taken out of what is owned, as a whole tree -/
inductive Take (Tp : List (Addr × List V)) : List (V × D) → V → D → List (V × D) → Prop
  | non {Ow : List (V × D)} : Take Tp Ow .non .none Ow
  | bl {Ow : List (V × D)} (b : Bool) : Take Tp Ow (.bl b) (.bool b) Ow
  | int {Ow : List (V × D)} (i : Int) : Take Tp Ow (.int i) (.int i) Ow
  | str {Ow : List (V × D)} (x : Str) : Take Tp Ow (.str x) (.str x) Ow
  | own {Ow Ow' : List (V × D)} {v : V} {d : D} : Pick (v, d) Ow Ow' → Take Tp Ow v d Ow'
  | tp0 {Ow : List (V × D)} {t : Addr} : (t, []) ∈ Tp → Take Tp Ow (.ref t) (.tuple []) Ow
  | tp1 {Ow Ow1 : List (V × D)} {t : Addr} {v1 : V} {d1 : D} : (t, [v1]) ∈ Tp → Take Tp Ow v1 d1 Ow1 → Take Tp Ow (.ref t) (.tuple [d1]) Ow1
  | tp2 {Ow Ow1 Ow2 : List (V × D)} {t : Addr} {v1 v2 : V} {d1 d2 : D} : (t, [v1, v2]) ∈ Tp → Take Tp Ow v1 d1 Ow1 → Take Tp Ow1 v2 d2 Ow2 → Take Tp Ow (.ref t) (.tuple [d1, d2]) Ow2
  | tp3 {Ow Ow1 Ow2 Ow3 : List (V × D)} {t : Addr} {v1 v2 v3 : V} {d1 d2 d3 : D} : (t, [v1, v2, v3]) ∈ Tp → Take Tp Ow v1 d1 Ow1 → Take Tp Ow1 v2 d2 Ow2 → Take Tp Ow2 v3 d3 Ow3 → Take Tp Ow (.ref t) (.tuple [d1, d2, d3]) Ow3
inductive Takes (Tp : List (Addr × List V)) : List (V × D) → List V → List D → List (V × D) → Prop
  | nil {Ow : List (V × D)} : Takes Tp Ow [] [] Ow
  | cons {Ow Ow1 Ow2 : List (V × D)} {v : V} {vs : List V} {d : D} {ds : List D} : Take Tp Ow v d Ow1 → Takes Tp Ow1 vs ds Ow2 → Takes Tp Ow (v :: vs) (d :: ds) Ow2
theorem Take.reps (hT : ∀ x ∈ Tp, H x.1 = some (.tup x.2)) (k : Take Tp Ow v d Ow') : ∀ {S : List Addr}, Reps H S (Ow.map (·.1)) (Ow.map (·.2)) → ∃ S1 S2, Rep H S1 v d ∧ Reps H S2 (Ow'.map (·.1)) (Ow'.map (·.2)) ∧ S.Perm (S1 ++ S2) := by
  induction k with
  | non => exact fun h => ⟨_, _, .non, h, .refl _⟩
  | bl b => exact fun h => ⟨_, _, .bl b, h, .refl _⟩
  | int i => exact fun h => ⟨_, _, .int i, h, .refl _⟩
  | str x => exact fun h => ⟨_, _, .str x, h, .refl _⟩
  | own p => exact fun h => Reps.pick p h
  | tp0 m => exact fun h => ⟨_, _, .tup (hT _ m) .nil, h, .refl _⟩
  | tp1 m _ i1 =>
    intro S h
    obtain ⟨S1, S2, r1, r2, p1⟩ := i1 h
    refine ⟨_, _, .tup (hT _ m) (.cons r1 .nil), r2, ?_⟩
    rw [List.append_nil]
    exact p1
  | tp2 m _ _ i1 i2 =>
    intro S h
    obtain ⟨S1, S2, r1, r2, p1⟩ := i1 h
    obtain ⟨S3, S4, r3, r4, p2⟩ := i2 r2
    refine ⟨_, _, .tup (hT _ m) (.cons r1 (.cons r3 .nil)), r4, ?_⟩
    rw [List.append_nil, List.append_assoc]
    exact p1.trans (List.Perm.append_left _ p2)
  | tp3 m _ _ _ i1 i2 i3 =>
    intro S h
    obtain ⟨S1, S2, r1, r2, p1⟩ := i1 h
    obtain ⟨S3, S4, r3, r4, p2⟩ := i2 r2
    obtain ⟨S5, S6, r5, r6, p3⟩ := i3 r4
    refine ⟨_, _, .tup (hT _ m) (.cons r1 (.cons r3 (.cons r5 .nil))), r6, ?_⟩
    rw [List.append_nil, List.append_assoc, List.append_assoc]
    exact p1.trans (List.Perm.append_left _ (p2.trans (List.Perm.append_left _ p3)))
theorem Takes.reps {vs : List V} {ds : List D} (hT : ∀ x ∈ Tp, H x.1 = some (.tup x.2)) (k : Takes Tp Ow vs ds Ow') : ∀ {S : List Addr}, Reps H S (Ow.map (·.1)) (Ow.map (·.2)) → ∃ S1 S2, Reps H S1 vs ds ∧ Reps H S2 (Ow'.map (·.1)) (Ow'.map (·.2)) ∧ S.Perm (S1 ++ S2) := by
  induction k with
  | nil => exact fun h => ⟨_, _, .nil, h, .refl _⟩
  | cons k1 _ ih =>
    intro S h
    obtain ⟨S1, S2, r1, r2, p1⟩ := k1.reps hT h
    obtain ⟨S3, S4, r3, r4, p2⟩ := ih r2
    refine ⟨_, _, .cons r1 r3, r4, ?_⟩
    rw [List.append_assoc]
    exact p1.trans (List.Perm.append_left _ p2)
theorem St.take (h : St H0 M pu Fz Ow Tp H) (k : Take Tp Ow v d Ow') : St H0 M pu Fz ((v, d) :: Ow') Tp H := by
  obtain ⟨Z, S, h1, h2, h3, h4, h5, h6, h7, h8⟩ := h
  obtain ⟨S1, S2, r1, r2, pm⟩ := k.reps h6 h3
  exact ⟨Z, S1 ++ S2, h1, h2, .cons r1 r2, pm.nodup_iff.mp h4, fun a m => h5 a (pm.mem_iff.mpr m), h6, fun p b e => ⟨(h7 p b e).1, (h7 p b e).2.1, fun m => (h7 p b e).2.2 (pm.mem_iff.mpr m)⟩, h8⟩
/-- a new tuple -/
theorem St.mkTup {p : Addr} {vs : List V} (h : St H0 M pu Fz Ow Tp H) (hp : H p = Option.none) : St H0 M pu Fz Ow ((p, vs) :: Tp) (upd H p (.tup vs)) := by
  have k := same_upd (o := .tup vs) hp
  obtain ⟨Z, S, h1, h2, h3, h4, h5, h6, h7, h8⟩ := h.same k
  refine ⟨Z, S, h1, h2, h3, h4, h5, fun x m => ?_, h7, h8⟩
  rcases List.mem_cons.mp m with rfl | m
  · exact upd_same
  · exact h6 x m
/-- a new list of things that are taken -/
theorem St.mkLst {p : Addr} {vs : List V} {ds : List D} (h : St H0 M pu Fz Ow Tp H) (hp : H p = Option.none) (t : Takes Tp Ow vs ds Ow') : St H0 M pu Fz ((.ref p, .list ds) :: Ow') Tp (upd H p (.lst vs)) := by
  obtain ⟨Z0, S0, g1, g2, g3, g4, g5, g6, g7, g8⟩ := h
  have pS0 : p ∉ S0 := fun m => by
    obtain ⟨xs, q⟩ := Reps.dom _ _ _ g3 p m
    rw [hp] at q
    cases q
  have h : St H0 M pu Fz Ow Tp H := ⟨Z0, S0, g1, g2, g3, g4, g5, g6, g7, g8⟩
  have k := same_upd (o := .lst vs) hp
  have nz : ∀ a, Z0 a ∨ M = some a → a ≠ p := fun a z e => by
    obtain ⟨o, q⟩ := g8 a z
    rw [e, hp] at q
    cases q
  obtain ⟨S1, S2, r1, r2, pm⟩ := t.reps g6 g3
  have k1 : ∀ a ∈ S1, ∀ o, H a = some o → upd H p (.lst vs) a = some o := fun a m o e => k a o e
  refine ⟨Z0, (p :: S1) ++ S2, fun a o e m => ⟨(g1 a o e m).1, k a o (g1 a o e m).2⟩, fun x m => ?_, .cons (.lst upd_same (Reps.mono (fun t xs e => k t _ e) _ _ _ r1 k1)) (Reps.mono (fun t xs e => k t _ e) _ _ _ r2 fun a m o e => k a o e), ?_, fun a m => ?_, fun x m => k _ _ (g6 x m), fun q b e => ⟨(g7 q b e).1.mono (k q), (g7 q b e).2.1, fun m => ?_⟩, fun a z => ?_⟩
  · obtain ⟨T, r, z⟩ := g2 x m
    exact ⟨T, Rep.mono (fun t xs e => k t _ e) _ _ _ r fun a _ o e => k a o e, z⟩
  · rw [List.cons_append]
    exact List.nodup_cons.mpr ⟨fun m => pS0 (pm.mem_iff.mpr m), pm.nodup_iff.mp g4⟩
  · rcases List.mem_cons.mp (List.cons_append ▸ m) with rfl | m
    · exact ⟨fun z => nz a (.inl z) rfl, fun z => nz a (.inr z.symm) rfl⟩
    · exact g5 a (pm.mem_iff.mpr m)
  · rcases List.mem_cons.mp (List.cons_append ▸ m) with rfl | m
    · obtain ⟨x, y, z, e2, _⟩ := (g7 q b e).1
      rw [hp] at e2
      cases e2
    · exact (g7 q b e).2.2 (pm.mem_iff.mpr m)
  · obtain ⟨o, e⟩ := g8 a z
    exact ⟨o, k a o e⟩
/-- a new list of ints -/
theorem St.mkInts {p : Addr} {ns : List Int} (h : St H0 M pu Fz Ow Tp H) (hp : H p = Option.none) : St H0 M pu Fz ((.ref p, dI ns) :: Ow) Tp (upd H p (.lst (ns.map V.int))) :=
  h.new (same_upd hp) ⟨[p], .lst upd_same (Reps.intsR ns), by simp, fun a m => by simp at m; rw [m]; exact hp⟩
/-- the list at the front: its items are exchanged for others that are taken -/
theorem St.put {l : Addr} {ds es : List D} (h : St H0 M pu Fz ((.ref l, .list ds) :: Ow) Tp H)
    : ∃ vs, H l = some (.lst vs) ∧ vs.length = ds.length ∧ ∀ us, Takes Tp (vs.zip ds ++ Ow) us es Ow' → St H0 M pu Fz ((.ref l, .list es) :: Ow') Tp (upd H l (.lst us)) := by
  obtain ⟨Z, S, h1, h2, h3, h4, h5, h6, h7, h8⟩ := h
  cases h3 with
  | @cons Sl S' _ _ _ _ r r' =>
    cases r with
    | @lst _ vs Sd _ e rs =>
      have el := rs.length
      refine ⟨vs, e, el, fun us t => ?_⟩
      have q : Reps H (Sd ++ S') ((vs.zip ds ++ Ow).map (·.1)) ((vs.zip ds ++ Ow).map (·.2)) := by
        rw [List.map_append, List.map_append, List.map_fst_zip (by omega), List.map_snd_zip (by omega)]
        exact rs.append r'
      obtain ⟨S1, S2, r1, r2, pm⟩ := t.reps h6 q
      rw [List.cons_append] at h4
      have nd := List.nodup_cons.mp h4
      have nl1 : ∀ a ∈ S1 ++ S2, a ≠ l := fun a m z => nd.1 (z ▸ pm.mem_iff.mpr m)
      have nlz : ¬ Z l := (h5 l (by simp)).1
      have nlt : ∀ t xs, H t = some (.tup xs) → t ≠ l := fun t xs et z => by
        rw [z, e] at et
        cases et
      have kt : ∀ t xs, H t = some (.tup xs) → upd H l (.lst us) t = some (.tup xs) := fun t xs et => by
        rw [upd_ne (nlt t xs et)]
        exact et
      refine ⟨Z, (l :: S1) ++ S2, fun a o ea m => ⟨(h1 a o ea m).1, ?_⟩, fun x m => ?_, .cons (.lst upd_same (Reps.mono kt _ _ _ r1 fun a m o ea => ?_)) (Reps.mono kt _ _ _ r2 fun a m o ea => ?_), ?_, fun a m => ?_, fun x m => kt _ _ (h6 x m), fun p b ep => ?_, fun a z => ?_⟩
      · rw [upd_ne (show a ≠ l from fun z => nlz (z ▸ (h1 a o ea m).1))]
        exact (h1 a o ea m).2
      · obtain ⟨T, r, z⟩ := h2 x m
        refine ⟨T, Rep.mono kt _ _ _ r fun a q o ea => ?_, z⟩
        rw [upd_ne (show a ≠ l from fun y => nlz (y ▸ z a q))]
        exact ea
      · rw [upd_ne (nl1 a (List.mem_append_left _ m))]
        exact ea
      · rw [upd_ne (nl1 a (List.mem_append_right _ m))]
        exact ea
      · rw [List.cons_append]
        exact List.nodup_cons.mpr ⟨fun m => nd.1 (pm.mem_iff.mpr m), pm.nodup_iff.mp nd.2⟩
      · rcases List.mem_cons.mp (List.cons_append ▸ m) with rfl | m
        · exact h5 a (by simp)
        · exact h5 a (by rw [List.cons_append]; exact List.mem_cons_of_mem _ (pm.mem_iff.mpr m))
      · have npl : p ≠ l := fun z => (h7 p b ep).2.2 (by rw [z]; simp)
        refine ⟨(h7 p b ep).1.mono fun o eo => by rw [upd_ne npl]; exact eo, (h7 p b ep).2.1, fun m => ?_⟩
        rcases List.mem_cons.mp (List.cons_append ▸ m) with z | m
        · exact npl z
        · exact (h7 p b ep).2.2 (by rw [List.cons_append]; exact List.mem_cons_of_mem _ (pm.mem_iff.mpr m))
      · by_cases hl : a = l
        · exact ⟨_, by rw [hl]; exact upd_same⟩
        · obtain ⟨o, ea⟩ := h8 a z
          exact ⟨o, by rw [upd_ne hl]; exact ea⟩
theorem Takes.intsT {Tp : List (Addr × List V)} {Ow : List (V × D)} : ∀ (ns : List Int), Takes Tp Ow (ns.map V.int) (ns.map PyData.int) Ow
  | [] => .nil
  | n :: ns => .cons (.int n) (Takes.intsT ns)
/-- an owned list of ints -/
theorem St.putInts {l : Addr} {ns : List Int} (h : St H0 M pu Fz ((.ref l, dI ns) :: Ow) Tp H) : H l = some (.lst (ns.map V.int)) ∧ ∀ ms : List Int, St H0 M pu Fz ((.ref l, dI ms) :: Ow) Tp (upd H l (.lst (ms.map V.int))) := by
  obtain ⟨a, e0, e⟩ := h.rints (.ow List.mem_cons_self)
  cases e0
  refine ⟨e, fun ms => ?_⟩
  obtain ⟨vs, e1, el, k⟩ := h.put (es := ms.map PyData.int) (Ow' := (ns.map V.int).zip (ns.map PyData.int) ++ Ow)
  rw [e] at e1
  cases e1
  have q := k (ms.map V.int) (Takes.intsT ms)
  -- the old ints are dropped
  have dropN : ∀ (xs : List Int) {Ow : List (V × D)} {x : V × D} {H : Hp}, St H0 M pu Fz (x :: ((xs.map V.int).zip (xs.map PyData.int) ++ Ow)) Tp H → St H0 M pu Fz (x :: Ow) Tp H := by
    intro xs
    induction xs with
    | nil => exact fun h => h
    | cons y ys ih => exact fun h => ih ((h.front (.tl .hd)).drop)
  exact dropN ns q
/-- append -/
theorem St.app {l : Addr} {ds : List D} (h : St H0 M pu Fz ((.ref l, .list ds) :: Ow) Tp H) : ∃ vs, H l = some (.lst vs) ∧ vs.length = ds.length ∧ ∀ v d Ow', Take Tp Ow v d Ow' → St H0 M pu Fz ((.ref l, .list (ds ++ [d])) :: Ow') Tp (upd H l (.lst (vs ++ [v]))) := by
  obtain ⟨Z, S, h1, h2, h3, h4, h5, h6, h7, h8⟩ := id h
  cases h3 with
  | @cons Sl S' _ _ _ _ r r' =>
    cases r with
    | @lst _ vs Sd _ e rs =>
      have el := rs.length
      refine ⟨vs, e, el, fun v d Ow' t => ?_⟩
      obtain ⟨vs', e', el', k⟩ := h.put (es := ds ++ [d]) (Ow' := Ow')
      rw [e] at e'
      cases e'
      refine k _ ?_
      have all : ∀ (vs : List V) (ds : List D), vs.length = ds.length → Takes Tp (vs.zip ds ++ Ow) (vs ++ [v]) (ds ++ [d]) Ow' := by
        intro vs
        induction vs with
        | nil =>
          intro ds e
          match ds, e with
          | [], _ => exact .cons t .nil
        | cons y ys ih =>
          intro ds e
          match ds, e with
          | x :: xs, e => exact .cons (.own .hd) (ih xs (by simpa using e))
      exact all vs ds el
/-- an item of a frozen list -/
theorem St.fget {ds : List D} {i : Nat} (h : St H0 M pu Fz Ow Tp H) (m : (v, .list ds) ∈ Fz) (e : ds[i]? = some d) : ∃ a vs w, v = .ref a ∧ H a = some (.lst vs) ∧ vs.length = ds.length ∧ vs[i]? = some w ∧ St H0 M pu ((w, d) :: Fz) Ow Tp H := by
  obtain ⟨Z, S, h1, h2, h3, h4, h5, h6, h7, h8⟩ := h
  obtain ⟨T, r, z⟩ := h2 _ m
  cases r with
  | @lst a vs S1 _ ea rs =>
    obtain ⟨w, T', ew, r', z'⟩ := rs.get e
    refine ⟨a, vs, w, rfl, ea, rs.length, ew, Z, S, h1, fun x m => ?_, h3, h4, h5, h6, h7, h8⟩
    rcases List.mem_cons.mp m with rfl | m
    · exact ⟨T', r', fun a q => z a (List.mem_cons_of_mem _ (z' a q))⟩
    · exact h2 x m
mutual
/-- data without a list -/
def nolist : D → Bool
  | .list _ => false
  | .tuple ds => nolists ds
  | .dict _ => false
  | _ => true
def nolists : List D → Bool
  | [] => true
  | d :: ds => nolist d && nolists ds
end
mutual
theorem Rep.nolist : ∀ (d : D) (S : List Addr) (v : V), Rep H S v d → G.nolist d = true → S = []
  | .none, _, _, h, _ => by cases h; rfl
  | .bool b, _, _, h, _ => by cases h; rfl
  | .int i, _, _, h, _ => by cases h; rfl
  | .str x, _, _, h, _ => by cases h; rfl
  | .list ds, _, _, _, e => by simp [G.nolist] at e
  | .tuple ds, _, _, h, e => by
    cases h with
    | tup _ h2 => exact Reps.nolist ds _ _ h2 (by simpa [G.nolist] using e)
  | .dict _, _, _, _, e => by simp [G.nolist] at e
theorem Reps.nolist : ∀ (ds : List D) (S : List Addr) (vs : List V), Reps H S vs ds → nolists ds = true → S = []
  | [], _, _, h, _ => by cases h; rfl
  | d :: ds, _, _, h, e => by
    cases h with
    | cons h1 h2 =>
      rw [nolists, Bool.and_eq_true] at e
      rw [Rep.nolist d _ _ h1 e.1, Reps.nolist ds _ _ h2 e.2]
      rfl
end
/-- written data: what is made, item by item -/
def Lit (t : TE) (d : D) : Prop := ∀ (σ : L2.St) (H : Hp) (Q : VK) (H0 : Hp) (M : Option Addr) (pu : Option (Addr × Int)) (Fz Ow : List (V × D)) (Tp : List (Addr × List V)), St H0 M pu Fz Ow Tp H → (∀ v H', St H0 M pu Fz ((v, d) :: Ow) Tp H' → Q v H') → t σ H Q
def LitA (t : TA) (ds : List D) : Prop := ∀ (σ : L2.St) (H : Hp) (Q : List V → Hp → Prop) (H0 : Hp) (M : Option Addr) (pu : Option (Addr × Int)) (Fz Ow : List (V × D)) (Tp : List (Addr × List V)), St H0 M pu Fz Ow Tp H → (∀ vs H', vs.length = ds.length → St H0 M pu Fz ((vs.zip ds).reverse ++ Ow) Tp H' → Q vs H') → t σ H Q
theorem lit_int {i : Int} : Lit (tC (.int i)) (.int i) := fun _ H _ _ _ _ _ _ _ h k => k _ _ (h.take (.int i))
theorem lit_str {x : Str} : Lit (tC (.str x)) (.str x) := fun _ H _ _ _ _ _ _ _ h k => k _ _ (h.take (.str x))
theorem lit_bool {b : Bool} : Lit (tC (.bl b)) (.bool b) := fun _ H _ _ _ _ _ _ _ h k => k _ _ (h.take (.bl b))
theorem lit_none : Lit (tC .non) .none := fun _ H _ _ _ _ _ _ _ h k => k _ _ (h.take .non)
theorem litA_nil : LitA tNil [] := fun _ _ _ _ _ _ _ _ _ h k => k [] _ rfl h
theorem litA_cons {t : TE} {ts : TA} {d : D} {ds : List D} (h1 : Lit t d) (h2 : LitA ts ds) : LitA (tCons t ts) (d :: ds) := fun σ H Q H0 M pu Fz Ow Tp h k =>
  h1 σ H _ H0 M pu Fz Ow Tp h fun v H1 k1 => h2 σ H1 _ H0 M pu Fz _ Tp k1 fun vs H2 el k2 => k (v :: vs) H2 (by simp [el]) (by simpa using k2)
theorem takes_rev {Tp : List (Addr × List V)} {Ow : List (V × D)} : ∀ (vs : List V) (ds : List D) (pre : List (V × D)), vs.length = ds.length → Takes Tp (pre.reverse ++ (vs.zip ds) ++ Ow) vs ds (pre.reverse ++ Ow)
  | [], [], pre, _ => by simpa using Takes.nil
  | v :: vs, d :: ds, pre, e => by
    have pk : ∀ (l r : List (V × D)), Pick (v, d) (l ++ (v, d) :: r) (l ++ r) := fun l => by
      induction l with
      | nil => intro r; exact .hd
      | cons x l ih => intro r; exact .tl (ih r)
    have q := takes_rev (Tp := Tp) (Ow := Ow) vs ds pre (by simpa using e)
    refine .cons (Ow1 := pre.reverse ++ vs.zip ds ++ Ow) (.own ?_) q
    have := pk pre.reverse (vs.zip ds ++ Ow)
    simpa using this
theorem St.unrev (vs : List V) (ds : List D) (h : St H0 M pu Fz ((vs.zip ds).reverse ++ Ow) Tp H) : St H0 M pu Fz (vs.zip ds ++ Ow) Tp H := by
  obtain ⟨Z, S, h1, h2, h3, h4, h5, h6, h7, h8⟩ := h
  have perm : ∀ (l l' : List (V × D)), l.Perm l' → ∀ S, Reps H S (l.map (·.1)) (l.map (·.2)) → ∃ S', Reps H S' (l'.map (·.1)) (l'.map (·.2)) ∧ S.Perm S' := by
    intro l l' pm
    induction pm with
    | nil => exact fun S r => ⟨S, r, .refl _⟩
    | cons x _ ih =>
      intro S r
      cases r with
      | cons r1 r2 =>
        obtain ⟨S', r', p'⟩ := ih _ r2
        exact ⟨_, .cons r1 r', List.Perm.append_left _ p'⟩
    | swap x y l =>
      intro S r
      cases r with
      | @cons Sy _ _ _ _ _ r1 r2 =>
        cases r2 with
        | @cons Sx Sl _ _ _ _ r2 r3 =>
          refine ⟨_, .cons r2 (.cons r1 r3), ?_⟩
          rw [← List.append_assoc, ← List.append_assoc]
          exact List.Perm.append_right _ List.perm_append_comm
    | trans _ _ ih1 ih2 =>
      intro S r
      obtain ⟨S1, r1, p1⟩ := ih1 S r
      obtain ⟨S2, r2, p2⟩ := ih2 S1 r1
      exact ⟨S2, r2, p1.trans p2⟩
  obtain ⟨S', r', pm⟩ := perm _ _ (List.Perm.append_right Ow (List.reverse_perm (vs.zip ds))) S h3
  exact ⟨Z, S', h1, h2, r', pm.nodup_iff.mp h4, fun a m => h5 a (pm.mem_iff.mpr m), h6, fun p b e => ⟨(h7 p b e).1, (h7 p b e).2.1, fun m => (h7 p b e).2.2 (pm.mem_iff.mpr m)⟩, h8⟩
theorem lit_lst {t : TA} {ds : List D} (h1 : LitA t ds) (hl : ds.length ≤ 1000000 := by decide) : Lit (tLst t) (.list ds) := fun σ H Q H0 M pu Fz Ow Tp h k =>
  h1 σ H _ H0 M pu Fz Ow Tp h fun vs H1 el k1 => ⟨by rw [el]; exact Nat.le_trans hl (by decide), fun p hp => k _ _ ((k1.unrev vs ds).mkLst hp (takes_rev vs ds [] el))⟩
theorem lit_tup {t : TA} {ds : List D} (h1 : LitA t ds) (hl : ds.length ≤ 1000000 := by decide) : Lit (tTup t) (.tuple ds) := fun σ H Q H0 M pu Fz Ow Tp h k =>
  h1 σ H _ H0 M pu Fz Ow Tp h fun vs H1 el k1 => ⟨by rw [el]; exact Nat.le_trans hl (by decide), fun p hp => by
    have q := (k1.unrev vs ds).mkTup (vs := vs) hp
    obtain ⟨Z, S, h1, h2, h3, h4, h5, h6, h7, h8⟩ := q
    have h6' := h6 _ List.mem_cons_self
    rw [List.map_append, List.map_append, List.map_fst_zip (by omega), List.map_snd_zip (by omega)] at h3
    obtain ⟨S1, S2, u1, u2, eS, eu, r1, r2⟩ := h3.split
    have e1 : u1 = vs ∧ u2 = Ow.map (·.1) := by
      have l1 := r1.length
      have := List.append_inj eu (by omega)
      exact ⟨this.1.symm, this.2.symm⟩
    obtain ⟨rfl, rfl⟩ := e1
    refine k _ _ ⟨Z, S, h1, h2, ?_, h4, h5, fun x m => h6 x (List.mem_cons_of_mem _ m), h7, h8⟩
    rw [eS]
    exact .cons (.tup h6' r1) r2⟩
theorem St.enter {S : List Addr} {vs : List V} {ds : List D} (h : Reps H S vs ds) : St H .none .none (vs.zip ds) [] [] H := by
  have el := h.length
  refine ⟨fun a => ∃ o, H a = some o, [], fun a o e _ => ⟨⟨o, e⟩, e⟩, fun x m => ?_, .nil, List.nodup_nil, fun _ z => (nomatch z), fun _ z => (nomatch z), fun _ _ z => (nomatch z), fun a z => ?_⟩
  · have rs' : Reps H S ((vs.zip ds).map (·.1)) ((vs.zip ds).map (·.2)) := by
      rw [List.map_fst_zip (by omega), List.map_snd_zip (by omega)]
      exact h
    obtain ⟨T, r, z⟩ := reps_of_mem rs' m
    refine ⟨T, r, fun a q => ?_⟩
    obtain ⟨xs, e⟩ := Rep.dom _ _ _ r a q
    exact ⟨_, e⟩
  · rcases z with z | z
    · exact z
    · cases z
theorem St.enterP {p : Addr} {b : Int} {S : List Addr} {vs : List V} {ds : List D} (h : Reps H S vs ds) (hp : PuAt H p b) (np : p ∉ S) : St H (some p) (some (p, b)) (vs.zip ds) [] [] H := by
  have el := h.length
  refine ⟨fun a => a ≠ p ∧ ∃ o, H a = some o, [], fun a o e m => ⟨⟨fun z => m (by rw [z]), o, e⟩, e⟩, fun x m => ?_, .nil, List.nodup_nil, fun _ z => (nomatch z), fun _ z => (nomatch z), fun q b' z => ?_, fun a z => ?_⟩
  · have rs' : Reps H S ((vs.zip ds).map (·.1)) ((vs.zip ds).map (·.2)) := by
      rw [List.map_fst_zip (by omega), List.map_snd_zip (by omega)]
      exact h
    obtain ⟨T, r, z⟩ := reps_of_mem rs' m
    refine ⟨T, r, fun a q => ⟨fun e => np (e ▸ z a q), ?_⟩⟩
    obtain ⟨xs, e⟩ := Rep.dom _ _ _ r a q
    exact ⟨_, e⟩
  · cases z
    exact ⟨hp, fun z => z.1 rfl, fun z => (nomatch z)⟩
  · rcases z with z | z
    · exact z.2
    · cases z
      obtain ⟨x, y, z, e, _⟩ := hp
      exact ⟨_, e⟩
theorem St.leave (h : St H0 .none pu Fz ((v, d) :: Ow) Tp H) : Same H0 H ∧ New H0 H v d := by
  obtain ⟨Z, S, h1, h2, h3, h4, h5, h6, h7, h8⟩ := h
  refine ⟨fun a o e => (h1 a o e (by intro z; cases z)).2, ?_⟩
  cases h3 with
  | @cons S1 S2 _ _ _ _ r _ =>
    refine ⟨S1, r, (List.nodup_append.mp h4).1, fun a m => ?_⟩
    cases q : H0 a with
    | none => rfl
    | some o => exact absurd (h1 a o q (by intro z; cases z)).1 (h5 a (List.mem_append_left _ m)).1
theorem St.leaveP {p : Addr} {b c : Int} (h : St H0 (some p) (some (p, b)) Fz ((v, d) :: Ow) Tp H) (hc : b ≤ c) : (∀ a o, H0 a = some o → a ≠ p → H a = some o) ∧ PuAt H p c ∧ New H0 H v d := by
  obtain ⟨Z, S, h1, h2, h3, h4, h5, h6, h7, h8⟩ := h
  refine ⟨fun a o e n => (h1 a o e (by intro z; cases z; exact n rfl)).2, (h7 p b rfl).1.le hc, ?_⟩
  cases h3 with
  | @cons S1 S2 _ _ _ _ r _ =>
    refine ⟨S1, r, (List.nodup_append.mp h4).1, fun a m => ?_⟩
    have h5' := h5 a (List.mem_append_left _ m)
    cases q : H0 a with
    | none => rfl
    | some o => exact absurd (h1 a o q h5'.2).1 h5'.1
end
/-- what a def makes of trees: W says of the arguments what the result may be -/
abbrev Tw := List D → (D → Prop) → Prop
/-- a def that changes nothing, and whose lists are new -/
def spT (W : Tw) : Sp := fun vs H Q _ => ∃ S ds G, Reps H S vs ds ∧ W ds G ∧ ∀ d v H', G d → Same H H' → New H H' v d → Q v H'
/-- a def that draws at most c times from the purse, its first argument -/
def spP (c : Int) (W : Tw) : Sp := fun vs H Q _ => ∃ p b vs' S ds G, vs = .ref p :: vs' ∧ PuAt H p b ∧ b + c ≤ 2 ^ 100 ∧ Reps H S vs' ds ∧ p ∉ S ∧ W ds G ∧ ∀ d v H', G d → (∀ a o, H a = some o → a ≠ p → H' a = some o) → PuAt H' p (b + c) → New H H' v d → Q v H'
section
variable {H0 H H' : Hp} {M : Option Addr} {pu : Option (Addr × Int)} {Fz Ow Ow' : List (V × D)} {Tp : List (Addr × List V)} {v : V} {d : D} {Q : VK} {E : XK} {W : Tw} {vs : List V} {ds : List D}
theorem St.call (h : St H0 M pu Fz Ow Tp H) (r : Rdbs Fz Ow Tp vs ds) (w : W ds fun d => ∀ v H', St H0 M pu Fz ((v, d) :: Ow) Tp H' → Q v H') : spT W (vs ++ []) H Q E0 := by
  obtain ⟨T, r, _⟩ := h.rds r
  rw [List.append_nil]
  exact ⟨T, ds, _, r, w, fun d v H' k s n => k v H' (h.new s n)⟩
theorem St.callP {p : Addr} {b c : Int} (h : St H0 M (some (p, b)) Fz Ow Tp H) (hb : b + c ≤ 2 ^ 100) (r : Rdbs Fz Ow Tp vs ds) (w : W ds fun d => ∀ v H', St H0 M (some (p, b + c)) Fz ((v, d) :: Ow) Tp H' → Q v H') : spP c W (.ref p :: vs ++ []) H Q E0 := by
  obtain ⟨T, r, n⟩ := h.rds r
  rw [List.append_nil]
  exact ⟨p, b, vs, T, ds, _, rfl, h.purse, hb, r, n p b rfl, w, fun d v H' k s kp n => k v H' (h.newP s kp n)⟩
end
end G
namespace G
open PySem PySem.Spec PyProof.Rows L2
/-- no repr is under way -/
abbrev Bare (A : Around) : Prop := A.guards = some []
theorem Bare.deeper {A : Around} (h : Bare A) (env : Env) : Bare (A.deeper env) := h
/-- a def's promise, called where no repr is under way -/
structure FnG (P : Program) (w : World) (K : PySem.W.Frag) (mg : Str → Option Value) (base : Heap) (CX : CXT) (k : Nat) (f : Addr) (fd : FuncData) (ps : List Str) (sp : Sp) : Prop where
  len : ∀ vs H Q E, sp vs H Q E → vs.length = ps.length
  run : ∀ (A : Around) (outer : List Env) (s : Shared) (H : Hp) (args : Args) (us : List Value) (vs : List V) (Q : VK) (E : XK), Bare A → Room k A → Env0 P w K mg base A outer s H → BindsTo s fd args (ps.zip us) → Vals vs us → sp vs H Q E →
    codeAny (model P w) A (.call (.ref f) args) (CR CX outer P w H s Q E) s
section
variable {P : Program} {w : World} {K : PySem.W.Frag} {mg : Str → Option Value} {base : Heap} {CX : CXT} {k j : Nat} {f : Addr} {fd : FuncData} {ps : List Str} {sp : Sp}
theorem FnG.mono (F : FnG P w K mg base CX j f fd ps sp) (h : j ≤ k) : FnG P w K mg base CX k f fd ps sp :=
  ⟨F.len, fun A o s H args us vs Q E hg hr => F.run A o s H args us vs Q E hg (hr.mono h)⟩
theorem FnG.of (F : FnOk P w K mg base CX k f fd ps sp) : FnG P w K mg base CX k f fd ps sp := ⟨F.len, fun A o s H args us vs Q E _ hr => F.run A o s H args us vs Q E hr⟩
/-- a def by its body: as the layer's rule, with the guards told to the body -/
theorem fn_ofG {name qual : Str} {params : Arguments} {body : List Stmt} {scope : Scope} {dV kV doc pm cdv ct oc : Value} {an od : Option Addr} {osl : Array (Option Value)} {N : List Str}
    (lk : K.lookup f = some ⟨oc, od, .func (PySem.W.fnOf name qual params body scope dV kV doc pm an cdv ct), osl⟩) (hcd : PySem.W.codeIn K cdv qual = true) (S : FnScope N ps scope) (len : ∀ vs H Q E, sp vs H Q E → vs.length = ps.length)
    (hb : ∀ (A : Around) (outer : List Env) (s : Shared) (H : Hp) (vs : List V) (Q : VK) (E : XK), Bare (A.deeper (envOfC qual scope s.heap.objs.size f cdv)) → Room k (A.deeper (envOfC qual scope s.heap.objs.size f cdv)) → sp vs H Q E →
      ∃ t, PSs (cxOf CX P w K mg base N qual scope f cdv A outer s H E) body t ∧ t ⟨fun _ H' => Q .non H', Q, fun _ _ => False, fun _ _ => False⟩ (start N vs) H) :
    FnG P w K mg base CX (k + 1) f (PySem.W.fnOf name qual params body scope dV kV doc pm an cdv ct) ps sp := by
  refine ⟨len, fun A outer s H args us vs Q E hg hr e0 bt r q => ?_⟩
  have keep : ∀ b o, base.get? b = some o → s.heap.get? b = some o := fun b o e => (e0.bs b o e).1
  have KX : K.In s.heap := e0.mod.kin.keeps keep
  refine codeAny_call_function hr.depth (KX _ _ lk) rfl S.co S.gen rfl (PySem.W.codeRec_of KX hcd) (bt _ _ _ _ (wpAny_newFunctionEnv_cells S.kind (fun y hy => ?_) fun env he s1 x => ?_))
  · rcases S.par y.1 (List.of_mem_zip (a := y.1) (b := y.2) hy).1 with z | z
    · exact Or.inl z
    · exact Or.inr ⟨z, PySem.W.cellsFrom_some _ _ _ (Or.inl z)⟩
  · subst he
    obtain ⟨t, ht, hq⟩ := hb A outer s H vs Q E (hg.deeper _) (hr.deeper _) q
    refine ⟨(e0.mod.nolimit.keeps keep).keeps x.toInCall.keep, codeAny_func (wpAny_mono (ht.run [] s1 (start N vs) H _ (inv_start S hr.hd e0 (len _ _ _ _ q) r x) hq) (fun fl s' hs => ?_) fun e s' z => z)⟩
    cases fl with
    | next =>
      obtain ⟨_, H', J, z⟩ := hs
      exact ⟨V.non, H', J.os, J.bare, J.base, J.hok, rfl, z⟩
    | ret u =>
      obtain ⟨v, _, H', J, rv, z⟩ := hs
      exact ⟨v, H', J.os, J.bare, J.base, J.hok, rv, z⟩
    | brk => exact hs.elim fun _ z => z.elim fun _ z => z.2.elim
    | cont => exact hs.elim fun _ z => z.elim fun _ z => z.2.elim
/-- .. where no exception leaves the def -/
theorem okG {x qual : Str} {st : Stmt} {N : List Str} (F : Fun K x qual st f fd) (S : FnScope N ps (defScope st)) (len : ∀ vs H Q E, sp vs H Q E → vs.length = ps.length)
    (hb : ∀ (cdv : Value) (A : Around) (outer : List Env) (s : Shared) (H : Hp) (vs : List V) (Q : VK) (E : XK), Bare (A.deeper (envOfC qual (defScope st) s.heap.objs.size f cdv)) → Room k (A.deeper (envOfC qual (defScope st) s.heap.objs.size f cdv)) → sp vs H Q E →
      ∃ t, PSs (cxOf CX0 P w K mg base N qual (defScope st) f cdv A outer s H E).nox (defBody st) t ∧ t ⟨fun _ H' => Q .non H', Q, fun _ _ => False, fun _ _ => False⟩ (start N vs) H) : FnG P w K mg base CX0 (k + 1) f fd ps sp := by
  obtain ⟨oc, od, kV, doc, pm, an, cdv, ct, osl, rfl, lk, hcd⟩ := F.ex
  refine fn_ofG lk hcd S len fun A outer s H vs Q E hg hr q => ?_
  obtain ⟨t, h, z⟩ := hb cdv A outer s H vs Q E hg hr q
  exact ⟨t, h.nox, z⟩
end
section
variable {X : Cx} {CX : CXT} {k : Nat} {f : Addr} {fd : FuncData} {ps ks : List Str} {sp : Sp} {E : XK} {x : Str} {p pos kpos : Pos} {e : Expr} {es : List Expr} {kws : List Keyword} {t tk : TA}
theorem end_callG {pins : List (Addr × Obj)} {σ : L2.St} {H : Hp} {s : Shared} {Q : VK} (hx : Passes CX X E) (I : Inv X pins σ H s) {r : Result} {s' : Shared} (hq : CR CX X.stack X.prog X.w H s Q E r s') : callEnd (EP X pins σ Q) X.xe r s' := by
  match r, hq with
  | .error e, hq => exact hx pins σ H s e s' I hq
  | .ok (.ret u), hq => exact I.after hq
/-- f(e, ..) of a def of the module, all parameters given by place -/
theorem pe_callG (F : FnG X.prog X.w X.K X.mg X.base CX k f fd ps sp) (hb : Bare X.A) (hr : Room k X.A) (hg : Gl X x) (hm : X.mg x = some (.ref f)) (hk : PySem.W.keepIn X.K (.ref f) = true) (bd : Binds X.K fd ps []) (hx : Passes CX X E)
    (ha : PA X (e :: es) t) (hdb : (x == ("__debug__" : Str)) = false := by decide) (he : starEach (e :: es) X.env = (false, eval e X.env) :: starEach es X.env := by rfl) (hpl : (backTo pos (starEach es X.env)).any (·.1) = false := by rfl) :
    PE X (.Call (.Name x p) (e :: es) [] pos) (tCall sp [] E t) := by
  refine ⟨fun pins s σ H Q I h => wpAny_Call_Name_kw (ld_glob I hg hm (PySem.W.callWith_K (h₀ := X.base) I.ok.mod.kin hk (thn (ha.run pos pins s σ H _ I h) fun us s1 ⟨vs, H1, I1, r, q⟩ => ⟨I1.kIn, ?_⟩) he hpl) hdb)⟩
  have r2 : Vals (vs ++ []) (us ++ []) := by
    rw [List.append_nil, List.append_nil]
    exact r
  refine wpAny_call (codeAny_mono (F.run X.A X.stack s1 H1 ⟨us, []⟩ (us ++ []) (vs ++ []) Q E hb hr I1.env0 (bd s1 us I1.kIn (r2.length.symm.trans (F.len _ _ _ _ q))) r2 q) fun r s' hq => end_callG hx I1 hq)
variable {g : List Value → List Value → List Value} {gV : List V → List V → List V}
end
theorem vals_pick {zs : List V} {ws : List Value} (r : Vals zs ws) : ∀ ix : List Nat, Vals (ix.filterMap fun i => zs[i]?) (ix.filterMap fun i => ws[i]?)
  | [] => .nil
  | i :: ix => by
    cases e : zs[i]? with
    | none =>
      have e2 := r.none_of e
      rw [List.filterMap_cons_none e, List.filterMap_cons_none e2]
      exact vals_pick r ix
    | some v =>
      obtain ⟨u, e2, ru⟩ := r.get e
      rw [List.filterMap_cons_some e, List.filterMap_cons_some e2]
      exact .cons ru (vals_pick r ix)
theorem law_callG {P : Program} {w : World} {K : PySem.W.Frag} {mg mb : Str → Option Value} {CX : CXT} {k : Nat} {fa a : Addr} {fd : FuncData} {x : Str} {sp : Sp} {s : Shared} {vs : List Value} {ns : List Int}
    (KX : K.In s.heap) (hns : s.heap.Ns mainGlobals mg) (hb : s.heap.Ns builtinsNs mb) (hbb : ∀ y : Str, y ≠ "__name__" → mb y = bootBuiltins y) (hlim : s.heap.NoLimit) (hg : s.gens = #[])
    (ha : s.heap.get? a = some { cls := .type "list", data := .seq vs.toArray }) (hi : IntsAre vs ns) (hl : ns.length ≤ sizeLine) (hr : Room k callerA)
    (F : ∀ base : Heap, K.In base → base.Ns mainGlobals mg → FnG P w K mg base CX k fa fd [x] sp) (hbind : ∀ (s : Shared) (u : Value), BindsTo s fd ⟨[u], []⟩ [(x, u)])
    (hsp : ∀ H : Hp, Only H → SqL K H a (ns.map V.int) → sp [.ref a] H (fun v _ => v = .bl true) fun _ _ _ => False) (hCX : ∀ H e s', CX [] H s (fun _ _ _ => False) e s' → False) :
    codeAny (model P w) callerA (.call (.ref fa) ⟨[.ref a], []⟩) (fun r s' => r = .ok (.ret (.bool true)) ∧ OldK s.heap s'.heap ∧ s'.os = s.os ∧ AllBare s'.gens) s := by
  have rv : Vals (ns.map V.int) vs := vals_ints hi
  have lenV : vs.length = ns.length := by rw [← rv.length, List.length_map]
  -- for a heap H that tracks the script alone, or nothing
  have main : ∀ H : Hp, Only H → SqL K H a (ns.map V.int) → HOk P w H s.heap → (∀ b, H b ≠ none → b = a) → (H a ≠ none → K.lookup a = none) →
      codeAny (model P w) callerA (.call (.ref fa) ⟨[.ref a], []⟩) (fun r s' => r = .ok (.ret (.bool true)) ∧ OldK s.heap s'.heap ∧ s'.os = s.os ∧ AllBare s'.gens) s := fun H hO hS hok hA hK => by
    have dictless : ∀ {b : Addr} {o : Obj} {es : Array DictEntry} {ep : Nat}, s.heap.get? b = some o → o.data = .dict es ep → H b = none := fun {b o es ep} e d => by
      cases z : H b with
      | none => rfl
      | some u =>
        rw [hA b (by rw [z]; intro q; cases q), ha] at e
        cases e
        cases (show Data.seq vs.toArray _ = Data.dict es ep from d)
    have nsB : ∀ {b : Addr} {m : Str → Option Value}, s.heap.Ns b m → (hidT s.heap H).Ns b m := fun {b m} ⟨o, es, ep, e, d, r⟩ => ⟨o, es, ep, hidT_get e (dictless e d), d, r⟩
    have kinB : K.In (hidT s.heap H) := fun b o e => hidT_get (KX b o e) (by
      cases z : H b with
      | none => rfl
      | some u =>
        have eb := hA b (by rw [z]; intro q; cases q)
        subst eb
        rw [hK (by rw [z]; intro q; cases q)] at e
        cases e)
    obtain ⟨mc, l1, l2⟩ := hlim
    have e0 : Env0 P w K mg (hidT s.heap H) callerA [] s H := ⟨rfl, ⟨kinB, nsB hns, ⟨mb, nsB hb, hbb⟩, ⟨mc, nsB l1, l2⟩⟩, fun b o e => of_hidT e, Nat.le_of_eq (hidT_size _ _), trivial, fun b z => (nomatch (show b ∈ ([] : List Addr) from z)), hok, .of_eq hg⟩
    refine codeAny_mono ((F _ kinB (nsB hns)).run callerA [] s H ⟨[.ref a], []⟩ [.ref a] [.ref a] _ _ rfl hr e0 (hbind s (.ref a)) (.cons rfl .nil) (hsp H hO hS)) fun r s' h => ?_
    match r, h with
    | .error e, h => exact (hCX H e s' h).elim
    | .ok (.ret u), ⟨v, H', os, bare, un, hok', r', q⟩ =>
      have q' : v = .bl true := q
      subst q'
      obtain rfl : u = Value.bool true := r'
      refine ⟨rfl, OldK.of_keep fun b o e => ?_, os, bare⟩
      cases z : H b with
      | none => exact un.keep b o e z (fun m => nomatch (show b ∈ ([] : List Addr) from m)) (fun m => nomatch m)
      | some u =>
        rcases hO b with y | ⟨ob, xs, y⟩
        · rw [z] at y
          cases y
        · have e1 := (hok b _ y).1
          rw [e] at e1
          cases e1
          exact (hok' b _ (un.frzs b _ _ y)).1
  cases hk : K.lookup a with
  | some o =>
    have e := KX a o hk
    rw [ha] at e
    cases e
    exact main (fun _ => none) (fun _ => .inl rfl) (.inr ⟨_, vs.toArray, _, hk, rfl, rfl, rfl, by rw [List.size_toArray, lenV]; exact hl, by simpa using rv⟩) (fun b u z => nomatch z) (fun b z => absurd rfl z) fun z => absurd rfl z
  | none =>
    have at_a : (fun b : Addr => if b = a then some (HO.frz { cls := .type "list", data := .seq vs.toArray } (.lst (ns.map V.int))) else none) a = some (HO.frz { cls := .type "list", data := .seq vs.toArray } (.lst (ns.map V.int))) := if_pos rfl
    have off : ∀ b, b ≠ a → (fun b : Addr => if b = a then some (HO.frz { cls := .type "list", data := .seq vs.toArray } (.lst (ns.map V.int))) else none) b = none := fun b h => if_neg h
    refine main (fun b => if b = a then some (.frz { cls := .type "list", data := .seq vs.toArray } (.lst (ns.map V.int))) else none) (fun b => ?_) (.inl (.inr ⟨_, at_a⟩)) (fun b u z => ?_) (fun b z => ?_) fun _ => hk
    · by_cases h : b = a
      · exact .inr ⟨_, _, by subst h; exact at_a⟩
      · exact .inl (off b h)
    · by_cases h : b = a
      · subst h
        rw [at_a] at z
        cases z
        exact ⟨ha, by rw [List.length_map]; exact hl, vs, _, rv, ha⟩
      · rw [off b h] at z
        cases z
    · exact Classical.byContradiction fun h => z (off b h)
theorem walk_ofG {l : PySem.W.OpenLaw} {n k : Nat} {q : Program} {loose : List Str} {XP : (Str → Option Value) → Heap → Prop} {YP : World → Heap → Prop} {d : DefRec} {K : Params → PySem.W.Frag} {CX : World → CXT} {sp : World → Sp} {x : Str}
    (hn : l.most = some n) (hn2 : n ≤ sizeLine) (hdf : d.params.defaults = []) (hr : Room k callerA) (hY : ∀ (w : World) (h : Heap), YP w h → (K w.params).In h)
    (F : ∀ (w : World) (mg : Str → Option Value) (fa : Addr) (h : Heap), (K w.params).In h → h.Ns mainGlobals mg → mg d.name = some (.ref fa) →
      ∃ fd : FuncData, (∀ (s : Shared) (u : Value), BindsTo s fd ⟨[u], []⟩ [(x, u)]) ∧ ∀ base : Heap, (K w.params).In base → base.Ns mainGlobals mg → FnG l.prog w (K w.params) mg base (CX w) k fa fd [x] (sp w))
    (hsp : ∀ (w : World) (H : Hp) (a : Addr) (ns : List Int), ns.length ≤ n → (∀ z ∈ ns, Builtin.Int.intBits z ≤ 1048576) → Only H → SqL (K w.params) H a (ns.map V.int) → sp w [.ref a] H (fun v _ => v = .bl true) fun _ _ _ => False)
    (hCX : ∀ (w : World) (H : Hp) (s : Shared) (e : Value) (s' : Shared), CX w [] H s (fun _ _ _ => False) e s' → False) : PySem.W.WalkO q loose XP YP l.row.toRowW d [] (fun f vs => PySem.call f vs) :=
  Att.attach_callB hn hdf fun w _ s1 mg mb fa _ _ _ _ a vs ns G Y _ _ _ hmg hobj hints hlen hbits hg => by
    have KX := hY w _ Y
    obtain ⟨fd, hb, hF⟩ := F w mg fa _ KX G.T.g hmg
    exact law_callG KX G.T.g G.T.b G.T.builtins G.T.nolimit hg hobj hints (Nat.le_trans hlen hn2) hr hF hb (fun H hO hS => hsp w H a ns hlen hbits hO hS) fun H e s' => hCX w H s1 e s'
section
variable {X : Cx}
/-- repr of plain data -/
def rRepr (K : PySem.W.Frag) : List V → Hp → VK → Prop := fun vs H Q => ∃ x d, vs = [x] ∧ Dp K H x d ∧ d.showable = true ∧ d.depth ≤ 60 ∧ d.shown.length ≤ sizeLine ∧ Q (.str d.shown) H
theorem Dp.nodict {K : PySem.W.Frag} {H : Hp} : ∀ (d : D) (x : V), Dp K H x d → d.hasDict = false
  | .none, _, _ => by simp [PyData.hasDict]
  | .bool _, _, _ => by simp [PyData.hasDict]
  | .int _, _, _ => by simp [PyData.hasDict]
  | .str _, _, _ => by simp [PyData.hasDict]
  | .list ds, _, h => by
    cases h with
    | lst _ hs =>
      rw [PyData.hasDict]
      exact all ds _ hs
  | .tuple ds, _, h => by
    cases h with
    | tup _ hs =>
      rw [PyData.hasDict]
      exact all ds _ hs
  | .dict _, _, h => by cases h
where all : ∀ (ds : List D) (vs : List V), DpAll K H vs ds → PyData.hasDictAll ds = false
  | [], _, _ => by simp [PyData.hasDictAll]
  | d :: ds, _, h => by
    cases h with
    | cons h1 h2 =>
      rw [PyData.hasDictAll, Dp.nodict d _ h1, all ds _ h2]
      rfl
theorem cr_repr (hg : Bare X.A) (hu : X.A.units + 64 < cLine) : CallR X (.builtin "repr") (rRepr X.K) := by
  intro pins s σ H xs us Q I r h
  obtain ⟨x, d, rfl, hd, sh, dp, sz, q⟩ := h
  obtain ⟨u, rfl, rx⟩ := vals1 r
  obtain ⟨as, hr⟩ := Dp.reads I d x u hd rx
  have nd := Dp.nodict d x hd
  cases d with
  | none =>
    cases hd
    cases rx
    exact PySem.P.repr_of_none ⟨.str _, H, I.tok _, ⟨_, rfl⟩, q⟩
  | bool b =>
    cases hd
    cases rx
    refine PySem.P.repr_of_bool ⟨.str _, H, I.tok _, ⟨_, rfl⟩, ?_⟩
    cases b <;> exact q
  | int i =>
    cases hd
    obtain ⟨t, rfl⟩ := rx
    refine PySem.P.repr_of_int (by simpa [PyData.showable] using sh) ⟨.str _, H, I.tok _, ⟨_, rfl⟩, q⟩
  | str z =>
    cases hd
    obtain ⟨t, rfl⟩ := rx
    exact PySem.P.repr_of_str ⟨.str _, H, I.tok _, ⟨_, rfl⟩, q⟩ (by simpa [PyData.shown] using sz)
  | list ds =>
    cases hd
    cases rx
    exact repr_of_reads' hr sh (fun z => by rw [nd] at z; cases z) hg (by omega) (fun _ _ e => e) (fun h' u tk k => ⟨.str _, H, I.kept k, ⟨_, rfl⟩, q⟩) sz
  | tuple ds =>
    cases hd
    cases rx
    exact repr_of_reads' hr sh (fun z => by rw [nd] at z; cases z) hg (by omega) (fun _ _ e => e) (fun h' u tk k => ⟨.str _, H, I.kept k, ⟨_, rfl⟩, q⟩) sz
  | dict _ => cases hd
/-- a ** b of great numbers -/
def CPowW (i j : Int) : Prop := 0 ≤ j ∧ (Builtin.Int.intBits i : Int) * j ≤ 2 ^ 27
theorem op_powW : OpR X (binaryOp .Pow) (rI CPowW fun i j => .int (i ^ j.toNat)) := opI fun _ _ _ _ _ _ _ hc q => pow_int hc.1 hc.2 q
/-- a * b: together below a hundred million bits -/
def CMulB (i j : Int) : Prop := Builtin.Int.intBits i + Builtin.Int.intBits j < 100000000
theorem CMulB.ok {i j : Int} (h : CMulB i j) : IntMulOk i j := by
  have e : bitsLine = 134217728 := by decide
  unfold IntMulOk
  intro z
  rw [Bool.and_eq_true] at z
  have z2 := z.2
  unfold Builtin.Int.intTooBig at z2
  have z3 := of_decide_eq_true z2
  rw [e] at z3
  unfold CMulB at h
  omega
theorem op_mulB : OpR X (binaryOp .Mult) (rI CMulB fun i j => .int (i * j)) := opI fun _ _ _ _ _ _ _ hc q => mul_int q hc.ok
end
end G
namespace G
open PySem PySem.Spec PyProof.Rows L2
/-- the built-in names that no def hides -/
structure Blt (mg : Str → Option Value) : Prop where
  len : mg "len" = none
  range : mg "range" = none
  max : mg "max" = none
  min : mg "min" = none
  abs : mg "abs" = none
  int : mg "int" = none
  list : mg "list" = none
  tuple : mg "tuple" = none
  repr : mg "repr" = none
  all : mg "all" = none
  any : mg "any" = none
  sum : mg "sum" = none
  sorted : mg "sorted" = none
  isinstance : mg "isinstance" = none
  set : mg "set" = none
  enumerate : mg "enumerate" = none
  zip : mg "zip" = none
  str : mg "str" = none
  divmod : mg "divmod" = none
  dict : mg "dict" = none
  bool : mg "bool" = none
  reversed : mg "reversed" = none
/-- a def of the top as it stands -/
structure DefAt (K : PySem.W.Frag) (mg : Str → Option Value) (x : Str) (st : Stmt) (f : Addr) (fd : FuncData) (ps : List Str) : Prop where
  F : Fun K x x st f fd
  gl : mg x = some (.ref f)
  bd : Binds K fd ps []
theorem DefAt.kp {K : PySem.W.Frag} {mg : Str → Option Value} {x : Str} {st : Stmt} {f : Addr} {fd : FuncData} {ps : List Str} (d : DefAt K mg x st f fd ps) : PySem.W.keepIn K (.ref f) = true := d.F.kp
theorem szle {n : Nat} (h : n ≤ 10000000) : n ≤ sizeLine := Nat.le_trans h (by decide)
theorem szlt {n : Nat} (h : n ≤ 10000000) : n < sizeLine := Nat.lt_of_le_of_lt h (by decide)
section
variable {H : Hp} {S : List Addr} {vs : List V}
theorem Reps.one {d1 : D} (r : Reps H S vs [d1]) : ∃ v1, vs = [v1] := by
  cases r with
  | cons _ r => cases r; exact ⟨_, rfl⟩
theorem Reps.two {d1 d2 : D} (r : Reps H S vs [d1, d2]) : ∃ v1 v2, vs = [v1, v2] := by
  cases r with
  | cons _ r => obtain ⟨_, rfl⟩ := Reps.one r; exact ⟨_, _, rfl⟩
/-- the entry of a def that only reads -/
theorem enter1 {d1 : D} (r : Reps H S vs [d1]) : ∃ v1, vs = [v1] ∧ St H .none .none [(v1, d1)] [] [] H := by
  obtain ⟨v1, rfl⟩ := r.one
  exact ⟨v1, rfl, St.enter r⟩
theorem enter2 {d1 d2 : D} (r : Reps H S vs [d1, d2]) : ∃ v1 v2, vs = [v1, v2] ∧ St H .none .none [(v1, d1), (v2, d2)] [] [] H := by
  obtain ⟨v1, v2, rfl⟩ := r.two
  exact ⟨v1, v2, rfl, St.enter r⟩
theorem enterP1 {p : Addr} {b : Int} {d1 : D} (r : Reps H S vs [d1]) (hp : PuAt H p b) (n : p ∉ S) : ∃ v1, vs = [v1] ∧ St H (some p) (some (p, b)) [(v1, d1)] [] [] H := by
  obtain ⟨v1, rfl⟩ := r.one
  exact ⟨v1, rfl, St.enterP r hp n⟩
theorem enterP2 {p : Addr} {b : Int} {d1 d2 : D} (r : Reps H S vs [d1, d2]) (hp : PuAt H p b) (n : p ∉ S) : ∃ v1 v2, vs = [v1, v2] ∧ St H (some p) (some (p, b)) [(v1, d1), (v2, d2)] [] [] H := by
  obtain ⟨v1, v2, rfl⟩ := r.two
  exact ⟨v1, v2, rfl, St.enterP r hp n⟩
end
section
variable {K : PySem.W.Frag} {g : TG} {tb : TS} {De : Ends} {σ : L2.St} {H : Hp}
/-- for over a list of ints: the word speaks of the part that is done -/
theorem for_ints {a : Addr} {ns : List Int} (Pv : List Int → L2.St → Hp → Prop) (h0 : Pv [] σ H) (hl : ∀ pre σ H, Pv pre σ H → H a = some (.lst (ns.map V.int)))
    (hs : ∀ pre n post σ H, ns = pre ++ n :: post → Pv pre σ H → g (.int n) σ H fun σ2 H2 => tb ⟨Pv (pre ++ [n]), De.rt, De.nx, Pv (pre ++ [n])⟩ σ2 H2) (hd : ∀ σ H, Pv ns σ H → De.nx σ H) :
    ∃ W : Nat → Nat → L2.St → Hp → Prop, (∃ m, W 0 m σ H) ∧ ∀ i m σ H, W i m σ H →
      ((Itl K a).stop i H ∧ De.nx σ H) ∨ ((Itl K a).go i H ∧ ∃ N : L2.St → Hp → Prop, (∀ σ' H', N σ' H' → ∃ m', m' < m ∧ W (i + 1) m' σ' H') ∧ ∀ x H', (Itl K a).yld i H x H' → g x σ H' fun σ2 H2 => tb { De with nx := N, ct := N, bk := De.nx } σ2 H2) := by
  refine for_list (K := K) (a := a) (xs := ns.map V.int) (fun i σ H => i ≤ ns.length ∧ Pv (ns.take i) σ H) ⟨Nat.zero_le _, h0⟩ (fun i σ H _ h => SqL.of (hl _ _ _ h.2)) (fun i x σ H e h => ?_) (fun σ H h => ?_)
  · rw [List.getElem?_map] at e
    cases q : ns[i]? with
    | none => rw [q] at e; cases e
    | some n =>
      rw [q] at e
      cases e
      have hi : i < ns.length := (List.getElem?_eq_some_iff.mp q).1
      have en : ns[i] = n := (List.getElem?_eq_some_iff.mp q).2
      have e2 : ns = ns.take i ++ n :: ns.drop (i + 1) := by
        rw [← en, List.getElem_cons_drop, List.take_append_drop]
      have e3 : ns.take (i + 1) = ns.take i ++ [n] := by rw [List.take_add_one, q]; rfl
      have e4 : (fun (σ : L2.St) (H : Hp) => i + 1 ≤ ns.length ∧ Pv (ns.take (i + 1)) σ H) = Pv (ns.take i ++ [n]) := by
        funext σ H
        rw [e3]
        exact propext ⟨fun z => z.2, fun z => ⟨hi, z⟩⟩
      show g (.int n) σ H fun σ2 H2 => tb ⟨fun σ H => i + 1 ≤ ns.length ∧ Pv (ns.take (i + 1)) σ H, De.rt, De.nx, fun σ H => i + 1 ≤ ns.length ∧ Pv (ns.take (i + 1)) σ H⟩ σ2 H2
      rw [e4]
      exact hs _ _ _ _ _ e2 h.2
  · have e : ns.take (ns.map V.int).length = ns := by rw [List.length_map, List.take_length]
    rw [e] at h
    exact hd _ _ h.2
end
section
variable {g : TG} {tt : TT} {te : TE} {ws : List Nat} {σ : L2.St} {H1 : Hp} {Dl : Addr} {Qd : Hp → Prop} {K : PySem.W.Frag}
/-- a comprehension over a list of ints -/
theorem lc_ints {a : Addr} {ns : List Int} (Pv : List Int → Hp → Prop) (h0 : Pv [] (upd H1 Dl (.lst []))) (hl : ∀ pre H, Pv pre H → H a = some (.lst (ns.map V.int)))
    (hs : ∀ pre n post H, ns = pre ++ n :: post → Pv pre H → g (.int n) (wipe σ ws) H fun σ2 H2 => wipe σ2 ws = wipe σ ws ∧ tt σ2 H2 fun b H3 =>
      if b = true then te σ2 H3 fun y H4 => ∃ acc, H4 Dl = some (.lst acc) ∧ acc.length < sizeLine ∧ Pv (pre ++ [n]) (upd H4 Dl (.lst (acc ++ [y]))) else Pv (pre ++ [n]) H3) (hd : ∀ H, Pv ns H → Qd H) :
    ∃ W : Nat → Nat → Hp → Prop, (∃ m, W 0 m (upd H1 Dl (.lst []))) ∧ ∀ i m H, W i m H →
      ((Itl K a).stop i H ∧ Qd H) ∨ ((Itl K a).go i H ∧ ∃ Nx : Hp → Prop, (∀ H', Nx H' → ∃ m', m' < m ∧ W (i + 1) m' H') ∧ ∀ x H', (Itl K a).yld i H x H' → g x (wipe σ ws) H' fun σ2 H2 => wipe σ2 ws = wipe σ ws ∧ tt σ2 H2 fun b H3 =>
        if b = true then te σ2 H3 fun y H4 => ∃ acc, H4 Dl = some (.lst acc) ∧ acc.length < sizeLine ∧ Nx (upd H4 Dl (.lst (acc ++ [y]))) else Nx H3) := by
  refine lc_list (K := K) (a := a) (xs := ns.map V.int) (fun i H => i ≤ ns.length ∧ Pv (ns.take i) H) ⟨Nat.zero_le _, h0⟩ (fun i H _ h => SqL.of (hl _ _ h.2)) (fun i x H e h => ?_) (fun H h => ?_)
  · rw [List.getElem?_map] at e
    cases q : ns[i]? with
    | none => rw [q] at e; cases e
    | some n =>
      rw [q] at e
      cases e
      have hi : i < ns.length := (List.getElem?_eq_some_iff.mp q).1
      have en : ns[i] = n := (List.getElem?_eq_some_iff.mp q).2
      have e2 : ns = ns.take i ++ n :: ns.drop (i + 1) := by
        rw [← en, List.getElem_cons_drop, List.take_append_drop]
      have e3 : ns.take (i + 1) = ns.take i ++ [n] := by rw [List.take_add_one, q]; rfl
      have e4 : (fun (H : Hp) => i + 1 ≤ ns.length ∧ Pv (ns.take (i + 1)) H) = Pv (ns.take i ++ [n]) := by
        funext H
        rw [e3]
        exact propext ⟨fun z => z.2, fun z => ⟨hi, z⟩⟩
      show g (.int n) (wipe σ ws) H fun σ2 H2 => wipe σ2 ws = wipe σ ws ∧ tt σ2 H2 fun b H3 =>
        if b = true then te σ2 H3 fun y H4 => ∃ acc, H4 Dl = some (.lst acc) ∧ acc.length < sizeLine ∧ (fun (H : Hp) => i + 1 ≤ ns.length ∧ Pv (ns.take (i + 1)) H) (upd H4 Dl (.lst (acc ++ [y]))) else (fun (H : Hp) => i + 1 ≤ ns.length ∧ Pv (ns.take (i + 1)) H) H3
      rw [e4]
      exact hs _ _ _ _ e2 h.2
  · have e : ns.take (ns.map V.int).length = ns := by rw [List.length_map, List.take_length]
    rw [e] at h
    exact hd _ h.2
end
theorem cutV_to (xs : List V) (n : Nat) : cutV xs none (some (n : Int)) = xs.take n := by
  unfold cutV
  rw [HT.sIx_none, HT.sIx_nat]
  simp
theorem cutV_from (xs : List V) (n : Nat) : cutV xs (some (n : Int)) none = xs.drop n := by
  unfold cutV
  rw [HT.sIx_none, HT.sIx_nat]
  by_cases h : n ≤ xs.length
  · rw [Nat.min_eq_left h]
    exact List.take_of_length_le (by rw [List.length_drop]; omega)
  · rw [Nat.min_eq_right (by omega), List.drop_of_length_le (Nat.le_refl _), List.drop_of_length_le (by omega)]
    simp
theorem at_nat {xs : List V} {i : Int} {k : Nat} {v : V} (hi : i = (k : Int)) (h : xs[k]? = some v) : atI xs i = some v := by
  subst hi
  exact atI_nat h
theorem ints_at {ns : List Int} {k : Nat} {n : Int} (h : ns[k]? = some n) : (ns.map V.int)[k]? = some (.int n) := by
  rw [List.getElem?_map, h]
  rfl
theorem ints_len {ns : List Int} : (ns.map V.int).length = ns.length := List.length_map ..
/-- the ints a, a + 1, .. below b -/
def rg (a b : Int) : List Int := (List.range (b - a).toNat).map fun i => a + (i : Nat)
theorem rgV_map (a b : Int) : rgV a b = (rg a b).map V.int := by
  unfold rgV rg
  rw [List.map_map]
  rfl
theorem map_erase {α β : Type} (f : α → β) : ∀ (l : List α) (k : Nat), (l.map f).eraseIdx k = (l.eraseIdx k).map f
  | [], _ => rfl
  | _ :: _, 0 => rfl
  | x :: l, k + 1 => by simp [map_erase f l k]
theorem rg_length (a b : Int) : (rg a b).length = (b - a).toNat := by unfold rg; rw [List.length_map, List.length_range]
theorem mem_rg {a b x : Int} : x ∈ rg a b ↔ a ≤ x ∧ x < b := by
  unfold rg
  rw [List.mem_map]
  constructor
  · rintro ⟨i, hi, rfl⟩
    rw [List.mem_range] at hi
    omega
  · rintro ⟨h1, h2⟩
    exact ⟨(x - a).toNat, by rw [List.mem_range]; omega, by omega⟩
theorem dec_eq_int {i j : Int} : decide (V.int i = V.int j) = decide (i = j) := by
  by_cases h : i = j
  · subst h; simp
  · rw [decide_eq_false h, decide_eq_false fun e => h (V.int.inj e)]
theorem iteB {b : Bool} {A B : Prop} (h1 : b = true → A) (h2 : b = false → B) : if b = true then A else B := by
  cases b with
  | true => exact iteT (h1 rfl)
  | false => exact iteF (h2 rfl)
/-- an effect as data -/
abbrev dE (e : Int × List Int) : D := .tuple [.int e.1, dI e.2]
end G
namespace G
open PySem PySem.Spec PyProof.Rows L2
mutual
/-- no less than the signs of the text -/
def wd : D → Nat
  | .none => 4
  | .bool _ => 5
  | .int i => i.natAbs.log2 + 3
  | .str x => (reprText x).length
  | .list ds => wds ds + 3
  | .tuple ds => wds ds + 3
  | .dict _ => 100000000
def wds : List D → Nat
  | [] => 0
  | d :: ds => wd d + 2 + wds ds
end
theorem shownAll_len : ∀ ds : List D, (PyData.shownAll ds).length = ds.length
  | [] => by simp [PyData.shownAll]
  | d :: ds => by simp [PyData.shownAll, shownAll_len ds]
mutual
theorem shown_wd : ∀ d : D, d.hasDict = false → d.shown.length ≤ wd d
  | .none, _ => by
    have e : (PyData.shown .none).length = 4 := rfl
    simp only [wd]
    omega
  | .bool b, _ => by
    have e : (PyData.shown (.bool b)).length ≤ 5 := by cases b <;> decide
    simpa only [wd] using e
  | .int i, _ => by
    have h := int_text_length_le (a := i) (k := i.natAbs.log2 + 1) (by omega) (by omega)
    have e : (PyData.shown (.int i)).length = (toString i).length := by
      show (Str.ofString (toString i)).length = _
      rw [PySem.ofString_length]
    rw [e]
    simp only [wd]
    omega
  | .str x, _ => by simp only [PyData.shown, wd]; exact Nat.le_refl _
  | .list ds, h => by
    have h1 := shownAll_wds ds (by simpa [PyData.hasDict] using h)
    have h2 := listText_len_le (PyData.shownAll ds)
    rw [shownAll_len] at h2
    simp only [PyData.shown, wd]
    omega
  | .tuple ds, h => by
    have h1 := shownAll_wds ds (by simpa [PyData.hasDict] using h)
    have h2 := tupleText_len_le (PyData.shownAll ds)
    rw [shownAll_len] at h2
    simp only [PyData.shown, wd]
    omega
  | .dict _, h => by simp [PyData.hasDict] at h
theorem shownAll_wds : ∀ ds : List D, PyData.hasDictAll ds = false → ((PyData.shownAll ds).map (·.length)).sum + 2 * ds.length ≤ wds ds
  | [], _ => by simp [PyData.shownAll, wds]
  | d :: ds, h => by
    have h' : d.hasDict = false ∧ PyData.hasDictAll ds = false := by simpa [PyData.hasDictAll] using h
    have h1 := shown_wd d h'.1
    have h2 := shownAll_wds ds h'.2
    simp only [PyData.shownAll, wds, List.map_cons, List.sum_cons, List.length_cons]
    omega
end
/-- it may be shown: at most k deep, at most B signs -/
structure Sh (k B : Nat) (d : D) : Prop where
  sh : d.showable = true
  dp : d.depth ≤ k
  wd : wd d ≤ B
theorem Sh.mono {k k' B B' : Nat} {d : D} (h : Sh k B d) (h1 : k ≤ k') (h2 : B ≤ B') : Sh k' B' d := ⟨h.sh, Nat.le_trans h.dp h1, Nat.le_trans h.wd h2⟩
theorem log2_of {n : Nat} (h : n < 2 ^ 200) : n.log2 < 200 := PySem.Flt.log2_lt_of (by decide) h
theorem sh_int {i : Int} (h : i.natAbs < 2 ^ 200) : Sh 1 205 (.int i) := by
  have := log2_of h
  exact ⟨by simp [PyData.showable]; omega, by simp [PyData.depth], by simp [G.wd]; omega⟩
theorem sh_all {k B : Nat} : ∀ {ds : List D}, (∀ d ∈ ds, Sh k B d) → PyData.showableAll ds = true ∧ PyData.depthAll ds ≤ k ∧ wds ds ≤ (B + 2) * ds.length
  | [], _ => ⟨by simp [PyData.showableAll], by simp [PyData.depthAll], by simp [wds]⟩
  | d :: ds, h => by
    have h1 := h d List.mem_cons_self
    obtain ⟨a, b, c⟩ := sh_all fun x m => h x (List.mem_cons_of_mem _ m)
    refine ⟨by simp [PyData.showableAll, h1.sh, a], ?_, ?_⟩
    · have := h1.dp
      simp only [PyData.depthAll]
      omega
    · have := h1.wd
      simp only [wds, List.length_cons]
      rw [Nat.mul_add]
      omega
theorem sh_list {k B n : Nat} {ds : List D} (h : ∀ d ∈ ds, Sh k B d) (hn : ds.length ≤ n) : Sh (k + 1) ((B + 2) * n + 3) (.list ds) := by
  obtain ⟨a, b, c⟩ := sh_all h
  have := Nat.mul_le_mul_left (B + 2) hn
  exact ⟨by simpa [PyData.showable] using a, by simp only [PyData.depth]; omega, by simp only [G.wd]; omega⟩
theorem sh_tuple {k B n : Nat} {ds : List D} (h : ∀ d ∈ ds, Sh k B d) (hn : ds.length ≤ n) : Sh (k + 1) ((B + 2) * n + 3) (.tuple ds) := by
  obtain ⟨a, b, c⟩ := sh_all h
  have := Nat.mul_le_mul_left (B + 2) hn
  exact ⟨by simpa [PyData.showable] using a, by simp only [PyData.depth]; omega, by simp only [G.wd]; omega⟩
theorem sh_ints {n : Nat} {gs : List Int} (h : ∀ x ∈ gs, x.natAbs < 2 ^ 200) (hn : gs.length ≤ n) : Sh 2 (207 * n + 3) (dI gs) := by
  refine sh_list (k := 1) (B := 205) (fun d m => ?_) (by rw [List.length_map]; exact hn)
  obtain ⟨x, hx, rfl⟩ := List.mem_map.mp m
  exact sh_int (h x hx)
section
variable {ta tb : TE} {ts : TA} {g : TG} {r : R2} {rc : List V → Hp → VK → Prop} {σ : L2.St} {H : Hp} {Q : VK} {De : Ends}
theorem w_asg (h : ta σ H fun x H1 => g x σ H1 De.nx) : tAsg ta g De σ H := h
theorem w_ret (h : ta σ H De.rt) : tRet ta De σ H := h
theorem w_lit {d : D} {H0 : Hp} {M : Option Addr} {pu : Option (Addr × Int)} {Fz Ow : List (V × D)} {Tp : List (Addr × List V)} (hS : St H0 M pu Fz Ow Tp H) (l : Lit ta d) (k : ∀ v H', St H0 M pu Fz ((v, d) :: Ow) Tp H' → Q v H') : ta σ H Q := l _ _ _ _ _ _ _ _ _ hS k
end
theorem tyL {K : PySem.W.Frag} {H : Hp} {p : Addr} {xs : List V} (h : H p = some (.lst xs)) : tyV K "list" (.ref p) H := Or.inl ⟨rfl, _, SqL.of h⟩
theorem eqvAll_ints : ∀ xs ys : List Int, PyData.eqvAll (xs.map PyData.int) (ys.map PyData.int) = decide (xs = ys)
  | [], [] => by simp [PyData.eqvAll]
  | [], _ :: _ => by simp [PyData.eqvAll]
  | _ :: _, [] => by simp [PyData.eqvAll]
  | x :: xs, y :: ys => by
    rw [List.map_cons, List.map_cons, PyData.eqvAll, eqvAll_ints xs ys, PyData.eqv]
    by_cases h : x = y
    · subst h
      simp
    · rw [beq_eq_false_iff_ne.mpr h, decide_eq_false (fun e => h (List.cons.inj e).1)]
      rfl
theorem eqv_ints (xs ys : List Int) : PyData.eqv (dI xs) (dI ys) = decide (xs = ys) := by rw [PyData.eqv, eqvAll_ints]
theorem canLay_ints : ∀ xs : List Int, PyData.canLayAll0 (xs.map PyData.int) = true
  | [] => by simp [PyData.canLayAll0]
  | x :: xs => by simp [PyData.canLayAll0, PyData.canLay0, canLay_ints xs]
theorem depth_ints : ∀ xs : List Int, PyData.depthAll (xs.map PyData.int) = 0
  | [] => by simp [PyData.depthAll]
  | x :: xs => by simp [PyData.depthAll, PyData.depth, depth_ints xs]
theorem shaped_ints (xs : List Int) : SeqAt.shaped (dI xs) = true := by
  unfold SeqAt.shaped
  simp [PyData.canLay0, PyData.depth, canLay_ints, depth_ints]
theorem inV_ints (t : Int) (ns : List Int) : inV (.int t) (ns.map V.int) = decide (t ∈ ns) := by
  unfold inV
  rw [List.any_map]
  induction ns with
  | nil => rfl
  | cons n ns ih =>
    rw [List.any_cons, ih]
    by_cases h : t = n
    · subst h
      simp [eqV]
    · have h2 : ¬ n = t := fun e => h e.symm
      simp [eqV, h, h2]
theorem flat_ints (ns : List Int) : (ns.map V.int).all flatV = true := by
  rw [List.all_map, List.all_eq_true]
  intro x _
  rfl
mutual
theorem nd_lay : ∀ d : D, d.canLay0 = true → d.hasDict = false
  | .none, _ => by simp [PyData.hasDict]
  | .bool _, _ => by simp [PyData.hasDict]
  | .int _, _ => by simp [PyData.hasDict]
  | .str _, _ => by simp [PyData.hasDict]
  | .list ds, h => by
    rw [PyData.hasDict]
    exact nd_lays ds (by simpa [PyData.canLay0] using h)
  | .tuple ds, h => by
    rw [PyData.hasDict]
    exact nd_lays ds (by simpa [PyData.canLay0] using h)
  | .dict _, h => by simp [PyData.canLay0] at h
theorem nd_lays : ∀ ds : List D, PyData.canLayAll0 ds = true → PyData.hasDictAll ds = false
  | [], _ => by simp [PyData.hasDictAll]
  | d :: ds, h => by
    have h' : d.canLay0 = true ∧ PyData.canLayAll0 ds = true := by simpa [PyData.canLayAll0] using h
    rw [PyData.hasDictAll, nd_lay d h'.1, nd_lays ds h'.2]
    rfl
end
mutual
theorem nd_wd : ∀ d : D, wd d < 100000000 → d.hasDict = false
  | .none, _ => by simp [PyData.hasDict]
  | .bool _, _ => by simp [PyData.hasDict]
  | .int _, _ => by simp [PyData.hasDict]
  | .str _, _ => by simp [PyData.hasDict]
  | .list ds, h => by
    rw [PyData.hasDict]
    rw [wd] at h
    exact nd_wds ds (by omega)
  | .tuple ds, h => by
    rw [PyData.hasDict]
    rw [wd] at h
    exact nd_wds ds (by omega)
  | .dict _, h => by rw [wd] at h; omega
theorem nd_wds : ∀ ds : List D, wds ds < 100000000 → PyData.hasDictAll ds = false
  | [], _ => by simp [PyData.hasDictAll]
  | d :: ds, h => by
    rw [wds] at h
    rw [PyData.hasDictAll, nd_wd d (by omega), nd_wds ds (by omega)]
    rfl
end
theorem nd_shaped {d : D} (h : SeqAt.shaped d = true) : d.hasDict = false := nd_lay d (SeqAt.canLay_of_shaped h)
theorem nd_ints : ∀ ns : List Int, PyData.hasDictAll (ns.map PyData.int) = false
  | [] => rfl
  | n :: ns => by
    rw [List.map_cons, PyData.hasDictAll, nd_ints ns]
    rfl
theorem dp_ints {K : PySem.W.Frag} {H : Hp} {a : Addr} {ns : List Int} (h : H a = some (.lst (ns.map V.int))) : Dp K H (.ref a) (dI ns) := Rep.dp K _ _ _ (.lst h (Reps.intsR ns)) (by rw [PyData.hasDict]; exact nd_ints ns)
theorem cutV_mid (xs : List V) (a b : Nat) : cutV xs (some (a : Int)) (some (b : Int)) = (xs.drop a).take (b - a) := by
  unfold cutV
  rw [HT.sIx_nat, HT.sIx_nat]
  by_cases h : a ≤ xs.length
  · rw [Nat.min_eq_left h]
    by_cases h2 : b ≤ xs.length
    · rw [Nat.min_eq_left h2]
    · rw [Nat.min_eq_right (by omega), List.take_of_length_le (by rw [List.length_drop]; omega), List.take_of_length_le (by rw [List.length_drop]; omega)]
  · rw [Nat.min_eq_right (show xs.length ≤ a by omega), List.drop_of_length_le (Nat.le_refl _), List.drop_of_length_le (show xs.length ≤ a by omega)]
    simp
theorem cutV_neg (xs : List V) (i : Int) : cutV xs (some i) (some 0) = [] := by
  unfold cutV
  have e : HT.sIx xs.length xs.length (some (0 : Int)) = 0 := by
    have := HT.sIx_nat xs.length xs.length 0
    simpa using this
  rw [e, Nat.zero_sub, List.take_zero]
end G
namespace G
open PySem PySem.Spec PyProof.Rows L2
def tyN : D → String
  | .none => "NoneType"
  | .bool _ => "bool"
  | .int _ => "int"
  | .str _ => "str"
  | .list _ => "list"
  | .tuple _ => "tuple"
  | .dict _ => "dict"
/-- an instance of a class -/
def isObj : D → Bool
  | .dict [(.tuple _, _)] => true
  | _ => false
theorem tyx {K : PySem.W.Frag} {H : Hp} {S : List Addr} {v : V} {d : D} (r : Rep H S v d) (ho : isObj d = false) : TyX K H v (.type (tyN d)) := by
  cases r with
  | non => exact .base .non
  | bl b => exact .base (.bl b)
  | int i => exact .base (.int i)
  | str x => exact .base (.str x)
  | lst e _ => exact .base (.lst e)
  | tup e _ => exact .base (.tup e)
  | box e _ => cases e with
    | ins _ _ => cases ho
    | dK e _ => exact .base (.dK e)
def isList : D → Bool
  | .list _ => true
  | _ => false
def isTuple : D → Bool
  | .tuple _ => true
  | _ => false
theorem kit_list {K : PySem.W.Frag} : ∀ {H : Hp} {S : List Addr} {v : V} {d : D}, Rep H S v d → PySem.W.kitOne K (.type (tyN d)) (.type "list") = some (isList d) := fun r => by
  cases r with
  | non => exact kit_ty (by decide +kernel)
  | bl b => exact kit_ty (show kitB "bool" "list" = some false by decide +kernel)
  | int i => exact kit_ty (show kitB "int" "list" = some false by decide +kernel)
  | str x => exact kit_ty (show kitB "str" "list" = some false by decide +kernel)
  | lst e _ => exact kit_ty (show kitB "list" "list" = some true by decide +kernel)
  | tup e _ => exact kit_ty (show kitB "tuple" "list" = some false by decide +kernel)
  | box e _ => exact kit_ty (show kitB "dict" "list" = some false by decide +kernel)
theorem kit_tuple {K : PySem.W.Frag} : ∀ {H : Hp} {S : List Addr} {v : V} {d : D}, Rep H S v d → PySem.W.kitOne K (.type (tyN d)) (.type "tuple") = some (isTuple d) := fun r => by
  cases r with
  | non => exact kit_ty (by decide +kernel)
  | bl b => exact kit_ty (show kitB "bool" "tuple" = some false by decide +kernel)
  | int i => exact kit_ty (show kitB "int" "tuple" = some false by decide +kernel)
  | str x => exact kit_ty (show kitB "str" "tuple" = some false by decide +kernel)
  | lst e _ => exact kit_ty (show kitB "list" "tuple" = some false by decide +kernel)
  | tup e _ => exact kit_ty (show kitB "tuple" "tuple" = some true by decide +kernel)
  | box e _ => exact kit_ty (show kitB "dict" "tuple" = some false by decide +kernel)
/-- one of two rules -/
theorem pi_or {X : Cx} {tg l : Expr} {w1 w2 : TI} (h1 : PI X tg l w1) (h2 : PI X tg l w2) : PI X tg l (fun σ H R => w1 σ H R ∨ w2 σ H R) :=
  ⟨fun pins s σ H R I h => h.elim (h1.run pins s σ H R I) (h2.run pins s σ H R I)⟩
theorem depth_mem : ∀ {ds : List D} {d : D}, d ∈ ds → d.depth ≤ PyData.depthAll ds
  | x :: ds, d, h => by
    simp only [PyData.depthAll]
    rcases List.mem_cons.mp h with rfl | h
    · omega
    · have := depth_mem h
      omega
theorem wd_mem : ∀ {ds : List D} {d : D}, d ∈ ds → wd d + 2 ≤ wds ds
  | x :: ds, d, h => by
    simp only [wds]
    rcases List.mem_cons.mp h with rfl | h
    · omega
    · have := wd_mem h
      omega
theorem wds_len : ∀ ds : List D, 2 * ds.length ≤ wds ds
  | [] => Nat.zero_le _
  | d :: ds => by
    have := wds_len ds
    simp only [wds, List.length_cons]
    omega
/-- a comprehension over a list of ints whose items are ints: the list of what they become -/
theorem lc_map {K : PySem.W.Frag} {te : TE} {σ : L2.St} {H H0 : Hp} {M : Option Addr} {pu : Option (Addr × Int)} {Fz Ow : List (V × D)} {Tp : List (Addr × List V)} {Dl a : Addr} {ns : List Int} {j : Nat} {Qd : Hp → Prop} (f : Int → Int)
    (hS : St H0 M pu Fz Ow Tp H) (hD : H Dl = none) (hr : ∀ gs : List Int, Rdb Fz ((.ref Dl, dI gs) :: Ow) Tp (.ref a) (dI ns)) (len : ns.length ≤ 1000000)
    (step : ∀ x ∈ ns, ∀ gs H1, St H0 M pu Fz ((.ref Dl, dI gs) :: Ow) Tp H1 → ∀ R : VK, R (.int (f x)) H1 → te ((wipe σ [j]).set j (some (.int x))) H1 R)
    (k : ∀ H', St H0 M pu Fz ((.ref Dl, dI (ns.map f)) :: Ow) Tp H' → Qd H') :
    ∃ W : Nat → Nat → Hp → Prop, (∃ m, W 0 m (upd H Dl (.lst []))) ∧ ∀ i m H, W i m H →
      ((Itl K a).stop i H ∧ Qd H) ∨ ((Itl K a).go i H ∧ ∃ Nx : Hp → Prop, (∀ H', Nx H' → ∃ m', m' < m ∧ W (i + 1) m' H') ∧ ∀ x H', (Itl K a).yld i H x H' → gName j x (wipe σ [j]) H' fun σ2 H2 => wipe σ2 [j] = wipe σ [j] ∧ tYes σ2 H2 fun b H3 =>
        if b = true then te σ2 H3 fun y H4 => ∃ acc, H4 Dl = some (.lst acc) ∧ acc.length < sizeLine ∧ Nx (upd H4 Dl (.lst (acc ++ [y]))) else Nx H3) := by
  refine lc_ints (fun pre H1 => St H0 M pu Fz ((.ref Dl, dI (pre.map f)) :: Ow) Tp H1) (by simpa using hS.mkInts (ns := []) hD) (fun pre H1 h => ?_) (fun pre x post H1 e h => ?_) (fun H1 h => k _ h)
  · obtain ⟨a', e, ha⟩ := h.rints (v := .ref a) (ns := ns) (hr _)
    cases e
    exact ha
  · refine ⟨?_, ?_⟩
    · show ((σ.set j none).set j _).set j none = σ.set j none
      rw [List.set_set, List.set_set]
    · unfold tYes; dsimp only
      rw [if_pos rfl]
      refine step x (by rw [e]; simp) _ _ h _ ?_
      obtain ⟨hD2, kp⟩ := h.putInts
      refine ⟨_, hD2, szlt (by rw [ints_len, List.length_map]; rw [e] at len; simp at len; omega), ?_⟩
      have h4 := kp (pre.map f ++ [f x])
      simpa using h4
/-- all that is owned is frozen -/
theorem St.frz {H0 H : Hp} {M : Option Addr} {pu : Option (Addr × Int)} {Tp : List (Addr × List V)} : ∀ {Ow Fz : List (V × D)}, St H0 M pu Fz Ow Tp H → St H0 M pu (Ow ++ Fz) [] Tp H
  | [], _, h => h
  | (_, _) :: _, _, h => (St.frz h.freeze).fzs fun x hx => by
    rcases List.mem_append.mp hx with hx | hx
    · rcases List.mem_cons.mp hx with rfl | hx
      · exact List.mem_append_right _ List.mem_cons_self
      · exact List.mem_append_left _ hx
    · exact List.mem_append_right _ (List.mem_cons_of_mem _ hx)
end G
namespace G
open PySem PySem.Spec PyProof.Rows L2
theorem Rep.same {H H1 : Hp} {S : List Addr} {v : V} {d : D} (r : Rep H S v d) (sm : Same H H1) : Rep H1 S v d := Rep.mono (fun t vs e => sm _ _ e) _ _ _ r fun a m o e => sm a o e
theorem kit_seq {K : PySem.W.Frag} {H : Hp} {S : List Addr} {v : V} {d : D} (r : Rep H S v d) : PySem.W.kitAny K (.type (tyN d)) [.type "list", .type "tuple"] = some (isList d || isTuple d) := by
  refine kitAny_cons (kit_list r) (fun e => ?_) (fun e => by rw [e]; rfl)
  rw [e, Bool.false_or]
  refine kitAny_cons (kit_tuple r) (fun e => ?_) (fun e => e)
  rw [e]
  exact kitAny_nil
mutual
def spD : D → Int → D × Int
  | .list ds, k => (.list ((spDs ds k).1 ++ [.int (-((spDs ds k).2 + 1))]), (spDs ds k).2 + 1)
  | .tuple ds, k => (.tuple (spDs ds k).1, (spDs ds k).2)
  | .none, k => (.none, k)
  | .bool b, k => (.bool b, k)
  | .int i, k => (.int i, k)
  | .str x, k => (.str x, k)
  | .dict x, k => (.dict x, k)
def spDs : List D → Int → List D × Int
  | [], k => ([], k)
  | d :: ds, k => ((spD d k).1 :: (spDs ds (spD d k).2).1, (spDs ds (spD d k).2).2)
end
theorem spDs_snoc : ∀ (ds : List D) (d : D) (k : Int), spDs (ds ++ [d]) k = ((spDs ds k).1 ++ [(spD d (spDs ds k).2).1], (spD d (spDs ds k).2).2)
  | [], d, k => by simp [spDs]
  | x :: ds, d, k => by
    rw [List.cons_append, spDs, spDs_snoc ds d]
    simp [spDs]
mutual
/-- how many lists -/
def nl : D → Nat
  | .list ds => nls ds + 1
  | .tuple ds => nls ds
  | _ => 0
def nls : List D → Nat
  | [] => 0
  | d :: ds => nl d + nls ds
end
theorem depthAll_app : ∀ (ds es : List D), PyData.depthAll (ds ++ es) = max (PyData.depthAll ds) (PyData.depthAll es)
  | [], es => by simp [PyData.depthAll]
  | d :: ds, es => by simp only [List.cons_append, PyData.depthAll, depthAll_app ds es]; omega
theorem wds_app : ∀ (ds es : List D), wds (ds ++ es) = wds ds + wds es
  | [], es => by simp [wds]
  | d :: ds, es => by simp only [List.cons_append, wds, wds_app ds es]; omega
theorem showableAll_app : ∀ (ds es : List D), PyData.showableAll (ds ++ es) = (PyData.showableAll ds && PyData.showableAll es)
  | [], es => by simp [PyData.showableAll]
  | d :: ds, es => by simp [PyData.showableAll, showableAll_app ds es, Bool.and_assoc]
theorem int_wd {i : Int} (h : i.natAbs < 2 ^ 20) : wd (.int i) ≤ 22 := by
  have : i.natAbs.log2 < 20 := PySem.Flt.log2_lt_of (by decide) h
  simp only [G.wd]
  omega
mutual
theorem sp_sh : ∀ (d : D) (k : Int), d.showable = true → 0 ≤ k → k + nl d < 2 ^ 20 → (spD d k).1.showable = true ∧ (spD d k).1.depth = d.depth ∧ wd (spD d k).1 ≤ wd d + 25 * nl d ∧ k ≤ (spD d k).2 ∧ (spD d k).2 = k + nl d
  | .list ds, k, h, h0, h1 => by
    simp only [nl] at h1
    obtain ⟨a1, a2, a3, a4, a5⟩ := sps_sh ds k (by simpa [PyData.showable] using h) h0 (by omega)
    have si := sh_int (i := -((spDs ds k).2 + 1)) (by omega)
    have w := int_wd (i := -((spDs ds k).2 + 1)) (by omega)
    have dd := si.sh
    have d0 : (PyData.int (-((spDs ds k).2 + 1))).depth = 0 := by simp [PyData.depth]
    refine ⟨?_, ?_, ?_, ?_, ?_⟩
    · simp only [spD, PyData.showable]
      rw [showableAll_app, a1]
      simp only [PyData.showableAll, dd, Bool.and_true, Bool.true_and]
    · simp only [spD, PyData.depth]
      rw [depthAll_app, a2]
      simp only [PyData.depthAll, d0]
      omega
    · simp only [spD, G.wd, nl] at w ⊢
      rw [wds_app]
      simp only [wds, G.wd]
      omega
    · simp only [spD]
      omega
    · simp only [spD, nl]
      omega
  | .tuple ds, k, h, h0, h1 => by
    simp only [nl] at h1
    obtain ⟨a1, a2, a3, a4, a5⟩ := sps_sh ds k (by simpa [PyData.showable] using h) h0 (by omega)
    refine ⟨by simpa only [spD, PyData.showable] using a1, ?_, ?_, by simpa only [spD] using a4, by simpa only [spD, nl] using a5⟩
    · simp only [spD, PyData.depth]
      omega
    · simp only [spD, G.wd, nl]
      omega
  | .none, k, h, h0, h1 => by simp [spD, nl, h]
  | .bool _, k, h, h0, h1 => by simp [spD, nl, h]
  | .int _, k, h, h0, h1 => by simp only [spD, nl]; exact ⟨h, trivial, by omega, by omega, by omega⟩
  | .str _, k, h, h0, h1 => by simp only [spD, nl]; exact ⟨h, trivial, by omega, by omega, by omega⟩
  | .dict _, k, h, h0, h1 => by simp only [spD, nl]; exact ⟨h, trivial, by omega, by omega, by omega⟩
theorem sps_sh : ∀ (ds : List D) (k : Int), PyData.showableAll ds = true → 0 ≤ k → k + nls ds < 2 ^ 20 → PyData.showableAll (spDs ds k).1 = true ∧ PyData.depthAll (spDs ds k).1 = PyData.depthAll ds ∧ wds (spDs ds k).1 ≤ wds ds + 25 * nls ds ∧ k ≤ (spDs ds k).2 ∧ (spDs ds k).2 = k + nls ds
  | [], k, h, h0, h1 => by simp [spDs, nls, h]
  | d :: ds, k, h, h0, h1 => by
    simp only [nls] at h1
    simp only [PyData.showableAll, Bool.and_eq_true] at h
    obtain ⟨a1, a2, a3, a4, a5⟩ := sp_sh d k h.1 h0 (by omega)
    obtain ⟨b1, b2, b3, b4, b5⟩ := sps_sh ds (spD d k).2 h.2 (by omega) (by omega)
    refine ⟨by simp only [spDs, PyData.showableAll, a1, b1, Bool.and_self], ?_, ?_, ?_, ?_⟩
    · simp only [spDs, PyData.depthAll, a2, b2]
    · simp only [spDs, wds, nls]
      omega
    · simp only [spDs]
      omega
    · simp only [spDs, nls]
      omega
end
theorem sp_Sh {k B : Nat} {d : D} (h : Sh k B d) (hn : nl d ≤ 100000) : Sh k (B + 25 * nl d) (spD d 0).1 := by
  obtain ⟨a1, a2, a3, _, _⟩ := sp_sh d 0 h.sh (Int.le_refl _) (by omega)
  have := h.dp
  have := h.wd
  exact ⟨a1, by omega, by omega⟩
theorem nls_ints : ∀ ns : List Int, nls (ns.map PyData.int) = 0
  | [] => rfl
  | n :: ns => by simp only [List.map_cons, nls, nl, nls_ints ns]
/-- what spoils a tree: the tree is changed in place, and a count -/
def spSpoil (n : Nat) : Sp := fun vs H Q _ => ∃ (v : V) (l : Addr) (d : D) (k : Int) (S : List Addr), vs = [v, .ref l] ∧ Rep H S v d ∧ S.Nodup ∧ l ∉ S ∧ H l = some (.lst [.int k]) ∧ d.depth < n ∧ wd d ≤ 10000000 ∧
  ∀ H', (∀ a o, H a = some o → a ∉ S → a ≠ l → H' a = some o) → Rep H' S v (spD d k).1 → H' l = some (.lst [.int (spD d k).2]) → Q .non H'
/-- what is given a tree of its own, and leaves all else -/
def spEat : Sp := fun vs H Q _ => ∃ (v : V) (d : D) (S : List Addr), vs = [v] ∧ Rep H S v d ∧ S.Nodup ∧ Sh 20 5000000 d ∧ nl d ≤ 40000 ∧
  ∀ r H', r = V.bl true → (∀ a o, H a = some o → a ∉ S → H' a = some o) → Q r H'
theorem St.eat {H0 H : Hp} {M : Option Addr} {pu : Option (Addr × Int)} {Fz Ow : List (V × D)} {Tp : List (Addr × List V)} {v : V} {d : D} (h : St H0 M pu Fz ((v, d) :: Ow) Tp H) :
    ∃ S, Rep H S v d ∧ S.Nodup ∧ ∀ H', (∀ a o, H a = some o → a ∉ S → H' a = some o) → St H0 M pu Fz Ow Tp H' := by
  obtain ⟨Z, S, h1, h2, h3, h4, h5, h6, h7, h8⟩ := h
  cases h3 with
  | @cons S1 S2 _ _ _ _ r1 r2 =>
    have nd := List.nodup_append.mp h4
    refine ⟨S1, r1, nd.1, fun H' fr => ?_⟩
    have nt : ∀ t vs, H t = some (.tup vs) → H' t = some (.tup vs) := fun t vs e => fr t _ e fun z => by
      obtain ⟨xs, e2, e3⟩ := Rep.domN _ _ _ r1 t z
      rw [e] at e2
      cases e2
      exact e3
    have nz : ∀ a, Z a → a ∉ S1 := fun a z m => (h5 a (List.mem_append_left _ m)).1 z
    refine ⟨Z, S2, fun a o e m => ⟨(h1 a o e m).1, fr a o (h1 a o e m).2 (nz a (h1 a o e m).1)⟩, fun x m => ?_, ?_, nd.2.1, fun a m => h5 a (List.mem_append_right _ m), fun x m => nt _ _ (h6 x m), fun p b e => ⟨?_, (h7 p b e).2.1, fun m => (h7 p b e).2.2 (List.mem_append_right _ m)⟩, fun a z => ?_⟩
    · obtain ⟨T, r, z⟩ := h2 x m
      exact ⟨T, Rep.mono nt _ _ _ r fun a q o e => fr a o e (nz a (z a q)), z⟩
    · exact Reps.mono nt _ _ _ r2 fun a q o e => fr a o e fun m => nd.2.2 a m a q rfl
    · exact (h7 p b e).1.mono fun o e2 => fr p o e2 fun m => (h7 p b e).2.2 (List.mem_append_left _ m)
    · obtain ⟨o, e⟩ := h8 a z
      refine ⟨o, fr a o e fun m => ?_⟩
      rcases z with z | z
      · exact nz a z m
      · exact (h5 a (List.mem_append_left _ m)).2 z.symm
/-- the items up to i are spoiled -/
def SpI (H : Hp) (l : Addr) (k : Int) (S : List Addr) (vs : List V) (ds : List D) (i : Nat) (H1 : Hp) : Prop :=
  ∃ S1 S2, S = S1 ++ S2 ∧ Reps H1 S1 (vs.take i) (spDs (ds.take i) k).1 ∧ Reps H1 S2 (vs.drop i) (ds.drop i) ∧ H1 l = some (.lst [.int (spDs (ds.take i) k).2]) ∧ ∀ b o, H b = some o → b ∉ S → b ≠ l → H1 b = some o
theorem SpI.zero {H H1 : Hp} {l : Addr} {k : Int} {S : List Addr} {vs : List V} {ds : List D} (r : Reps H1 S vs ds) (hl : H1 l = some (.lst [.int k])) (fr : ∀ b o, H b = some o → b ∉ S → b ≠ l → H1 b = some o) : SpI H l k S vs ds 0 H1 :=
  ⟨[], S, rfl, .nil, r, hl, fr⟩
theorem SpI.fin {H H1 : Hp} {l : Addr} {k : Int} {S : List Addr} {vs : List V} {ds : List D} (h : SpI H l k S vs ds vs.length H1) (e : vs.length = ds.length) : Reps H1 S vs (spDs ds k).1 ∧ H1 l = some (.lst [.int (spDs ds k).2]) ∧ ∀ b o, H b = some o → b ∉ S → b ≠ l → H1 b = some o := by
  obtain ⟨S1, S2, rfl, h1, h2, h3, h4⟩ := h
  rw [List.take_length, e, List.take_length] at h1
  rw [e, List.take_length] at h3
  rw [List.drop_length, e, List.drop_length] at h2
  cases h2
  rw [List.append_nil] at h4 ⊢
  exact ⟨h1, h3, h4⟩
theorem SpI.step {H H1 : Hp} {l : Addr} {k : Int} {S : List Addr} {vs : List V} {ds : List D} {i : Nat} {x : V} {di : D} (nd : S.Nodup) (nl : l ∉ S) (h : SpI H l k S vs ds i H1) (hx : vs[i]? = some x) (hd : ds[i]? = some di) :
    ∃ Sx, Rep H1 Sx x di ∧ Sx.Nodup ∧ l ∉ Sx ∧ H1 l = some (.lst [.int (spDs (ds.take i) k).2]) ∧ ∀ H2, (∀ b o, H1 b = some o → b ∉ Sx → b ≠ l → H2 b = some o) → Rep H2 Sx x (spD di (spDs (ds.take i) k).2).1 → H2 l = some (.lst [.int (spD di (spDs (ds.take i) k).2).2]) → SpI H l k S vs ds (i + 1) H2 := by
  obtain ⟨S1, S2, rfl, h1, h2, h3, h4⟩ := h
  have hi := (List.getElem?_eq_some_iff.mp hx).1
  have ex := (List.getElem?_eq_some_iff.mp hx).2
  have hj := (List.getElem?_eq_some_iff.mp hd).1
  have ed := (List.getElem?_eq_some_iff.mp hd).2
  rw [List.drop_eq_getElem_cons hi, List.drop_eq_getElem_cons hj, ex, ed] at h2
  cases h2 with
  | @cons Sx S3 _ _ _ _ r1 r2 =>
    have n1 := List.nodup_append.mp nd
    have n2 := List.nodup_append.mp n1.2.1
    refine ⟨Sx, r1, n2.1, fun m => nl (List.mem_append_right _ (List.mem_append_left _ m)), h3, fun H2 fr rx hl2 => ?_⟩
    have nt : ∀ t xs, H1 t = some (.tup xs) → H2 t = some (.tup xs) := fun t xs e => fr t _ e (fun m => by
      obtain ⟨ys, e2, e3⟩ := Rep.domN _ _ _ r1 t m
      rw [e] at e2
      cases e2
      exact e3) (fun z => by
      rw [z, h3] at e
      cases e)
    refine ⟨S1 ++ Sx, S3, by rw [List.append_assoc], ?_, ?_, ?_, fun b o e m1 m2 => fr b o (h4 b o e m1 m2) (fun m => m1 (List.mem_append_right _ (List.mem_append_left _ m))) m2⟩
    · have q := Reps.append (Reps.mono nt _ _ _ h1 fun a m o e => fr a o e (fun m2 => n1.2.2 a m a (List.mem_append_left _ m2) rfl) (fun z => nl (z ▸ List.mem_append_left _ m))) (Reps.cons rx .nil)
      rw [List.append_nil] at q
      have e1 : vs.take (i + 1) = vs.take i ++ [x] := by rw [List.take_add_one, hx]; rfl
      have e2 : ds.take (i + 1) = ds.take i ++ [di] := by rw [List.take_add_one, hd]; rfl
      rw [e1, e2, spDs_snoc]
      exact q
    · exact Reps.mono nt _ _ _ r2 fun a m o e => fr a o e (fun m2 => n2.2.2 a m2 a m rfl) (fun z => nl (z ▸ List.mem_append_right _ (List.mem_append_right _ m)))
    · have e2 : ds.take (i + 1) = ds.take i ++ [di] := by rw [List.take_add_one, hd]; rfl
      rw [e2, spDs_snoc]
      exact hl2
theorem Rdb.up {Fz Ow : List (V × D)} {Tp : List (Addr × List V)} {v : V} {d : D} (x : V × D) (r : Rdb Fz Ow Tp v d) : Rdb Fz (x :: Ow) Tp v d := by
  induction r with
  | non => exact .non
  | bl b => exact .bl b
  | int i => exact .int i
  | str x => exact .str x
  | fz m => exact .fz m
  | ow m => exact .ow (List.mem_cons_of_mem _ m)
  | tp0 m => exact .tp0 m
  | tp1 m _ h1 => exact .tp1 m h1
  | tp2 m _ _ h1 h2 => exact .tp2 m h1 h2
  | tp3 m _ _ _ h1 h2 h3 => exact .tp3 m h1 h2 h3
theorem Rdb.mono {Fz Fz' Ow Ow' : List (V × D)} {Tp Tp' : List (Addr × List V)} {v : V} {d : D} (hF : ∀ x ∈ Fz, x ∈ Fz') (hO : ∀ x ∈ Ow, x ∈ Ow') (hT : ∀ x ∈ Tp, x ∈ Tp') (r : Rdb Fz Ow Tp v d) : Rdb Fz' Ow' Tp' v d := by
  induction r with
  | non => exact .non
  | bl b => exact .bl b
  | int i => exact .int i
  | str x => exact .str x
  | fz m => exact .fz (hF _ m)
  | ow m => exact .ow (hO _ m)
  | tp0 m => exact .tp0 (hT _ m)
  | tp1 m _ h1 => exact .tp1 (hT _ m) h1
  | tp2 m _ _ h1 h2 => exact .tp2 (hT _ m) h1 h2
  | tp3 m _ _ _ h1 h2 h3 => exact .tp3 (hT _ m) h1 h2 h3
theorem Rdb.upT {Fz Ow : List (V × D)} {Tp : List (Addr × List V)} {v : V} {d : D} {x : Addr × List V} (r : Rdb Fz Ow Tp v d) : Rdb Fz Ow (x :: Tp) v d := r.mono (fun _ h => h) (fun _ h => h) fun _ h => List.mem_cons_of_mem _ h
theorem Rdb.upF {Fz Ow : List (V × D)} {Tp : List (Addr × List V)} {v : V} {d : D} {x : V × D} (r : Rdb Fz Ow Tp v d) : Rdb (x :: Fz) Ow Tp v d := r.mono (fun _ h => List.mem_cons_of_mem _ h) (fun _ h => h) fun _ h => h
theorem Rdb.upO {Fz Ow : List (V × D)} {Tp : List (Addr × List V)} {v : V} {d : D} {x : V × D} (r : Rdb Fz Ow Tp v d) : Rdb Fz (x :: Ow) Tp v d := r.up x
/-- a fresh list of two things that are readable -/
theorem St.two {H0 H : Hp} {M : Option Addr} {pu : Option (Addr × Int)} {Fz Ow : List (V × D)} {Tp : List (Addr × List V)} {v1 v2 : V} {d1 d2 : D} {L : Addr} (h : St H0 M pu Fz Ow Tp H) (hL : H L = Option.none) (r1 : Rdb Fz Ow Tp v1 d1) (r2 : Rdb Fz Ow Tp v2 d2) :
    St H0 M pu Fz Ow Tp (upd H L (.lst [v1, v2])) ∧ ∃ T, Rep (upd H L (.lst [v1, v2])) T (.ref L) (.list [d1, d2]) := by
  have h1 := h.same (same_upd (o := .lst [v1, v2]) hL)
  obtain ⟨T1, p1, _⟩ := h1.rd r1
  obtain ⟨T2, p2, _⟩ := h1.rd r2
  exact ⟨h1, _, .lst upd_same (.cons p1 (.cons p2 .nil))⟩
end G
namespace G
open PySem PySem.Spec PyProof.Rows L2
abbrev Reg := Addr → Prop
abbrev noReg : Reg := fun _ => False
mutual
inductive Tr (H : Hp) (Z : Reg) : List Addr → V → D → Prop
  | non : Tr H Z [] .non .none
  | bl (b : Bool) : Tr H Z [] (.bl b) (.bool b)
  | int (i : Int) : Tr H Z [] (.int i) (.int i)
  | str (x : Str) : Tr H Z [] (.str x) (.str x)
  | lst {a : Addr} {vs : List V} {S : List Addr} {ds : List D} : H a = some (.lst vs) → Trs H Z S vs ds → Tr H Z (a :: S) (.ref a) (.list ds)
  | lstZ {a : Addr} {vs : List V} {ds : List D} : Z a → H a = some (.lst vs) → Trs H Z [] vs ds → Tr H Z [] (.ref a) (.list ds)
  | tup {a : Addr} {vs : List V} {S : List Addr} {ds : List D} : H a = some (.tup vs) → Trs H Z S vs ds → Tr H Z S (.ref a) (.tuple ds)
  | box {a : Addr} {t : D} {vs : List V} {S : List Addr} {ds : List D} : Bx H a t vs → Trs H Z S vs ds → Tr H Z (a :: S) (.ref a) (.dict [(t, .list ds)])
  | boxZ {a : Addr} {t : D} {vs : List V} {ds : List D} : Z a → Bx H a t vs → Trs H Z [] vs ds → Tr H Z [] (.ref a) (.dict [(t, .list ds)])
inductive Trs (H : Hp) (Z : Reg) : List Addr → List V → List D → Prop
  | nil : Trs H Z [] [] []
  | cons {S T : List Addr} {v : V} {vs : List V} {d : D} {ds : List D} : Tr H Z S v d → Trs H Z T vs ds → Trs H Z (S ++ T) (v :: vs) (d :: ds)
end
section
variable {H H' : Hp} {Z Z' : Reg}
mutual
theorem Tr.mono (ht : ∀ t vs, H t = some (.tup vs) → H' t = some (.tup vs)) (hz : ∀ a, Z a → Z' a) (kz : ∀ a, Z a → ∀ o, H a = some o → H' a = some o) : ∀ (d : D) (S : List Addr) (v : V), Tr H Z S v d → (∀ a ∈ S, ∀ o, H a = some o → H' a = some o) → Tr H' Z' S v d
  | .none, _, _, h, _ => by cases h; exact .non
  | .bool b, _, _, h, _ => by cases h; exact .bl b
  | .int i, _, _, h, _ => by cases h; exact .int i
  | .str x, _, _, h, _ => by cases h; exact .str x
  | .list ds, _, _, h, k => by
    cases h with
    | lst h1 h2 => exact .lst (k _ List.mem_cons_self _ h1) (Trs.mono ht hz kz ds _ _ h2 fun a ha => k a (List.mem_cons_of_mem _ ha))
    | lstZ h0 h1 h2 => exact .lstZ (hz _ h0) (kz _ h0 _ h1) (Trs.mono ht hz kz ds _ _ h2 fun a ha => nomatch ha)
  | .tuple ds, _, _, h, k => by
    cases h with
    | tup h1 h2 => exact .tup (ht _ _ h1) (Trs.mono ht hz kz ds _ _ h2 k)
  | .dict _, _, _, h, k => by
    cases h with
    | box h1 h2 => exact .box (h1.mono (k _ List.mem_cons_self)) (Trs.mono ht hz kz _ _ _ h2 fun a ha => k a (List.mem_cons_of_mem _ ha))
    | boxZ h0 h1 h2 => exact .boxZ (hz _ h0) (h1.mono (kz _ h0)) (Trs.mono ht hz kz _ _ _ h2 fun a ha => nomatch ha)
theorem Trs.mono (ht : ∀ t vs, H t = some (.tup vs) → H' t = some (.tup vs)) (hz : ∀ a, Z a → Z' a) (kz : ∀ a, Z a → ∀ o, H a = some o → H' a = some o) : ∀ (ds : List D) (S : List Addr) (vs : List V), Trs H Z S vs ds → (∀ a ∈ S, ∀ o, H a = some o → H' a = some o) → Trs H' Z' S vs ds
  | [], _, _, h, _ => by cases h; exact .nil
  | d :: ds, _, _, h, k => by
    cases h with
    | cons h1 h2 => exact .cons (Tr.mono ht hz kz d _ _ h1 fun a ha => k a (List.mem_append_left _ ha)) (Trs.mono ht hz kz ds _ _ h2 fun a ha => k a (List.mem_append_right _ ha))
end
mutual
/-- all is in a greater region -/
theorem Tr.freeze (hz : ∀ a, Z a → Z' a) : ∀ (d : D) (S : List Addr) (v : V), Tr H Z S v d → (∀ a ∈ S, Z' a) → Tr H Z' [] v d
  | .none, _, _, h, _ => by cases h; exact .non
  | .bool b, _, _, h, _ => by cases h; exact .bl b
  | .int i, _, _, h, _ => by cases h; exact .int i
  | .str x, _, _, h, _ => by cases h; exact .str x
  | .list ds, _, _, h, k => by
    cases h with
    | lst h1 h2 => exact .lstZ (k _ List.mem_cons_self) h1 (Trs.freeze hz ds _ _ h2 fun a ha => k a (List.mem_cons_of_mem _ ha))
    | lstZ h0 h1 h2 => exact .lstZ (hz _ h0) h1 (Trs.freeze hz ds _ _ h2 fun a ha => nomatch ha)
  | .tuple ds, _, _, h, k => by
    cases h with
    | tup h1 h2 => exact .tup h1 (Trs.freeze hz ds _ _ h2 k)
  | .dict _, _, _, h, k => by
    cases h with
    | box h1 h2 => exact .boxZ (k _ List.mem_cons_self) h1 (Trs.freeze hz _ _ _ h2 fun a ha => k a (List.mem_cons_of_mem _ ha))
    | boxZ h0 h1 h2 => exact .boxZ (hz _ h0) h1 (Trs.freeze hz _ _ _ h2 fun a ha => nomatch ha)
theorem Trs.freeze (hz : ∀ a, Z a → Z' a) : ∀ (ds : List D) (S : List Addr) (vs : List V), Trs H Z S vs ds → (∀ a ∈ S, Z' a) → Trs H Z' [] vs ds
  | [], _, _, h, _ => by cases h; exact .nil
  | d :: ds, _, _, h, k => by
    cases h with
    | cons h1 h2 => exact .cons (S := []) (Tr.freeze hz d _ _ h1 fun a ha => k a (List.mem_append_left _ ha)) (Trs.freeze hz ds _ _ h2 fun a ha => k a (List.mem_append_right _ ha))
end
mutual
/-- read as a tree -/
theorem Tr.rep : ∀ (d : D) (S : List Addr) (v : V), Tr H Z S v d → ∃ T, Rep H T v d ∧ ∀ a ∈ T, a ∈ S ∨ Z a
  | .none, _, _, h => by cases h; exact ⟨_, .non, fun _ z => nomatch z⟩
  | .bool b, _, _, h => by cases h; exact ⟨_, .bl b, fun _ z => nomatch z⟩
  | .int i, _, _, h => by cases h; exact ⟨_, .int i, fun _ z => nomatch z⟩
  | .str x, _, _, h => by cases h; exact ⟨_, .str x, fun _ z => nomatch z⟩
  | .list ds, _, _, h => by
    cases h with
    | lst h1 h2 =>
      obtain ⟨T, r, k⟩ := Trs.rep ds _ _ h2
      refine ⟨_, .lst h1 r, fun a m => ?_⟩
      rcases List.mem_cons.mp m with rfl | m
      · exact .inl List.mem_cons_self
      · exact (k a m).imp (List.mem_cons_of_mem _) id
    | lstZ h0 h1 h2 =>
      obtain ⟨T, r, k⟩ := Trs.rep ds _ _ h2
      refine ⟨_, .lst h1 r, fun a m => ?_⟩
      rcases List.mem_cons.mp m with rfl | m
      · exact .inr h0
      · exact k a m
  | .tuple ds, _, _, h => by
    cases h with
    | tup h1 h2 =>
      obtain ⟨T, r, k⟩ := Trs.rep ds _ _ h2
      exact ⟨_, .tup h1 r, k⟩
  | .dict _, _, _, h => by
    cases h with
    | box h1 h2 =>
      obtain ⟨T, r, k⟩ := Trs.rep _ _ _ h2
      refine ⟨_, .box h1 r, fun a m => ?_⟩
      rcases List.mem_cons.mp m with rfl | m
      · exact .inl List.mem_cons_self
      · exact (k a m).imp (List.mem_cons_of_mem _) id
    | boxZ h0 h1 h2 =>
      obtain ⟨T, r, k⟩ := Trs.rep _ _ _ h2
      refine ⟨_, .box h1 r, fun a m => ?_⟩
      rcases List.mem_cons.mp m with rfl | m
      · exact .inr h0
      · exact k a m
theorem Trs.rep : ∀ (ds : List D) (S : List Addr) (vs : List V), Trs H Z S vs ds → ∃ T, Reps H T vs ds ∧ ∀ a ∈ T, a ∈ S ∨ Z a
  | [], _, _, h => by cases h; exact ⟨_, .nil, fun _ z => nomatch z⟩
  | d :: ds, _, _, h => by
    cases h with
    | cons h1 h2 =>
      obtain ⟨T1, r1, k1⟩ := Tr.rep d _ _ h1
      obtain ⟨T2, r2, k2⟩ := Trs.rep ds _ _ h2
      refine ⟨_, .cons r1 r2, fun a m => ?_⟩
      rcases List.mem_append.mp m with m | m
      · exact (k1 a m).imp (List.mem_append_left _) id
      · exact (k2 a m).imp (List.mem_append_right _) id
end
mutual
/-- a tree that is owned as a whole -/
theorem Tr.repO : ∀ (d : D) (S : List Addr) (v : V), Tr H noReg S v d → Rep H S v d
  | .none, _, _, h => by cases h; exact .non
  | .bool b, _, _, h => by cases h; exact .bl b
  | .int i, _, _, h => by cases h; exact .int i
  | .str x, _, _, h => by cases h; exact .str x
  | .list ds, _, _, h => by
    cases h with
    | lst h1 h2 => exact .lst h1 (Trs.repO ds _ _ h2)
    | lstZ h0 h1 h2 => exact h0.elim
  | .tuple ds, _, _, h => by
    cases h with
    | tup h1 h2 => exact .tup h1 (Trs.repO ds _ _ h2)
  | .dict _, _, _, h => by
    cases h with
    | box h1 h2 => exact .box h1 (Trs.repO _ _ _ h2)
    | boxZ h0 h1 h2 => exact h0.elim
theorem Trs.repO : ∀ (ds : List D) (S : List Addr) (vs : List V), Trs H noReg S vs ds → Reps H S vs ds
  | [], _, _, h => by cases h; exact .nil
  | d :: ds, _, _, h => by
    cases h with
    | cons h1 h2 => exact .cons (Tr.repO d _ _ h1) (Trs.repO ds _ _ h2)
end
mutual
theorem Rep.tr : ∀ (d : D) (S : List Addr) (v : V), Rep H S v d → Tr H Z S v d
  | .none, _, _, h => by cases h; exact .non
  | .bool b, _, _, h => by cases h; exact .bl b
  | .int i, _, _, h => by cases h; exact .int i
  | .str x, _, _, h => by cases h; exact .str x
  | .list ds, _, _, h => by
    cases h with
    | lst h1 h2 => exact .lst h1 (Reps.tr ds _ _ h2)
  | .tuple ds, _, _, h => by
    cases h with
    | tup h1 h2 => exact .tup h1 (Reps.tr ds _ _ h2)
  | .dict _, _, _, h => by
    cases h with
    | box h1 h2 => exact .box h1 (Reps.tr _ _ _ h2)
theorem Reps.tr : ∀ (ds : List D) (S : List Addr) (vs : List V), Reps H S vs ds → Trs H Z S vs ds
  | [], _, _, h => by cases h; exact .nil
  | d :: ds, _, _, h => by
    cases h with
    | cons h1 h2 => exact .cons (Rep.tr d _ _ h1) (Reps.tr ds _ _ h2)
end
mutual
theorem Tr.domN : ∀ (d : D) (S : List Addr) (v : V), Tr H Z S v d → ∀ a ∈ S, ∃ o, H a = some o ∧ NT o
  | .none, _, _, h => by cases h; intro a z; cases z
  | .bool b, _, _, h => by cases h; intro a z; cases z
  | .int i, _, _, h => by cases h; intro a z; cases z
  | .str x, _, _, h => by cases h; intro a z; cases z
  | .list ds, _, _, h => by
    cases h with
    | lst h1 h2 =>
      intro a z
      rcases List.mem_cons.mp z with rfl | z
      · exact ⟨_, h1, True.intro⟩
      · exact Trs.domN ds _ _ h2 a z
    | lstZ _ _ _ => intro a z; cases z
  | .tuple ds, _, _, h => by
    cases h with
    | tup h1 h2 => exact Trs.domN ds _ _ h2
  | .dict _, _, _, h => by
    cases h with
    | box h1 h2 =>
      intro a z
      rcases List.mem_cons.mp z with rfl | z
      · exact h1.dom
      · exact Trs.domN _ _ _ h2 a z
    | boxZ _ _ _ => intro a z; cases z
theorem Trs.domN : ∀ (ds : List D) (S : List Addr) (vs : List V), Trs H Z S vs ds → ∀ a ∈ S, ∃ o, H a = some o ∧ NT o
  | [], _, _, h => by cases h; intro a z; cases z
  | d :: ds, _, _, h => by
    cases h with
    | cons h1 h2 =>
      intro a z
      rcases List.mem_append.mp z with z | z
      · exact Tr.domN d _ _ h1 a z
      · exact Trs.domN ds _ _ h2 a z
end
theorem Tr.dom (d : D) (S : List Addr) (v : V) (h : Tr H Z S v d) : ∀ a ∈ S, ∃ o, H a = some o := fun a m => let ⟨o, e, _⟩ := Tr.domN d S v h a m; ⟨o, e⟩
theorem Trs.dom (ds : List D) (S : List Addr) (vs : List V) (h : Trs H Z S vs ds) : ∀ a ∈ S, ∃ o, H a = some o := fun a m => let ⟨o, e, _⟩ := Trs.domN ds S vs h a m; ⟨o, e⟩
mutual
theorem Tr.nolist : ∀ (d : D) (S : List Addr) (v : V), Tr H Z S v d → G.nolist d = true → S = [] ∧ Tr H Z' [] v d
  | .none, _, _, h, _ => by cases h; exact ⟨rfl, .non⟩
  | .bool b, _, _, h, _ => by cases h; exact ⟨rfl, .bl b⟩
  | .int i, _, _, h, _ => by cases h; exact ⟨rfl, .int i⟩
  | .str x, _, _, h, _ => by cases h; exact ⟨rfl, .str x⟩
  | .list ds, _, _, _, e => by simp [G.nolist] at e
  | .tuple ds, _, _, h, e => by
    cases h with
    | tup h1 h2 =>
      have := Trs.nolist ds _ _ h2 (by simpa [G.nolist] using e)
      exact ⟨this.1, .tup h1 this.2⟩
  | .dict _, _, _, _, e => by simp [G.nolist] at e
theorem Trs.nolist : ∀ (ds : List D) (S : List Addr) (vs : List V), Trs H Z S vs ds → nolists ds = true → S = [] ∧ Trs H Z' [] vs ds
  | [], _, _, h, _ => by cases h; exact ⟨rfl, .nil⟩
  | d :: ds, _, _, h, e => by
    cases h with
    | cons h1 h2 =>
      rw [nolists, Bool.and_eq_true] at e
      have a := Tr.nolist d _ _ h1 e.1
      have b := Trs.nolist ds _ _ h2 e.2
      obtain ⟨rfl, a⟩ := a
      obtain ⟨rfl, b⟩ := b
      exact ⟨rfl, .cons (S := []) a b⟩
end
theorem Trs.length : ∀ {ds : List D} {S : List Addr} {vs : List V}, Trs H Z S vs ds → vs.length = ds.length
  | [], _, _, h => by cases h; rfl
  | d :: ds, _, _, h => by
    cases h with
    | cons h1 h2 => simp [Trs.length h2]
theorem Trs.append : ∀ {ds es : List D} {S T : List Addr} {vs us : List V}, Trs H Z S vs ds → Trs H Z T us es → Trs H Z (S ++ T) (vs ++ us) (ds ++ es)
  | [], _, _, _, _, _, h, k => by cases h; exact k
  | d :: ds, _, _, _, _, _, h, k => by
    cases h with
    | cons h1 h2 =>
      have q := Trs.cons h1 (Trs.append h2 k)
      rw [← List.append_assoc] at q
      exact q
/-- one item, and the others -/
theorem Trs.at : ∀ {ds : List D} {S : List Addr} {vs : List V} {i : Nat} {d : D}, Trs H Z S vs ds → ds[i]? = some d → ∃ v T R, vs[i]? = some v ∧ Tr H Z T v d ∧ S.Perm (T ++ R) ∧ (∃ R', Trs H Z R' (vs.eraseIdx i) (ds.eraseIdx i) ∧ R'.Perm R) ∧
    ∀ (H' : Hp) T' v' d', (∀ t vs, H t = some (.tup vs) → H' t = some (.tup vs)) → (∀ a, Z a → ∀ o, H a = some o → H' a = some o) → (∀ a ∈ R, ∀ o, H a = some o → H' a = some o) → Tr H' Z T' v' d' → ∃ S', Trs H' Z S' (vs.set i v') (ds.set i d') ∧ S'.Perm (T' ++ R)
  | [], _, _, _, _, _, e => by simp at e
  | d :: ds, _, _, 0, _, h, e => by
    cases h with
    | @cons S T _ _ _ _ h1 h2 =>
      simp at e
      subst e
      refine ⟨_, _, _, rfl, h1, .refl _, ⟨_, h2, .refl _⟩, fun H' T' v' d' ht kz kr t => ⟨_, .cons t (Trs.mono ht (fun _ z => z) kz _ _ _ h2 kr), .refl _⟩⟩
  | d :: ds, _, _, i + 1, _, h, e => by
    cases h with
    | @cons S T _ _ _ _ h1 h2 =>
      obtain ⟨v, T1, R, e1, t, pm, ⟨R', q1, q2⟩, k⟩ := Trs.at (i := i) h2 (by simpa using e)
      have pm2 : (S ++ T).Perm (T1 ++ (S ++ R)) := by
        refine (List.Perm.append_left S pm).trans ?_
        rw [← List.append_assoc, ← List.append_assoc]
        exact List.Perm.append_right R List.perm_append_comm
      refine ⟨v, T1, S ++ R, by simpa using e1, t, pm2, ⟨_, .cons h1 q1, List.Perm.append_left _ q2⟩, fun H' T' v' d' ht kz kr t' => ?_⟩
      obtain ⟨S', q, p'⟩ := k H' T' v' d' ht kz (fun a m => kr a (List.mem_append_right _ m)) t'
      refine ⟨_, .cons (Tr.mono ht (fun _ z => z) kz _ _ _ h1 fun a m => kr a (List.mem_append_left _ m)) q, ?_⟩
      refine (List.Perm.append_left S p').trans ?_
      rw [← List.append_assoc, ← List.append_assoc]
      exact List.Perm.append_right R List.perm_append_comm
theorem Trs.get {ds : List D} {S : List Addr} {vs : List V} {i : Nat} {d : D} {v : V} (h : Trs H Z S vs ds) (e : ds[i]? = some d) (ev : vs[i]? = some v) : ∃ T R, Tr H Z T v d ∧ S.Perm (T ++ R) := by
  obtain ⟨v', T, R, e1, t, pm, _⟩ := h.at e
  rw [ev] at e1
  cases e1
  exact ⟨T, R, t, pm⟩
theorem Trs.intsR : ∀ (ns : List Int), Trs H Z [] (ns.map V.int) (ns.map PyData.int)
  | [] => .nil
  | n :: ns => .cons (S := []) (.int n) (Trs.intsR ns)
end
inductive Sl where
  | jk
  | fz (d : D)
  | ow (b : Bool) (d : D)
  | al (i : Nat) (π : List Nat)
  | pu
  | io (d : D)
  | dc (m : List (Key × D))
  | dt (m : List (List Key × D))
  | sh (d : D)
  | xv (a dd : Addr) (d : D)
  | ho (ds : List D) (i : Nat)
  | xw (a dd : Addr)
structure VSt where
  sl : List Sl
  tm : List Sl
  n : Int
structure Cn where
  H0 : Hp
  M : Reg
  pu : Option (Addr × Int)
  ok : ∀ p b, pu = some (p, b) → b ≤ 2 ^ 100
  iov : Option V := none
  Fr : Reg := noReg
abbrev Cn.tz (C : Cn) (Z : Reg) : Reg := fun a => Z a ∨ C.Fr a
/-- what stands in a dict: frozen trees -/
inductive DVs {κ : Type} (H : Hp) (Z : Reg) : List (κ × V) → List (κ × D) → Prop
  | nil : DVs H Z [] []
  | cons {k : κ} {v : V} {d : D} {kvs : List (κ × V)} {m : List (κ × D)} : Tr H Z [] v d → DVs H Z kvs m → DVs H Z ((k, v) :: kvs) ((k, d) :: m)
theorem DVs.mono {κ : Type} {H H' : Hp} {Z Z' : Reg} (ht : ∀ t vs, H t = some (.tup vs) → H' t = some (.tup vs)) (hz : ∀ a, Z a → Z' a) (kz : ∀ a, Z a → ∀ o, H a = some o → H' a = some o) {kvs : List (κ × V)} {m : List (κ × D)} (h : DVs H Z kvs m) : DVs H' Z' kvs m := by
  induction h with
  | nil => exact .nil
  | cons t _ ih => exact .cons (Tr.mono ht hz kz _ _ _ t fun a m => nomatch m) ih
inductive Ent (C : Cn) (Z : Reg) (H : Hp) : List Addr → Option V → Sl → Prop
  | jk (v : Option V) : Ent C Z H [] v .jk
  | fz {v : V} {d : D} : Tr H Z [] v d → Ent C Z H [] (some v) (.fz d)
  | ow {v : V} {d : D} {S : List Addr} : Tr H noReg S v d → Ent C Z H S (some v) (.ow true d)
  | sp {a : Addr} {vs : List V} {ds : List D} {S : List Addr} : H a = some (.lst vs) → Trs H Z S vs ds → Ent C Z H (a :: S) (some (.ref a)) (.ow false (.list ds))
  | al (v : V) (i : Nat) (π : List Nat) : Ent C Z H [] (some v) (.al i π)
  | pu {p : Addr} {b : Int} : C.pu = some (p, b) → Ent C Z H [] (some (.ref p)) .pu
  | io {v : V} {d : D} {S : List Addr} : Tr H noReg S v d → C.iov = some v → Ent C Z H S (some v) (.io d)
  | dc {a : Addr} {kvs : List (Key × V)} {m : List (Key × D)} : H a = some (.dK kvs) → DVs H Z kvs m → Ent C Z H [a] (some (.ref a)) (.dc m)
  | dt {a : Addr} {kvs : List (List Key × V)} {m : List (List Key × D)} : H a = some (.dT kvs) → DVs H Z kvs m → Ent C Z H [a] (some (.ref a)) (.dt m)
  | sh {a : Addr} {v : V} {S : List Addr} {d : D} : H a = some (.tup [v, v, v]) → Tr H noReg S v d → Ent C Z H S (some (.ref a)) (.sh d)
  | xv {a dd : Addr} {w : V} {S : List Addr} {d : D} : H dd = some (.xd [("value", w)]) → Tr H noReg S w d → Ent C Z H (dd :: S) (some (.ref a)) (.xv a dd d)
  | ho {a : Addr} {vs : List V} {S : List Addr} {ds : List D} {i : Nat} : H a = some (.lst vs) → vs.length = ds.length → Trs H noReg S (vs.eraseIdx i) (ds.eraseIdx i) → Ent C Z H (a :: S) (some (.ref a)) (.ho ds i)
  | xw {a dd : Addr} {fs : List (Str × V)} : H dd = some (.xd fs) → Ent C Z H [dd] (some (.ref a)) (.xw a dd)
inductive Ents (C : Cn) (Z : Reg) (H : Hp) : List Addr → List (Option V) → List Sl → Prop
  | nil : Ents C Z H [] [] []
  | cons {S T : List Addr} {v : Option V} {vs : List (Option V)} {s : Sl} {ss : List Sl} : Ent C Z H S v s → Ents C Z H T vs ss → Ents C Z H (S ++ T) (v :: vs) (s :: ss)
section
variable {C : Cn} {Z Z' : Reg} {H H' : Hp}
theorem Ent.mono {S : List Addr} {v : Option V} {s : Sl} (h : Ent C Z H S v s) (ht : ∀ t vs, H t = some (.tup vs) → H' t = some (.tup vs)) (hz : ∀ a, Z a → Z' a) (kz : ∀ a, Z a → ∀ o, H a = some o → H' a = some o) (ks : ∀ a ∈ S, ∀ o, H a = some o → H' a = some o) : Ent C Z' H' S v s := by
  cases h with
  | jk v => exact .jk v
  | fz t => exact .fz (Tr.mono ht hz kz _ _ _ t ks)
  | ow t => exact .ow (Tr.mono ht (fun _ z => z) (fun _ z => z.elim) _ _ _ t ks)
  | sp e t => exact .sp (ks _ List.mem_cons_self _ e) (Trs.mono ht hz kz _ _ _ t fun a m => ks a (List.mem_cons_of_mem _ m))
  | al v i π => exact .al v i π
  | pu e => exact .pu e
  | io t e => exact .io (Tr.mono ht (fun _ z => z) (fun _ z => z.elim) _ _ _ t ks) e
  | dc e t => exact .dc (ks _ List.mem_cons_self _ e) (t.mono ht hz kz)
  | dt e t => exact .dt (ks _ List.mem_cons_self _ e) (t.mono ht hz kz)
  | sh e t => exact .sh (ht _ _ e) (Tr.mono ht (fun _ z => z) (fun _ z => z.elim) _ _ _ t ks)
  | xv e t => exact .xv (ks _ List.mem_cons_self _ e) (Tr.mono ht (fun _ z => z) (fun _ z => z.elim) _ _ _ t fun a m => ks a (List.mem_cons_of_mem _ m))
  | xw e => exact .xw (ks _ List.mem_cons_self _ e)
  | ho e l t => exact .ho (ks _ List.mem_cons_self _ e) l (Trs.mono ht (fun _ z => z) (fun _ z => z.elim) _ _ _ t fun a m => ks a (List.mem_cons_of_mem _ m))
theorem Ent.dom {S : List Addr} {v : Option V} {s : Sl} (h : Ent C Z H S v s) : ∀ a ∈ S, ∃ o, H a = some o := by
  have go : ∀ {T : List Addr}, (∀ a ∈ T, ∃ o, H a = some o) → ∀ a ∈ T, ∃ o, H a = some o := fun k => k
  cases h with
  | jk v => intro a m; cases m
  | fz t => exact go (Tr.dom _ _ _ t)
  | ow t => exact go (Tr.dom _ _ _ t)
  | sp e t =>
    intro a m
    rcases List.mem_cons.mp m with rfl | m
    · exact ⟨_, e⟩
    · exact go (Trs.dom _ _ _ t) a m
  | al v i π => intro a m; cases m
  | pu e => intro a m; cases m
  | io t _ => exact go (Tr.dom _ _ _ t)
  | dc e _ => intro a m; cases List.mem_singleton.mp m; exact ⟨_, e⟩
  | dt e _ => intro a m; cases List.mem_singleton.mp m; exact ⟨_, e⟩
  | sh e t => exact go (Tr.dom _ _ _ t)
  | xv e t =>
    intro a m
    rcases List.mem_cons.mp m with rfl | m
    · exact ⟨_, e⟩
    · exact go (Tr.dom _ _ _ t) a m
  | xw e => intro a m; cases List.mem_singleton.mp m; exact ⟨_, e⟩
  | ho e _ t =>
    intro a m
    rcases List.mem_cons.mp m with rfl | m
    · exact ⟨_, e⟩
    · exact go (Trs.dom _ _ _ t) a m
/-- a dict with keys that are numbers or texts, as a tree -/
abbrev dictD (m : List (Key × D)) : D := .dict [(.list (m.map fun kv => dOf kv.1), .list (m.map fun kv => kv.2))]
theorem DVs.box {a : Addr} {kvs : List (Key × V)} {m : List (Key × D)} (e : H a = some (.dK kvs)) (h : DVs H Z kvs m) : Tr H Z [a] (.ref a) (dictD m) := by
  have hk : kvs.map (·.1) = m.map (·.1) := by
    clear e
    induction h with
    | nil => rfl
    | cons _ _ ih => simp [ih]
  have ht : Trs H Z [] (kvs.map (·.2)) (m.map (·.2)) := by
    clear e hk
    induction h with
    | nil => exact .nil
    | cons t _ ih => exact .cons (S := []) t ih
  have ez : (m.map (·.1)).zip (kvs.map (·.2)) = kvs := by
    rw [← hk]
    clear e h hk ht
    induction kvs with
    | nil => rfl
    | cons x xs ih => simp [ih]
  have b : Bx H a (.list ((m.map (·.1)).map dOf)) (kvs.map (·.2)) := .dK (by rw [ez]; exact e) (by rw [← hk]; simp)
  have := Tr.box (Z := Z) b ht
  rw [List.map_map] at this
  exact this
/-- its data -/
def datS : Sl → Option D
  | .dc m => some (dictD m)
  | .fz d => some d
  | .ow _ d => some d
  | .io d => some d
  | .sh d => some (.tuple [d, d, d])
  | _ => none
theorem Ent.tr {S : List Addr} {v : Option V} {s : Sl} {d : D} (h : Ent C Z H S v s) (e : datS s = some d) : ∃ w T, v = some w ∧ Tr H Z T w d ∧ ∀ a ∈ T, a ∈ S := by
  cases h with
  | jk v => cases e
  | fz t => cases e; exact ⟨_, _, rfl, t, fun _ m => m⟩
  | ow t => cases e; exact ⟨_, _, rfl, Tr.mono (fun _ _ h => h) (fun _ z => z.elim) (fun _ z => z.elim) _ _ _ t fun _ _ _ h => h, fun _ m => m⟩
  | sp h1 t => cases e; exact ⟨_, _, rfl, .lst h1 t, fun _ m => m⟩
  | al v i π => cases e
  | pu e' => cases e
  | io t _ => cases e; exact ⟨_, _, rfl, Tr.mono (fun _ _ h => h) (fun _ z => z.elim) (fun _ z => z.elim) _ _ _ t fun _ _ _ h => h, fun _ m => m⟩
  | dc h1 t => cases e; exact ⟨_, _, rfl, t.box h1, fun _ m => m⟩
  | dt _ _ => cases e
  | xv _ _ => cases e
  | ho _ _ _ => cases e
  | xw _ => cases e
  | @sh a v S d h1 t =>
    cases e
    have t' : Tr H Z S v d := Tr.mono (fun _ _ h => h) (fun _ z => z.elim) (fun _ z => z.elim) _ _ _ t fun _ _ _ h => h
    refine ⟨_, _, rfl, .tup h1 (.cons t' (.cons t' (.cons t' .nil))), fun x m => ?_⟩
    simpa using m
theorem Ent.trO {S : List Addr} {v : Option V} {b : Bool} {d : D} (h : Ent C Z H S v (.ow b d)) : ∃ w, v = some w ∧ Tr H Z S w d := by
  cases h with
  | ow t => exact ⟨_, rfl, Tr.mono (fun _ _ h => h) (fun _ z => z.elim) (fun _ z => z.elim) _ _ _ t fun _ _ _ h => h⟩
  | sp h1 t => exact ⟨_, rfl, .lst h1 t⟩
theorem Ents.mono : ∀ {S : List Addr} {vs : List (Option V)} {ss : List Sl}, Ents C Z H S vs ss → (∀ t vs, H t = some (.tup vs) → H' t = some (.tup vs)) → (∀ a, Z a → Z' a) → (∀ a, Z a → ∀ o, H a = some o → H' a = some o) → (∀ a ∈ S, ∀ o, H a = some o → H' a = some o) → Ents C Z' H' S vs ss
  | _, _, _, .nil, _, _, _, _ => .nil
  | _, _, _, .cons h1 h2, ht, hz, kz, ks => .cons (h1.mono ht hz kz fun a m => ks a (List.mem_append_left _ m)) (h2.mono ht hz kz fun a m => ks a (List.mem_append_right _ m))
theorem Ents.dom : ∀ {S : List Addr} {vs : List (Option V)} {ss : List Sl}, Ents C Z H S vs ss → ∀ a ∈ S, ∃ o, H a = some o
  | _, _, _, .nil => fun a m => nomatch m
  | _, _, _, .cons h1 h2 => fun a m => (List.mem_append.mp m).elim (h1.dom a) (h2.dom a)
theorem Ents.length : ∀ {S : List Addr} {vs : List (Option V)} {ss : List Sl}, Ents C Z H S vs ss → vs.length = ss.length
  | _, _, _, .nil => rfl
  | _, _, _, .cons h1 h2 => by simp [h2.length]
/-- one of them, and the others -/
theorem Ents.at : ∀ {ss : List Sl} {S : List Addr} {vs : List (Option V)} {i : Nat} {s : Sl}, Ents C Z H S vs ss → ss[i]? = some s → ∃ v T R, vs[i]? = some v ∧ Ent C Z H T v s ∧ S.Perm (T ++ R) ∧
    ∀ (H' : Hp) (Z' : Reg) T' v' s', (∀ t vs, H t = some (.tup vs) → H' t = some (.tup vs)) → (∀ a, Z a → Z' a) → (∀ a, Z a → ∀ o, H a = some o → H' a = some o) → (∀ a ∈ R, ∀ o, H a = some o → H' a = some o) → Ent C Z' H' T' v' s' → ∃ S', Ents C Z' H' S' (vs.set i v') (ss.set i s') ∧ S'.Perm (T' ++ R)
  | [], _, _, _, _, _, e => by simp at e
  | s :: ss, _, _, 0, _, h, e => by
    cases h with
    | @cons S T _ _ _ _ h1 h2 =>
      simp at e
      subst e
      exact ⟨_, _, _, rfl, h1, .refl _, fun H' Z' T' v' s' ht hz kz kr t => ⟨_, .cons t (h2.mono ht hz kz kr), .refl _⟩⟩
  | s :: ss, _, _, i + 1, _, h, e => by
    cases h with
    | @cons S T _ _ _ _ h1 h2 =>
      obtain ⟨v, T1, R, e1, t, pm, k⟩ := Ents.at (i := i) h2 (by simpa using e)
      have pm2 : (S ++ T).Perm (T1 ++ (S ++ R)) := by
        refine (List.Perm.append_left S pm).trans ?_
        rw [← List.append_assoc, ← List.append_assoc]
        exact List.Perm.append_right R List.perm_append_comm
      refine ⟨v, T1, S ++ R, by simpa using e1, t, pm2, fun H' Z' T' v' s' ht hz kz kr t' => ?_⟩
      obtain ⟨S', q, p'⟩ := k H' Z' T' v' s' ht hz kz (fun a m => kr a (List.mem_append_right _ m)) t'
      refine ⟨_, .cons (h1.mono ht hz kz fun a m => kr a (List.mem_append_left _ m)) q, ?_⟩
      refine (List.Perm.append_left S p').trans ?_
      rw [← List.append_assoc, ← List.append_assoc]
      exact List.Perm.append_right R List.perm_append_comm
end
def atP : D → List Nat → Option D
  | d, [] => some d
  | .list ds, k :: π => (ds[k]?).bind fun d => atP d π
  | .tuple ds, k :: π => (ds[k]?).bind fun d => atP d π
  | .dict [(_, .list ds)], k :: π => (ds[k]?).bind fun d => atP d π
  | _, _ :: _ => none
inductive Wk (H : Hp) : V → List Nat → V → Prop
  | nil (v : V) : Wk H v [] v
  | lst {a : Addr} {vs : List V} {k : Nat} {π : List Nat} {u w : V} : H a = some (.lst vs) → vs[k]? = some u → Wk H u π w → Wk H (.ref a) (k :: π) w
  | tup {a : Addr} {vs : List V} {k : Nat} {π : List Nat} {u w : V} : H a = some (.tup vs) → vs[k]? = some u → Wk H u π w → Wk H (.ref a) (k :: π) w
  | box {a : Addr} {t : D} {vs : List V} {k : Nat} {π : List Nat} {u w : V} : Bx H a t vs → vs[k]? = some u → Wk H u π w → Wk H (.ref a) (k :: π) w
section
variable {H H' : Hp} {Z : Reg}
theorem Bx.nl {a : Addr} {t : D} {vs us : List V} (h : Bx H a t vs) (e : H a = some (.lst us)) : False := by
  cases h with
  | ins q _ => rw [e] at q; cases q
  | dK q _ => rw [e] at q; cases q
theorem Bx.nt {a : Addr} {t : D} {vs us : List V} (h : Bx H a t vs) (e : H a = some (.tup us)) : False := by
  cases h with
  | ins q _ => rw [e] at q; cases q
  | dK q _ => rw [e] at q; cases q
theorem atP_dict {kvs : List (D × D)} {j : Nat} {π : List Nat} {x : D} (h : atP (.dict kvs) (j :: π) = some x) : ∃ t es, kvs = [(t, .list es)] ∧ ((es[j]?).bind fun d => atP d π) = some x := by
  cases kvs with
  | nil => simp [atP] at h
  | cons p r =>
    obtain ⟨t, d⟩ := p
    cases r with
    | nil =>
      cases d with
      | list es => exact ⟨t, es, rfl, by simpa only [atP] using h⟩
      | none => simp [atP] at h
      | bool _ => simp [atP] at h
      | int _ => simp [atP] at h
      | str _ => simp [atP] at h
      | tuple _ => simp [atP] at h
      | dict _ => simp [atP] at h
    | cons q r => cases d <;> simp [atP] at h
theorem Wk.snoc {v w : V} {π : List Nat} (h : Wk H v π w) {a : Addr} {vs : List V} {k : Nat} {u : V} (e : w = .ref a) (ha : H a = some (.lst vs) ∨ H a = some (.tup vs)) (hk : vs[k]? = some u) : Wk H v (π ++ [k]) u := by
  induction h with
  | nil v =>
    subst e
    rcases ha with ha | ha
    · exact .lst ha hk (.nil _)
    · exact .tup ha hk (.nil _)
  | lst h1 h2 _ ih => exact .lst h1 h2 (ih e)
  | tup h1 h2 _ ih => exact .tup h1 h2 (ih e)
  | box h1 h2 _ ih => exact .box h1 h2 (ih e)
theorem Wk.snocB {v w : V} {π : List Nat} (h : Wk H v π w) {a : Addr} {t : D} {vs : List V} {k : Nat} {u : V} (e : w = .ref a) (ha : Bx H a t vs) (hk : vs[k]? = some u) : Wk H v (π ++ [k]) u := by
  induction h with
  | nil v =>
    subst e
    exact .box ha hk (.nil _)
  | lst h1 h2 _ ih => exact .lst h1 h2 (ih e)
  | tup h1 h2 _ ih => exact .tup h1 h2 (ih e)
  | box h1 h2 _ ih => exact .box h1 h2 (ih e)
theorem atP_snoc : ∀ (π : List Nat) (d e : D) (ds : List D) (k : Nat) (x : D), atP d π = some e → (e = .list ds ∨ e = .tuple ds ∨ ∃ t, e = .dict [(t, .list ds)]) → ds[k]? = some x → atP d (π ++ [k]) = some x
  | [], d, e, ds, k, x, h, he, hk => by
    simp only [atP, Option.some.injEq] at h
    subst h
    rcases he with rfl | rfl | ⟨t, rfl⟩ <;> simp [atP, hk]
  | j :: π, .list es, e, ds, k, x, h, he, hk => by
    simp only [atP, List.cons_append] at h ⊢
    cases q : es[j]? with
    | none => rw [q] at h; cases h
    | some y =>
      rw [q] at h
      exact atP_snoc π y e ds k x h he hk
  | j :: π, .tuple es, e, ds, k, x, h, he, hk => by
    simp only [atP, List.cons_append] at h ⊢
    cases q : es[j]? with
    | none => rw [q] at h; cases h
    | some y =>
      rw [q] at h
      exact atP_snoc π y e ds k x h he hk
  | j :: π, .none, e, ds, k, x, h, he, hk => by simp [atP] at h
  | j :: π, .bool _, e, ds, k, x, h, he, hk => by simp [atP] at h
  | j :: π, .int _, e, ds, k, x, h, he, hk => by simp [atP] at h
  | j :: π, .str _, e, ds, k, x, h, he, hk => by simp [atP] at h
  | j :: π, .dict _, e, ds, k, x, h, he, hk => by
    obtain ⟨t, es, rfl, h'⟩ := atP_dict h
    simp only [atP, List.cons_append]
    cases q : es[j]? with
    | none => rw [q] at h'; cases h'
    | some y =>
      rw [q] at h'
      exact atP_snoc π y e ds k x h' he hk
/-- a part of a tree: it is walked to, and stays where the tree stays -/
theorem Tr.part : ∀ {π : List Nat} {d e : D} {S : List Addr} {v w : V}, Tr H Z S v d → atP d π = some e → Wk H v π w → (∃ T, Tr H Z T w e ∧ ∀ a ∈ T, a ∈ S) ∧
    ∀ H' : Hp, (∀ t vs, H t = some (.tup vs) → H' t = some (.tup vs)) → (∀ a, Z a ∨ a ∈ S → ∀ o, H a = some o → H' a = some o) → Wk H' v π w
  | [], d, e, S, v, w, h, he, hw => by
    simp only [atP, Option.some.injEq] at he
    subst he
    cases hw
    exact ⟨⟨S, h, fun _ m => m⟩, fun _ _ _ => .nil _⟩
  | k :: π, d, e, S, v, w, h, he, hw => by
    cases hw with
    | @lst a vs _ _ u _ h1 h2 h3 =>
      cases h with
      | @lst _ vs' S' ds g1 g2 =>
        rw [h1] at g1
        cases g1
        simp only [atP] at he
        cases q : ds[k]? with
        | none => rw [q] at he; cases he
        | some y =>
          rw [q] at he
          obtain ⟨T, R, t, pm⟩ := g2.get q h2
          obtain ⟨⟨T', t', s'⟩, kp⟩ := Tr.part (π := π) t he h3
          have sub : ∀ a ∈ T, a ∈ a :: S' → True := fun _ _ _ => trivial
          refine ⟨⟨T', t', fun b m => List.mem_cons_of_mem _ (pm.mem_iff.mpr (List.mem_append_left _ (s' b m)))⟩, fun H' ht kk => .lst (kk _ (.inr List.mem_cons_self) _ h1) h2 (kp H' ht fun b hb => kk b ?_)⟩
          rcases hb with hb | hb
          · exact .inl hb
          · exact .inr (List.mem_cons_of_mem _ (pm.mem_iff.mpr (List.mem_append_left _ hb)))
      | @lstZ _ vs' ds g0 g1 g2 =>
        rw [h1] at g1
        cases g1
        simp only [atP] at he
        cases q : ds[k]? with
        | none => rw [q] at he; cases he
        | some y =>
          rw [q] at he
          obtain ⟨T, R, t, pm⟩ := g2.get q h2
          obtain ⟨⟨T', t', s'⟩, kp⟩ := Tr.part (π := π) t he h3
          refine ⟨⟨T', t', fun b m => pm.mem_iff.mpr (List.mem_append_left _ (s' b m))⟩, fun H' ht kk => .lst (kk _ (.inl g0) _ h1) h2 (kp H' ht fun b hb => kk b ?_)⟩
          rcases hb with hb | hb
          · exact .inl hb
          · exact .inr (pm.mem_iff.mpr (List.mem_append_left _ hb))
      | tup g1 g2 => rw [h1] at g1; cases g1
      | box g1 g2 => exact (g1.nl h1).elim
      | boxZ g0 g1 g2 => exact (g1.nl h1).elim
    | @tup a vs _ _ u _ h1 h2 h3 =>
      cases h with
      | lst g1 g2 => rw [h1] at g1; cases g1
      | lstZ g0 g1 g2 => rw [h1] at g1; cases g1
      | box g1 g2 => exact (g1.nt h1).elim
      | boxZ g0 g1 g2 => exact (g1.nt h1).elim
      | @tup _ vs' S' ds g1 g2 =>
        rw [h1] at g1
        cases g1
        simp only [atP] at he
        cases q : ds[k]? with
        | none => rw [q] at he; cases he
        | some y =>
          rw [q] at he
          obtain ⟨T, R, t, pm⟩ := g2.get q h2
          obtain ⟨⟨T', t', s'⟩, kp⟩ := Tr.part (π := π) t he h3
          refine ⟨⟨T', t', fun b m => pm.mem_iff.mpr (List.mem_append_left _ (s' b m))⟩, fun H' ht kk => .tup (ht _ _ h1) h2 (kp H' ht fun b hb => kk b ?_)⟩
          rcases hb with hb | hb
          · exact .inl hb
          · exact .inr (pm.mem_iff.mpr (List.mem_append_left _ hb))
    | @box a t1 vs _ _ u _ h1 h2 h3 =>
      cases h with
      | lst g1 g2 => exact (h1.nl g1).elim
      | lstZ g0 g1 g2 => exact (h1.nl g1).elim
      | tup g1 g2 => exact (h1.nt g1).elim
      | @box _ t0 vs' S' ds g1 g2 =>
        obtain ⟨rfl, rfl⟩ := h1.uniq g1
        simp only [atP] at he
        cases q : ds[k]? with
        | none => rw [q] at he; cases he
        | some y =>
          rw [q] at he
          obtain ⟨T, R, t, pm⟩ := g2.get q h2
          obtain ⟨⟨T', t', s'⟩, kp⟩ := Tr.part (π := π) t he h3
          refine ⟨⟨T', t', fun b m => List.mem_cons_of_mem _ (pm.mem_iff.mpr (List.mem_append_left _ (s' b m)))⟩, fun H' ht kk => .box (h1.mono (kk _ (.inr List.mem_cons_self))) h2 (kp H' ht fun b hb => kk b ?_)⟩
          rcases hb with hb | hb
          · exact .inl hb
          · exact .inr (List.mem_cons_of_mem _ (pm.mem_iff.mpr (List.mem_append_left _ hb)))
      | @boxZ _ t0 vs' ds g0 g1 g2 =>
        obtain ⟨rfl, rfl⟩ := h1.uniq g1
        simp only [atP] at he
        cases q : ds[k]? with
        | none => rw [q] at he; cases he
        | some y =>
          rw [q] at he
          obtain ⟨T, R, t, pm⟩ := g2.get q h2
          obtain ⟨⟨T', t', s'⟩, kp⟩ := Tr.part (π := π) t he h3
          refine ⟨⟨T', t', fun b m => pm.mem_iff.mpr (List.mem_append_left _ (s' b m))⟩, fun H' ht kk => .box (h1.mono (kk _ (.inl g0))) h2 (kp H' ht fun b hb => kk b ?_)⟩
          rcases hb with hb | hb
          · exact .inl hb
          · exact .inr (pm.mem_iff.mpr (List.mem_append_left _ hb))
/-- a part exchanged -/
def setP : D → List Nat → D → D
  | _, [], x => x
  | .list ds, k :: π, x => .list (ds.set k ((ds[k]?).elim .none fun d => setP d π x))
  | .tuple ds, k :: π, x => .tuple (ds.set k ((ds[k]?).elim .none fun d => setP d π x))
  | .dict [(t, .list ds)], k :: π, x => .dict [(t, .list (ds.set k ((ds[k]?).elim .none fun d => setP d π x)))]
  | d, _ :: _, _ => d
/-- an owned tree: the list at a part is written -/
theorem Tr.put : ∀ {π : List Nat} {d : D} {es : List D} {S : List Addr} {v w : V}, Tr H noReg S v d → atP d π = some (.list es) → Wk H v π w → ∃ a vs T R, w = .ref a ∧ H a = some (.lst vs) ∧ Trs H noReg T vs es ∧ S.Perm (a :: T ++ R) ∧
    ∀ us ds' T', (S.Nodup) → Trs (upd H a (.lst us)) noReg T' us ds' → ∃ S', Tr (upd H a (.lst us)) noReg S' v (setP d π (.list ds')) ∧ S'.Perm (a :: T' ++ R)
  | [], d, es, S, v, w, h, he, hw => by
    simp only [atP, Option.some.injEq] at he
    subst he
    cases hw
    cases h with
    | @lst a vs S' _ g1 g2 => exact ⟨a, vs, S', [], rfl, g1, g2, by simp, fun us ds' T' _ t => ⟨a :: T', .lst upd_same t, by simp⟩⟩
    | lstZ g0 _ _ => exact g0.elim
  | k :: π, d, es, S, v, w, h, he, hw => by
    cases hw with
    | @lst a vs _ _ u _ h1 h2 h3 =>
      cases h with
      | @lst _ vs' S' ds g1 g2 =>
        rw [h1] at g1
        cases g1
        simp only [atP] at he
        cases q : ds[k]? with
        | none => rw [q] at he; cases he
        | some y =>
          rw [q] at he
          obtain ⟨u', T, R, eu, t, pm, _, kk⟩ := g2.at q
          rw [h2] at eu
          cases eu
          obtain ⟨b, ws, T1, R1, ew, hb, tb, pm1, kp⟩ := Tr.put (π := π) t he h3
          have bS : b ∈ S' := pm.mem_iff.mpr (List.mem_append_left _ (pm1.mem_iff.mpr (by simp)))
          refine ⟨b, ws, T1, a :: (R1 ++ R), ew, hb, tb, ?_, fun us ds' T' nd t' => ?_⟩
          · refine (List.Perm.cons a (pm.trans (List.Perm.append_right R pm1))).trans ?_
            have : (b :: T1 ++ R1 ++ R) = (b :: T1) ++ (R1 ++ R) := by simp
            rw [this]
            exact List.perm_middle.symm
          · have nd' := List.nodup_cons.mp nd
            have ndS := pm.nodup_iff.mp nd'.2
            have ndA := List.nodup_append.mp ndS
            obtain ⟨S2, t2, p2⟩ := kp us ds' T' ndA.1 t'
            have nba : a ≠ b := fun z => nd'.1 (z ▸ bS)
            have bT : b ∈ T := pm1.mem_iff.mpr (by simp)
            have kt : ∀ t xs, H t = some (.tup xs) → upd H b (.lst us) t = some (.tup xs) := fun t xs et => by
              rw [upd_ne (show t ≠ b from fun z => by rw [z, hb] at et; cases et)]
              exact et
            obtain ⟨S3, t3, p3⟩ := kk (upd H b (.lst us)) S2 u (setP y π (.list ds')) kt (fun _ z => z.elim) (fun c m o eo => by
              rw [upd_ne (show c ≠ b from fun z => ndA.2.2 b bT c m z.symm)]
              exact eo) t2
            have eset : vs.set k u = vs := by
              refine List.ext_getElem? fun j => ?_
              by_cases hj : k = j
              · subst hj
                rw [List.getElem?_set_self (List.getElem?_eq_some_iff.mp h2).1, h2]
              · rw [List.getElem?_set_ne hj]
            rw [eset] at t3
            refine ⟨a :: S3, ?_, ?_⟩
            · rw [setP, q]
              exact .lst (by rw [upd_ne nba]; exact h1) t3
            · refine (List.Perm.cons a (p3.trans (List.Perm.append_right R p2))).trans ?_
              have : (b :: T' ++ R1 ++ R) = (b :: T') ++ (R1 ++ R) := by simp
              rw [this]
              exact List.perm_middle.symm
      | lstZ g0 _ _ => exact g0.elim
      | tup g1 g2 => rw [h1] at g1; cases g1
      | box g1 g2 => exact (g1.nl h1).elim
      | boxZ g0 _ _ => exact g0.elim
    | @tup a vs _ _ u _ h1 h2 h3 =>
      cases h with
      | lst g1 g2 => rw [h1] at g1; cases g1
      | lstZ g0 g1 g2 => rw [h1] at g1; cases g1
      | box g1 g2 => exact (g1.nt h1).elim
      | boxZ g0 _ _ => exact g0.elim
      | @tup _ vs' S' ds g1 g2 =>
        rw [h1] at g1
        cases g1
        simp only [atP] at he
        cases q : ds[k]? with
        | none => rw [q] at he; cases he
        | some y =>
          rw [q] at he
          obtain ⟨u', T, R, eu, t, pm, _, kk⟩ := g2.at q
          rw [h2] at eu
          cases eu
          obtain ⟨b, ws, T1, R1, ew, hb, tb, pm1, kp⟩ := Tr.put (π := π) t he h3
          refine ⟨b, ws, T1, R1 ++ R, ew, hb, tb, ?_, fun us ds' T' nd t' => ?_⟩
          · refine (pm.trans (List.Perm.append_right R pm1)).trans ?_
            simp
          · have ndS := pm.nodup_iff.mp nd
            have ndA := List.nodup_append.mp ndS
            obtain ⟨S2, t2, p2⟩ := kp us ds' T' ndA.1 t'
            have bT : b ∈ T := pm1.mem_iff.mpr (by simp)
            have kt : ∀ t xs, H t = some (.tup xs) → upd H b (.lst us) t = some (.tup xs) := fun t xs et => by
              rw [upd_ne (show t ≠ b from fun z => by rw [z, hb] at et; cases et)]
              exact et
            obtain ⟨S3, t3, p3⟩ := kk (upd H b (.lst us)) S2 u (setP y π (.list ds')) kt (fun _ z => z.elim) (fun c m o eo => by
              rw [upd_ne (show c ≠ b from fun z => ndA.2.2 b bT c m z.symm)]
              exact eo) t2
            have eset : vs.set k u = vs := by
              refine List.ext_getElem? fun j => ?_
              by_cases hj : k = j
              · subst hj
                rw [List.getElem?_set_self (List.getElem?_eq_some_iff.mp h2).1, h2]
              · rw [List.getElem?_set_ne hj]
            rw [eset] at t3
            refine ⟨S3, ?_, ?_⟩
            · rw [setP, q]
              exact .tup (kt _ _ h1) t3
            · refine (p3.trans (List.Perm.append_right R p2)).trans ?_
              simp
    | @box a t1 vs _ _ u _ h1 h2 h3 =>
      cases h with
      | lst g1 g2 => exact (h1.nl g1).elim
      | lstZ g0 g1 g2 => exact g0.elim
      | tup g1 g2 => exact (h1.nt g1).elim
      | boxZ g0 _ _ => exact g0.elim
      | @box _ t0 vs' S' ds g1 g2 =>
        obtain ⟨rfl, rfl⟩ := h1.uniq g1
        simp only [atP] at he
        cases q : ds[k]? with
        | none => rw [q] at he; cases he
        | some y =>
          rw [q] at he
          obtain ⟨u', T, R, eu, t, pm, _, kk⟩ := g2.at q
          rw [h2] at eu
          cases eu
          obtain ⟨b, ws, T1, R1, ew, hb, tb, pm1, kp⟩ := Tr.put (π := π) t he h3
          have bS : b ∈ S' := pm.mem_iff.mpr (List.mem_append_left _ (pm1.mem_iff.mpr (by simp)))
          refine ⟨b, ws, T1, a :: (R1 ++ R), ew, hb, tb, ?_, fun us ds' T' nd t' => ?_⟩
          · refine (List.Perm.cons a (pm.trans (List.Perm.append_right R pm1))).trans ?_
            have : (b :: T1 ++ R1 ++ R) = (b :: T1) ++ (R1 ++ R) := by simp
            rw [this]
            exact List.perm_middle.symm
          · have nd' := List.nodup_cons.mp nd
            have ndS := pm.nodup_iff.mp nd'.2
            have ndA := List.nodup_append.mp ndS
            obtain ⟨S2, t2, p2⟩ := kp us ds' T' ndA.1 t'
            have nba : a ≠ b := fun z => nd'.1 (z ▸ bS)
            have bT : b ∈ T := pm1.mem_iff.mpr (by simp)
            have kt : ∀ t xs, H t = some (.tup xs) → upd H b (.lst us) t = some (.tup xs) := fun t xs et => by
              rw [upd_ne (show t ≠ b from fun z => by rw [z, hb] at et; cases et)]
              exact et
            obtain ⟨S3, t3, p3⟩ := kk (upd H b (.lst us)) S2 u (setP y π (.list ds')) kt (fun _ z => z.elim) (fun c m o eo => by
              rw [upd_ne (show c ≠ b from fun z => ndA.2.2 b bT c m z.symm)]
              exact eo) t2
            have eset : vs.set k u = vs := by
              refine List.ext_getElem? fun j => ?_
              by_cases hj : k = j
              · subst hj
                rw [List.getElem?_set_self (List.getElem?_eq_some_iff.mp h2).1, h2]
              · rw [List.getElem?_set_ne hj]
            rw [eset] at t3
            refine ⟨a :: S3, ?_, ?_⟩
            · rw [setP, q]
              exact .box (h1.mono fun o eo => by rw [upd_ne nba]; exact eo) t3
            · refine (List.Perm.cons a (p3.trans (List.Perm.append_right R p2))).trans ?_
              have : (b :: T' ++ R1 ++ R) = (b :: T') ++ (R1 ++ R) := by simp
              rw [this]
              exact List.perm_middle.symm
end
def look (sl : List Sl) : Sl → Option D
  | .fz d => some d
  | .ow _ d => some d
  | .al i π => (sl[i]?).bind fun s => (datS s).bind fun d => atP d π
  | _ => none
structure RelX (C : Cn) (Z : Reg) (S1 S2 : List Addr) (γ : VSt) (Θ : List V) (σ : L2.St) (H : Hp) : Prop where
  fr : ∀ a o, C.H0 a = some o → ¬ C.M a → C.tz Z a ∧ H a = some o
  es : Ents C Z H S1 σ γ.sl
  et : Ents C Z H S2 (Θ.map some) γ.tm
  nd : (S1 ++ S2).Nodup
  nz : ∀ a ∈ S1 ++ S2, ¬ C.tz Z a
  pu : ∀ p b, C.pu = some (p, b) → PuAt H p (b - γ.n) ∧ ¬ C.tz Z p ∧ p ∉ S1 ++ S2
  ex : ∀ a, C.tz Z a → ∃ o, H a = some o
  dj : ∀ a, Z a → ¬ C.Fr a
  al : ∀ (k i : Nat) (π : List Nat) (v : V), γ.tm[k]? = some (.al i π) → Θ[k]? = some v → ∃ s d e w, γ.sl[i]? = some s ∧ datS s = some d ∧ atP d π = some e ∧ σ[i]? = some (some w) ∧ Wk H w π v
def Rel (C : Cn) (γ : VSt) (Θ : List V) (σ : L2.St) (H : Hp) : Prop := ∃ Z S1 S2, RelX C Z S1 S2 γ Θ σ H
def noAl (i : Nat) (tm : List Sl) : Bool := tm.all fun s => match s with | .al j _ => j != i | _ => true
def own (d : D) : Sl := if nolist d then .fz d else .ow true d
section
variable {C : Cn} {Z : Reg} {S1 S2 : List Addr} {γ : VSt} {Θ : List V} {σ : L2.St} {H H' : Hp} {sl tm : List Sl} {n n' : Int} {v : V} {s : Sl} {d : D} {i : Nat}
theorem RelX.slot (h : RelX C Z S1 S2 γ Θ σ H) (e : γ.sl[i]? = some s) (ed : datS s = some d) : ∃ w T, σ[i]? = some (some w) ∧ Tr H Z T w d ∧ ∀ a ∈ T, a ∈ S1 := by
  obtain ⟨v, T, R, ev, en, pm, _⟩ := h.es.at e
  obtain ⟨w, T', rfl, t, sb⟩ := en.tr ed
  exact ⟨w, T', ev, t, fun a m => pm.mem_iff.mpr (List.mem_append_left _ (sb a m))⟩
theorem RelX.trAt {k : Nat} (h : RelX C Z S1 S2 γ Θ σ H) (e : γ.tm[k]? = some s) (ev : Θ[k]? = some v) (l : look γ.sl s = some d) : ∃ T, Tr H Z T v d ∧ ∀ a ∈ T, a ∈ S1 ++ S2 := by
  obtain ⟨v', T, R, ev', en, pm, _⟩ := h.et.at e
  rw [List.getElem?_map, ev] at ev'
  cases ev'
  have go : datS s = some d → ∃ T, Tr H Z T v d ∧ ∀ a ∈ T, a ∈ S1 ++ S2 := fun q => by
    obtain ⟨w, T', ew, t, sb⟩ := en.tr q
    cases ew
    exact ⟨T', t, fun a m => List.mem_append_right _ (pm.mem_iff.mpr (List.mem_append_left _ (sb a m)))⟩
  cases s with
  | jk => cases l
  | io d' => cases l
  | fz d' => exact go l
  | ow b d' => exact go l
  | pu => cases l
  | dc m => cases l
  | dt m => cases l
  | sh m => cases l
  | xv _ _ m => cases l
  | ho _ _ => cases l
  | xw _ _ => cases l
  | al i π =>
    obtain ⟨s, d', e', w, e1, e2, e3, e4, wk⟩ := h.al k i π v e ev
    simp only [look, e1, e2, e3, Option.bind_some, Option.some.injEq] at l
    subst l
    obtain ⟨w', T', ew, t, sub⟩ := h.slot e1 e2
    rw [e4] at ew
    cases ew
    obtain ⟨⟨T2, t2, s2⟩, _⟩ := Tr.part t e3 wk
    exact ⟨T2, t2, fun a m => List.mem_append_left _ (sub a (s2 a m))⟩
/-- what stands on the stack is read -/
theorem Rel.readAt {k : Nat} (h : Rel C γ Θ σ H) (e : γ.tm[k]? = some s) (ev : Θ[k]? = some v) (l : look γ.sl s = some d) : ∃ T, Rep H T v d ∧ ∀ p b, C.pu = some (p, b) → p ∉ T := by
  obtain ⟨Z, S1, S2, h⟩ := h
  obtain ⟨T, t, sub⟩ := h.trAt e ev l
  obtain ⟨T', r, k⟩ := Tr.rep _ _ _ t
  refine ⟨T', r, fun p b q m => ?_⟩
  obtain ⟨_, n1, n2⟩ := h.pu p b q
  rcases k p m with m | m
  · exact n2 (sub p m)
  · exact n1 (.inl m)
theorem Rel.read (h : Rel C ⟨sl, s :: tm, n⟩ (v :: Θ) σ H) (l : look sl s = some d) : ∃ T, Rep H T v d ∧ ∀ p b, C.pu = some (p, b) → p ∉ T := h.readAt (k := 0) rfl rfl l
/-- the heap grows, the purse is drawn from -/
theorem Rel.heap (h : Rel C ⟨sl, tm, n⟩ Θ σ H) (k : ∀ a o, H a = some o → (∀ p b, C.pu = some (p, b) → a ≠ p) → H' a = some o) (kp : ∀ p b, C.pu = some (p, b) → PuAt H' p (b - n')) : Rel C ⟨sl, tm, n'⟩ Θ σ H' := by
  obtain ⟨Z, S1, S2, h⟩ := h
  have kt : ∀ t vs, H t = some (.tup vs) → H' t = some (.tup vs) := fun t vs e => k t _ e fun p b q z => by
    subst z
    obtain ⟨x, y, z, e2, _⟩ := (h.pu t b q).1
    rw [e] at e2
    cases e2
  have kz0 : ∀ a, C.tz Z a → ∀ o, H a = some o → H' a = some o := fun a z o e => k a o e fun p b q y => (h.pu p b q).2.1 (y ▸ z)
  have kz : ∀ a, Z a → ∀ o, H a = some o → H' a = some o := fun a z => kz0 a (.inl z)
  have ks : ∀ a ∈ S1 ++ S2, ∀ o, H a = some o → H' a = some o := fun a m o e => k a o e fun p b q y => (h.pu p b q).2.2 (y ▸ m)
  refine ⟨Z, S1, S2, fun a o e m => ⟨(h.fr a o e m).1, kz0 a (h.fr a o e m).1 o (h.fr a o e m).2⟩, h.es.mono kt (fun _ z => z) kz fun a m => ks a (List.mem_append_left _ m), h.et.mono kt (fun _ z => z) kz fun a m => ks a (List.mem_append_right _ m), h.nd, h.nz, fun p b q => ⟨kp p b q, (h.pu p b q).2⟩, fun a z => ?_, h.dj, fun j i π v e ev => ?_⟩
  · obtain ⟨o, e⟩ := h.ex a z
    exact ⟨o, kz0 a z o e⟩
  · obtain ⟨s, d', e', w, e1, e2, e3, e4, wk⟩ := h.al j i π v e ev
    obtain ⟨w', T', ew, t, sub⟩ := h.slot e1 e2
    rw [e4] at ew
    cases ew
    exact ⟨s, d', e', w, e1, e2, e3, e4, (Tr.part t e3 wk).2 H' kt fun a z => z.elim (kz a) fun m => ks a (List.mem_append_left _ (sub a m))⟩
theorem Rel.same (h : Rel C γ Θ σ H) (k : Same H H') : Rel C γ Θ σ H' := by
  obtain ⟨sl, tm, n⟩ := γ
  refine h.heap (fun a o e _ => k a o e) fun p b q => ?_
  obtain ⟨Z, S1, S2, h⟩ := h
  exact (h.pu p b q).1.mono (k p)
/-- something on the stack -/
theorem RelX.pushE {Z' : Reg} {T : List Addr} (h : RelX C Z S1 S2 ⟨sl, tm, n⟩ Θ σ H) (en : Ent C Z H T (some v) s) (nd : T.Nodup) (nT : ∀ a ∈ T, a ∉ S1 ++ S2 ∧ ¬ C.tz Z a ∧ ∀ p b, C.pu = some (p, b) → a ≠ p) (na : ∀ i π, s ≠ .al i π) : RelX C Z S1 (T ++ S2) ⟨sl, s :: tm, n⟩ (v :: Θ) σ H := by
  have pm : (S1 ++ (T ++ S2)).Perm (T ++ (S1 ++ S2)) := by
    rw [← List.append_assoc, ← List.append_assoc]
    exact List.Perm.append_right S2 List.perm_append_comm
  refine ⟨h.fr, h.es, .cons en h.et, pm.nodup_iff.mpr (List.nodup_append.mpr ⟨nd, h.nd, fun a m b m' e => (nT a m).1 (e ▸ m')⟩), fun a m => ?_, fun p b q => ⟨(h.pu p b q).1, (h.pu p b q).2.1, fun m => ?_⟩, h.ex, h.dj, fun k j π u e ev => ?_⟩
  · rcases List.mem_append.mp (pm.mem_iff.mp m) with m | m
    · exact (nT a m).2.1
    · exact h.nz a m
  · rcases List.mem_append.mp (pm.mem_iff.mp m) with m | m
    · exact (nT p m).2.2 p b q rfl
    · exact (h.pu p b q).2.2 m
  · cases k with
    | zero =>
      simp at e
      exact absurd e (na _ _)
    | succ k => exact h.al k j π u (by simpa using e) (by simpa using ev)
theorem Rel.push (h : Rel C ⟨sl, tm, n⟩ Θ σ H) (t : ∀ Z, Tr H Z [] v d) : Rel C ⟨sl, .fz d :: tm, n⟩ (v :: Θ) σ H := by
  obtain ⟨Z, S1, S2, h⟩ := h
  exact ⟨Z, S1, _, h.pushE (Z' := Z) (.fz (t Z)) List.nodup_nil (fun a m => nomatch m) (fun i π z => nomatch z)⟩
/-- a new tree on the stack -/
theorem Rel.new (h : Rel C ⟨sl, tm, n⟩ Θ σ H) (k : ∀ a o, H a = some o → (∀ p b, C.pu = some (p, b) → a ≠ p) → H' a = some o) (kp : ∀ p b, C.pu = some (p, b) → PuAt H' p (b - n'))
    (nw : ∃ S, Tr H' noReg S v d ∧ S.Nodup ∧ ∀ a ∈ S, H a = none) : Rel C ⟨sl, own d :: tm, n'⟩ (v :: Θ) σ H' := by
  have h' := h.heap k kp
  obtain ⟨S, t, nd, nw⟩ := nw
  unfold own
  by_cases hn : nolist d = true
  · rw [if_pos hn]
    exact h'.push fun Z => (Tr.nolist d S v t hn).2
  · rw [if_neg hn]
    obtain ⟨Z0, A1, A2, h0⟩ := h
    have old : ∀ a ∈ S, a ∉ A1 ++ A2 ∧ ¬ C.tz Z0 a ∧ ∀ p b, C.pu = some (p, b) → a ≠ p := fun a m => by
      refine ⟨fun z => ?_, fun z => ?_, fun p b q z => ?_⟩
      · rcases List.mem_append.mp z with z | z
        · obtain ⟨xs, e⟩ := h0.es.dom a z
          rw [nw a m] at e
          cases e
        · obtain ⟨xs, e⟩ := h0.et.dom a z
          rw [nw a m] at e
          cases e
      · obtain ⟨o, e⟩ := h0.ex a z
        rw [nw a m] at e
        cases e
      · obtain ⟨x, y, w, e, _⟩ := (h0.pu p b q).1
        rw [← z, nw a m] at e
        cases e
    -- the same regions
    have kt : ∀ t vs, H t = some (.tup vs) → H' t = some (.tup vs) := fun t vs e => k t _ e fun p b q z => by
      subst z
      obtain ⟨x, y, z, e2, _⟩ := (h0.pu t b q).1
      rw [e] at e2
      cases e2
    have kz0 : ∀ a, C.tz Z0 a → ∀ o, H a = some o → H' a = some o := fun a z o e => k a o e fun p b q y => (h0.pu p b q).2.1 (y ▸ z)
    have kz : ∀ a, Z0 a → ∀ o, H a = some o → H' a = some o := fun a z => kz0 a (.inl z)
    have ks : ∀ a ∈ A1 ++ A2, ∀ o, H a = some o → H' a = some o := fun a m o e => k a o e fun p b q y => (h0.pu p b q).2.2 (y ▸ m)
    have h1 : RelX C Z0 A1 A2 ⟨sl, tm, n'⟩ Θ σ H' := ⟨fun a o e m => ⟨(h0.fr a o e m).1, kz0 a (h0.fr a o e m).1 o (h0.fr a o e m).2⟩, h0.es.mono kt (fun _ z => z) kz fun a m => ks a (List.mem_append_left _ m), h0.et.mono kt (fun _ z => z) kz fun a m => ks a (List.mem_append_right _ m), h0.nd, h0.nz, fun p b q => ⟨kp p b q, (h0.pu p b q).2⟩, fun a z => by
      obtain ⟨o, e⟩ := h0.ex a z
      exact ⟨o, kz0 a z o e⟩, h0.dj, fun j i π v e ev => by
      obtain ⟨s, d', e', w, e1, e2, e3, e4, wk⟩ := h0.al j i π v e ev
      obtain ⟨w', T', ew, t, sub⟩ := h0.slot e1 e2
      rw [e4] at ew
      cases ew
      exact ⟨s, d', e', w, e1, e2, e3, e4, (Tr.part t e3 wk).2 H' kt fun a z => z.elim (kz a) fun m => ks a (List.mem_append_left _ (sub a m))⟩⟩
    exact ⟨Z0, A1, _, h1.pushE (Z' := Z0) (.ow t) nd old (fun i π z => nomatch z)⟩
theorem Rel.pop (h : Rel C ⟨sl, s :: tm, n⟩ (v :: Θ) σ H) : Rel C ⟨sl, tm, n⟩ Θ σ H := by
  obtain ⟨Z, S1, S2, h⟩ := h
  obtain ⟨fr, es, et, nd, nz, pu, ex, dj, al⟩ := h
  dsimp only at es et al pu
  cases et with
  | @cons S T _ _ _ _ e1 e2 =>
    have pm : (S1 ++ (S ++ T)).Perm (S ++ (S1 ++ T)) := by
      rw [← List.append_assoc, ← List.append_assoc]
      exact List.Perm.append_right T List.perm_append_comm
    exact ⟨Z, S1, T, fr, es, e2, (List.nodup_append.mp (pm.nodup_iff.mp nd)).2.1, fun a m => nz a (pm.mem_iff.mpr (List.mem_append_right _ m)), fun p b q => ⟨(pu p b q).1, (pu p b q).2.1, fun m => (pu p b q).2.2 (pm.mem_iff.mpr (List.mem_append_right _ m))⟩, ex, dj, fun k j π u e ev => al (k + 1) j π u (by simpa using e) (by simpa using ev)⟩
/-- a name is read -/
theorem Rel.varF (h : Rel C ⟨sl, tm, n⟩ Θ σ H) (e : sl[i]? = some (.fz d)) : ∃ v, σ[i]? = some (some v) ∧ Rel C ⟨sl, .fz d :: tm, n⟩ (v :: Θ) σ H := by
  obtain ⟨Z, S1, S2, h⟩ := h
  obtain ⟨v, T, R, ev, en, pm, _⟩ := h.es.at e
  cases en with
  | fz t => exact ⟨_, ev, Z, S1, _, h.pushE (Z' := Z) (.fz t) List.nodup_nil (fun a m => nomatch m) (fun i π z => nomatch z)⟩
theorem Rel.varP (h : Rel C ⟨sl, tm, n⟩ Θ σ H) (e : sl[i]? = some .pu) : ∃ p b, C.pu = some (p, b) ∧ σ[i]? = some (some (.ref p)) ∧ Rel C ⟨sl, .pu :: tm, n⟩ (.ref p :: Θ) σ H := by
  obtain ⟨Z, S1, S2, h⟩ := h
  obtain ⟨v, T, R, ev, en, pm, _⟩ := h.es.at e
  cases en with
  | pu q => exact ⟨_, _, q, ev, Z, S1, _, h.pushE (Z' := Z) (.pu q) List.nodup_nil (fun a m => nomatch m) (fun i π z => nomatch z)⟩
theorem Rel.varA (h : Rel C ⟨sl, tm, n⟩ Θ σ H) (e : sl[i]? = some s) (ed : datS s = some d) : ∃ v, σ[i]? = some (some v) ∧ Rel C ⟨sl, .al i [] :: tm, n⟩ (v :: Θ) σ H := by
  obtain ⟨Z, S1, S2, h⟩ := h
  obtain ⟨w, T, ew, t, sub⟩ := h.slot (γ := ⟨sl, tm, n⟩) e ed
  refine ⟨w, ew, Z, S1, S2, h.fr, h.es, .cons (S := []) (.al w i []) h.et, h.nd, h.nz, h.pu, h.ex, h.dj, fun k j π u e' ev => ?_⟩
  cases k with
  | zero =>
    simp at e' ev
    obtain ⟨rfl, rfl⟩ := e'
    subst ev
    exact ⟨_, d, d, w, e, ed, rfl, ew, .nil _⟩
  | succ k => exact h.al k j π u (by simpa using e') (by simpa using ev)
/-- an owned tree in a name is frozen -/
theorem Rel.frzS0 (h : Rel C ⟨sl, tm, n⟩ Θ σ H) (e : sl[i]? = some s) (ed : datS s = some d) (htr : ∀ {Z : Reg} T v, Ent C Z H T v s → ∃ w, v = some w ∧ Tr H Z T w d) : Rel C ⟨sl.set i (.fz d), tm, n⟩ Θ σ H := by
  obtain ⟨Z, S1, S2, h⟩ := h
  obtain ⟨v, T, R, ev, en, pm, k⟩ := h.es.at e
  have ndS := pm.nodup_iff.mp (List.nodup_append.mp h.nd).1
  obtain ⟨w, rfl, t⟩ := htr _ _ en
  let Z' : Reg := fun a => Z a ∨ a ∈ T
  obtain ⟨S', es', pm'⟩ := k H Z' [] (some w) (.fz d) (fun _ _ h => h) (fun _ z => .inl z) (fun _ _ _ h => h) (fun _ _ _ h => h) (.fz (Tr.freeze (fun _ z => .inl z) _ _ _ t fun _ m => .inr m))
  have eσ : σ.set i (some w) = σ := by
    refine List.ext_getElem? fun j => ?_
    by_cases hj : i = j
    · subst hj
      rw [List.getElem?_set_self (List.getElem?_eq_some_iff.mp ev).1, ev]
    · rw [List.getElem?_set_ne hj]
  rw [eσ] at es'
  have sub : ∀ a ∈ S' ++ S2, a ∈ S1 ++ S2 ∧ a ∉ T := fun a m => by
    rcases List.mem_append.mp m with m | m
    · have mR : a ∈ R := by simpa using pm'.mem_iff.mp m
      exact ⟨List.mem_append_left _ (pm.mem_iff.mpr (List.mem_append_right _ mR)), fun mT => (List.nodup_append.mp ndS).2.2 a mT a mR rfl⟩
    · exact ⟨List.mem_append_right _ m, fun mT => (List.nodup_append.mp h.nd).2.2 a (pm.mem_iff.mpr (List.mem_append_left _ mT)) a m rfl⟩
  refine ⟨Z', S', S2, fun a o e m => ⟨(h.fr a o e m).1.imp .inl id, (h.fr a o e m).2⟩, es', h.et.mono (fun _ _ h => h) (fun _ z => .inl z) (fun _ _ _ h => h) (fun _ _ _ h => h), ?_, fun a m => ?_, fun p b q => ⟨(h.pu p b q).1, ?_, fun m => (h.pu p b q).2.2 (sub p m).1⟩, fun a z => ?_, fun a z => z.elim (h.dj a) fun m q => h.nz a (List.mem_append_left _ (pm.mem_iff.mpr (List.mem_append_left _ m))) (.inr q), fun j i' π v e' ev' => ?_⟩
  · refine List.nodup_append.mpr ⟨pm'.nodup_iff.mpr (by simpa using (List.nodup_append.mp ndS).2.1), (List.nodup_append.mp h.nd).2.1, fun a m b m' eab => ?_⟩
    have mR : a ∈ R := by simpa using pm'.mem_iff.mp m
    exact (List.nodup_append.mp h.nd).2.2 a (pm.mem_iff.mpr (List.mem_append_right _ mR)) b m' eab
  · rintro ((z | z) | z)
    · exact h.nz a (sub a m).1 (.inl z)
    · exact (sub a m).2 z
    · exact h.nz a (sub a m).1 (.inr z)
  · rintro ((z | z) | z)
    · exact (h.pu p b q).2.1 (.inl z)
    · exact (h.pu p b q).2.2 (List.mem_append_left _ (pm.mem_iff.mpr (List.mem_append_left _ z)))
    · exact (h.pu p b q).2.1 (.inr z)
  · rcases z with (z | z) | z
    · exact h.ex a (.inl z)
    rotate_left
    · exact h.ex a (.inr z)
    · obtain ⟨xs, q⟩ := Tr.dom _ _ _ t a z
      exact ⟨_, q⟩
  · obtain ⟨s, d', e1, w', g1, g2, g3, g4, wk⟩ := h.al j i' π v e' ev'
    by_cases hj : i = i'
    · subst hj
      change sl[i]? = some s at g1
      rw [e] at g1
      cases g1
      rw [ed] at g2
      cases g2
      exact ⟨.fz d, d, e1, w', List.getElem?_set_self (List.getElem?_eq_some_iff.mp e).1, rfl, g3, g4, wk⟩
    · exact ⟨s, d', e1, w', (List.getElem?_set_ne hj).trans g1, g2, g3, g4, wk⟩
theorem Rel.frzS {b : Bool} (h : Rel C ⟨sl, tm, n⟩ Θ σ H) (e : sl[i]? = some (.ow b d)) : Rel C ⟨sl.set i (.fz d), tm, n⟩ Θ σ H := h.frzS0 e rfl fun _ _ en => en.trO
/-- an alias stays while its name does -/
theorem al_set {k j : Nat} {π : List Nat} (na : noAl i tm = true) (e : tm[k]? = some (.al j π)) : i ≠ j := fun z => by
  subst z
  have := List.all_eq_true.mp na _ (List.mem_of_getElem? e)
  simp at this
/-- an owned tree is taken out of a name -/
theorem Rel.mov {b : Bool} (h : Rel C ⟨sl, tm, n⟩ Θ σ H) (e : sl[i]? = some (.ow b d)) (na : noAl i tm = true) : ∃ v, σ[i]? = some (some v) ∧ Rel C ⟨sl.set i .jk, .ow b d :: tm, n⟩ (v :: Θ) σ H := by
  obtain ⟨Z, S1, S2, h⟩ := h
  obtain ⟨v, T, R, ev, en, pm, k⟩ := h.es.at e
  obtain ⟨w, rfl, t⟩ := en.trO
  obtain ⟨S', es', pm'⟩ := k H Z [] (some w) .jk (fun _ _ h => h) (fun _ z => z) (fun _ _ _ h => h) (fun _ _ _ h => h) (.jk _)
  have eσ : σ.set i (some w) = σ := by
    refine List.ext_getElem? fun j => ?_
    by_cases hj : i = j
    · subst hj
      rw [List.getElem?_set_self (List.getElem?_eq_some_iff.mp ev).1, ev]
    · rw [List.getElem?_set_ne hj]
  rw [eσ] at es'
  have pm2 : (S' ++ (T ++ S2)).Perm (S1 ++ S2) := by
    have : (S' ++ T).Perm S1 := (List.Perm.append_right T (by simpa using pm')).trans (List.perm_append_comm.trans pm.symm)
    rw [← List.append_assoc]
    exact List.Perm.append_right S2 this
  refine ⟨w, ev, Z, S', T ++ S2, h.fr, es', .cons en h.et, pm2.nodup_iff.mpr h.nd, fun a m => h.nz a (pm2.mem_iff.mp m), fun p b q => ⟨(h.pu p b q).1, (h.pu p b q).2.1, fun m => (h.pu p b q).2.2 (pm2.mem_iff.mp m)⟩, h.ex, h.dj, fun j i' π v e' ev' => ?_⟩
  cases j with
  | zero => simp at e'
  | succ j =>
    simp at e' ev'
    obtain ⟨s, d', e1, w', g1, g2, g3, g4, wk⟩ := h.al j i' π v e' ev'
    exact ⟨s, d', e1, w', (List.getElem?_set_ne (al_set na e')).trans g1, g2, g3, g4, wk⟩
/-- the top is stored in a name -/
theorem Rel.set (h : Rel C ⟨sl, s :: tm, n⟩ (v :: Θ) σ H) (hs : ∀ i π, s ≠ .al i π) (na : noAl i tm = true) : Rel C ⟨sl.set i s, tm, n⟩ Θ (σ.set i (some v)) H := by
  obtain ⟨Z, S1, S2, h⟩ := h
  obtain ⟨fr, es, et, nd, nz, pu, ex, dj, al⟩ := h
  dsimp only at es et al pu
  cases et with
  | @cons T S2 _ _ _ _ e1 e2 =>
    have len := es.length
    by_cases hi : i < sl.length
    · obtain ⟨s0, e0⟩ : ∃ s0, sl[i]? = some s0 := ⟨_, List.getElem?_eq_getElem hi⟩
      obtain ⟨v0, T0, R, ev, en, pm, k⟩ := es.at e0
      obtain ⟨S', es', pm'⟩ := k H Z T (some v) s (fun _ _ h => h) (fun _ z => z) (fun _ _ _ h => h) (fun _ _ _ h => h) e1
      have pm2 : (S1 ++ (T ++ S2)).Perm (T0 ++ (S' ++ S2)) := by
        have q : (S1 ++ (T ++ S2)).Perm ((T0 ++ R) ++ (T ++ S2)) := List.Perm.append_right _ pm
        refine q.trans ?_
        have q2 : (R ++ (T ++ S2)).Perm (S' ++ S2) := by
          rw [← List.append_assoc]
          exact List.Perm.append_right S2 (List.perm_append_comm.trans pm'.symm)
        rw [List.append_assoc]
        exact List.Perm.append_left T0 q2
      refine ⟨Z, S', S2, fr, es', e2, (List.nodup_append.mp (pm2.nodup_iff.mp nd)).2.1, fun a m => nz a (pm2.mem_iff.mpr (List.mem_append_right _ m)), fun p b q => ⟨(pu p b q).1, (pu p b q).2.1, fun m => (pu p b q).2.2 (pm2.mem_iff.mpr (List.mem_append_right _ m))⟩, ex, dj, fun j i' π u e' ev' => ?_⟩
      obtain ⟨s1, d', e3, w', g1, g2, g3, g4, wk⟩ := al (j + 1) i' π u (by simpa using e') (by simpa using ev')
      have hj := al_set na e'
      exact ⟨s1, d', e3, w', (List.getElem?_set_ne hj).trans g1, g2, g3, (List.getElem?_set_ne hj).trans g4, wk⟩
    · have e3 : sl.set i s = sl := List.set_eq_of_length_le (by omega)
      have e4 : σ.set i (some v) = σ := List.set_eq_of_length_le (by omega)
      rw [e3, e4]
      exact Rel.pop ⟨Z, S1, _, fr, es, .cons e1 e2, nd, nz, pu, ex, dj, al⟩
/-- a name is forgotten -/
theorem Rel.jk (h : Rel C ⟨sl, tm, n⟩ Θ σ H) (na : noAl i tm = true) (o : Option V) : Rel C ⟨sl.set i .jk, tm, n⟩ Θ (σ.set i o) H := by
  obtain ⟨Z, S1, S2, h⟩ := h
  have len := h.es.length
  by_cases hi : i < sl.length
  · obtain ⟨s0, e0⟩ : ∃ s0, sl[i]? = some s0 := ⟨_, List.getElem?_eq_getElem hi⟩
    obtain ⟨v0, T0, R, ev, en, pm, k⟩ := h.es.at (ss := sl) e0
    obtain ⟨S', es', pm'⟩ := k H Z [] o .jk (fun _ _ h => h) (fun _ z => z) (fun _ _ _ h => h) (fun _ _ _ h => h) (.jk _)
    have pm2 : (S1 ++ S2).Perm (T0 ++ (S' ++ S2)) := by
      rw [← List.append_assoc]
      exact List.Perm.append_right S2 (pm.trans (List.Perm.append_left T0 (by simpa using pm'.symm)))
    refine ⟨Z, S', S2, h.fr, es', h.et, (List.nodup_append.mp (pm2.nodup_iff.mp h.nd)).2.1, fun a m => h.nz a (pm2.mem_iff.mpr (List.mem_append_right _ m)), fun p b q => ⟨(h.pu p b q).1, (h.pu p b q).2.1, fun m => (h.pu p b q).2.2 (pm2.mem_iff.mpr (List.mem_append_right _ m))⟩, h.ex, h.dj, fun j i' π u e' ev' => ?_⟩
    obtain ⟨s1, d', e3, w', g1, g2, g3, g4, wk⟩ := h.al j i' π u e' ev'
    have hj := al_set na e'
    exact ⟨s1, d', e3, w', (List.getElem?_set_ne hj).trans g1, g2, g3, (List.getElem?_set_ne hj).trans g4, wk⟩
  · have e3 : sl.set i .jk = sl := List.set_eq_of_length_le (by omega)
    have e4 : σ.set i o = σ := List.set_eq_of_length_le (by change σ.length = sl.length at len; omega)
    rw [e3, e4]
    exact ⟨Z, S1, S2, h⟩
end
mutual
theorem repU {H : Hp} : ∀ (d : D) (v : V) (A B : List Addr), Rep H A v d → Rep H B v d → A = B
  | .none, _, _, _, h, k => by cases h; cases k; rfl
  | .bool b, _, _, _, h, k => by cases h; cases k; rfl
  | .int i, _, _, _, h, k => by cases h; cases k; rfl
  | .str x, _, _, _, h, k => by cases h; cases k; rfl
  | .list ds, _, _, _, h, k => by
    cases h with
    | lst h1 h2 =>
      cases k with
      | lst k1 k2 =>
        rw [h1] at k1
        cases k1
        rw [repsU ds _ _ _ h2 k2]
  | .tuple ds, _, _, _, h, k => by
    cases h with
    | tup h1 h2 =>
      cases k with
      | tup k1 k2 =>
        rw [h1] at k1
        cases k1
        exact repsU ds _ _ _ h2 k2
  | .dict _, _, _, _, h, k => by
    cases h with
    | box h1 h2 =>
      cases k with
      | box k1 k2 =>
        obtain ⟨_, rfl⟩ := h1.uniq k1
        rw [repsU _ _ _ _ h2 k2]
theorem repsU {H : Hp} : ∀ (ds : List D) (vs : List V) (A B : List Addr), Reps H A vs ds → Reps H B vs ds → A = B
  | [], _, _, _, h, k => by cases h; cases k; rfl
  | d :: ds, _, _, _, h, k => by
    cases h with
    | cons h1 h2 =>
      cases k with
      | cons k1 k2 => rw [repU d _ _ _ h1 k1, repsU ds _ _ _ h2 k2]
end
section
variable {C : Cn} {Z : Reg} {S1 S2 : List Addr} {γ : VSt} {Θ : List V} {σ : L2.St} {H H' : Hp} {sl tm : List Sl} {n n' : Int} {v : V} {s : Sl} {d : D} {i : Nat}
/-- the top is frozen -/
theorem Rel.frzT {b : Bool} (h : Rel C ⟨sl, .ow b d :: tm, n⟩ (v :: Θ) σ H) : Rel C ⟨sl, .fz d :: tm, n⟩ (v :: Θ) σ H := by
  obtain ⟨Z, S1, S2, h⟩ := h
  obtain ⟨fr, es, et, nd, nz, pu, ex, dj, al⟩ := h
  dsimp only at es et al pu
  cases et with
  | @cons T S2 _ _ _ _ e1 e2 =>
    obtain ⟨w, ew, t⟩ := e1.trO
    cases ew
    let Z' : Reg := fun a => Z a ∨ a ∈ T
    have pm : (S1 ++ (T ++ S2)).Perm (T ++ (S1 ++ S2)) := by
      rw [← List.append_assoc, ← List.append_assoc]
      exact List.Perm.append_right S2 List.perm_append_comm
    have nd2 := List.nodup_append.mp (pm.nodup_iff.mp nd)
    refine ⟨Z', S1, [] ++ S2, fun a o e m => ⟨(fr a o e m).1.imp .inl id, (fr a o e m).2⟩, es.mono (fun _ _ h => h) (fun _ z => .inl z) (fun _ _ _ h => h) (fun _ _ _ h => h), .cons (.fz (Tr.freeze (fun _ z => .inl z) _ _ _ t fun _ m => .inr m)) (e2.mono (fun _ _ h => h) (fun _ z => .inl z) (fun _ _ _ h => h) (fun _ _ _ h => h)), nd2.2.1, fun a m => ?_, fun p b q => ⟨(pu p b q).1, ?_, fun m => (pu p b q).2.2 (pm.mem_iff.mpr (List.mem_append_right _ m))⟩, fun a z => ?_, fun a z => z.elim (dj a) fun m q => nz a (pm.mem_iff.mpr (List.mem_append_left _ m)) (.inr q), fun j i' π u e' ev' => ?_⟩
    · rintro ((z | z) | z)
      · exact nz a (pm.mem_iff.mpr (List.mem_append_right _ m)) (.inl z)
      · exact nd2.2.2 a z a m rfl
      · exact nz a (pm.mem_iff.mpr (List.mem_append_right _ m)) (.inr z)
    · rintro ((z | z) | z)
      · exact (pu p b q).2.1 (.inl z)
      · exact (pu p b q).2.2 (pm.mem_iff.mpr (List.mem_append_left _ z))
      · exact (pu p b q).2.1 (.inr z)
    · rcases z with (z | z) | z
      · exact ex a (.inl z)
      rotate_left
      · exact ex a (.inr z)
      · obtain ⟨xs, q⟩ := Tr.dom _ _ _ t a z
        exact ⟨_, q⟩
    · cases j with
      | zero => simp at e'
      | succ j => exact al (j + 1) i' π u (by simpa using e') (by simpa using ev')
def hoq (l : Bool) (vs : List V) : HO := if l then .lst vs else .tup vs
def dq (l : Bool) (ds : List D) : D := if l then .list ds else .tuple ds
theorem Tr.seq {S : List Addr} {l : Bool} {ds : List D} (t : Tr H Z S v (dq l ds)) : ∃ a vs T, v = .ref a ∧ H a = some (hoq l vs) ∧ Trs H Z T vs ds ∧ ∀ x ∈ T, x ∈ S := by
  cases l with
  | true =>
    cases t with
    | lst e t => exact ⟨_, _, _, rfl, e, t, fun x m => List.mem_cons_of_mem _ m⟩
    | lstZ z e t => exact ⟨_, _, _, rfl, e, t, fun x m => m⟩
  | false =>
    cases t with
    | tup e t => exact ⟨_, _, _, rfl, e, t, fun x m => m⟩
/-- what an item of it is -/
def subS (s : Sl) (k : Nat) (d : D) : Sl := match s with
  | .ow true _ => own d
  | .al i π => if nolist d then .fz d else .al i (π ++ [k])
  | _ => .fz d
theorem RelX.frame (h : RelX C Z S1 S2 γ Θ σ H) : ∀ a ∈ S1 ++ S2, ¬ C.tz Z a ∧ ∀ p b, C.pu = some (p, b) → a ≠ p := fun a m => ⟨h.nz a m, fun p b q z => (h.pu p b q).2.2 (z ▸ m)⟩
/-- an item of the top -/
theorem Rel.item {l : Bool} {ds : List D} (h : Rel C ⟨sl, s :: tm, n⟩ (v :: Θ) σ H) (lk : look sl s = some (dq l ds)) : ∃ a vs, v = .ref a ∧ H a = some (hoq l vs) ∧ vs.length = ds.length ∧
    ∀ k d w, ds[k]? = some d → vs[k]? = some w → Rel C ⟨sl, subS s k d :: tm, n⟩ (w :: Θ) σ H := by
  -- as a whole
  have whole : ∃ a vs, v = .ref a ∧ H a = some (hoq l vs) ∧ vs.length = ds.length := by
    obtain ⟨Z, S1, S2, h⟩ := h
    obtain ⟨T, t, _⟩ := h.trAt (k := 0) rfl rfl lk
    obtain ⟨a, vs, T', rfl, e, ts, _⟩ := t.seq
    exact ⟨a, vs, rfl, e, ts.length⟩
  obtain ⟨a, vs, rfl, e, el⟩ := whole
  have eqv : ∀ us, H a = some (hoq l us) → us = vs := fun us q => by
    rw [e] at q
    cases l with
    | true => cases q; rfl
    | false => cases q; rfl
  refine ⟨a, vs, rfl, e, el, fun k x w hx hw => ?_⟩
  have hz : ∀ {b : Bool} {d' : D}, Rel C ⟨sl, .fz d' :: tm, n⟩ (.ref a :: Θ) σ H → d' = dq l ds → Rel C ⟨sl, .fz x :: tm, n⟩ (w :: Θ) σ H := fun {b d'} h ed => by
    subst ed
    obtain ⟨Z, S1, S2, h⟩ := h
    obtain ⟨fr, es, et, nd, nz, pu, ex, dj, al⟩ := h
    dsimp only at es et al pu
    cases et with
    | cons e1 e2 =>
      cases e1 with
      | fz t =>
        obtain ⟨a', us, T', ea, e', ts, sub⟩ := t.seq
        cases ea
        obtain rfl := eqv us e'
        obtain ⟨T1, R1, t1, pm⟩ := ts.get hx hw
        have e0 : T1 = [] := by
          cases T1 with
          | nil => rfl
          | cons y ys => exact nomatch sub y (pm.mem_iff.mpr (by simp))
        subst e0
        exact ⟨Z, S1, _, fr, es, .cons (S := []) (.fz t1) e2, nd, nz, pu, ex, dj, fun j i' π u e' ev' => by
          cases j with
          | zero => simp at e'
          | succ j => exact al (j + 1) i' π u (by simpa using e') (by simpa using ev')⟩
  cases s with
  | jk => cases lk
  | dc m => cases lk
  | dt m => cases lk
  | sh m => cases lk
  | xv _ _ m => cases lk
  | ho _ _ => cases lk
  | xw _ _ => cases lk
  | io d' => cases lk
  | pu => cases lk
  | fz d' =>
    cases lk
    exact hz (b := true) h rfl
  | ow b d' =>
    cases lk
    cases b with
    | false => exact hz (b := true) h.frzT rfl
    | true =>
      obtain ⟨Z, S1, S2, h⟩ := h
      obtain ⟨fr, es, et, nd, nz, pu, ex, dj, al⟩ := h
      dsimp only at es et al pu
      cases et with
      | @cons T S2 _ _ _ _ e1 e2 =>
        cases e1 with
        | ow t =>
          obtain ⟨a', us, T', ea, e', ts, sub⟩ := t.seq
          cases ea
          obtain rfl := eqv us e'
          obtain ⟨T1, R1, t1, pm⟩ := ts.get hx hw
          show Rel C ⟨sl, own x :: tm, n⟩ (w :: Θ) σ H
          have h0 : RelX C Z S1 S2 ⟨sl, tm, n⟩ Θ σ H := by
            have p2 : (S1 ++ (T ++ S2)).Perm (T ++ (S1 ++ S2)) := by
              rw [← List.append_assoc, ← List.append_assoc]
              exact List.Perm.append_right S2 List.perm_append_comm
            exact ⟨fr, es, e2, (List.nodup_append.mp (p2.nodup_iff.mp nd)).2.1, fun a m => nz a (p2.mem_iff.mpr (List.mem_append_right _ m)), fun p b q => ⟨(pu p b q).1, (pu p b q).2.1, fun m => (pu p b q).2.2 (p2.mem_iff.mpr (List.mem_append_right _ m))⟩, ex, dj, fun k j π u e ev => al (k + 1) j π u (by simpa using e) (by simpa using ev)⟩
          unfold own
          by_cases hn : nolist x = true
          · rw [if_pos hn]
            exact Rel.push ⟨Z, S1, S2, h0⟩ fun Z => (Tr.nolist x T1 w t1 hn).2
          · rw [if_neg hn]
            have ndT : T.Nodup := (List.nodup_append.mp (List.nodup_append.mp nd).2.1).1
            have sub1 : ∀ y ∈ T1, y ∈ T := fun y m => sub y (pm.mem_iff.mpr (List.mem_append_left _ m))
            have disj : ∀ y ∈ T, y ∉ S1 ++ S2 := fun y m z => by
              rcases List.mem_append.mp z with z | z
              · exact (List.nodup_append.mp nd).2.2 y z y (List.mem_append_left _ m) rfl
              · exact (List.nodup_append.mp (List.nodup_append.mp nd).2.1).2.2 y m y z rfl
            have nd1 : T1.Nodup := by
              cases l with
              | true =>
                cases t with
                | lst g1 g2 =>
                  rw [e'] at g1
                  cases g1
                  obtain ⟨T2, R2, t2, pm2⟩ := g2.get hx hw
                  have := (List.nodup_append.mp (pm2.nodup_iff.mp (List.nodup_cons.mp ndT).2)).1
                  have uq : T1 = T2 := repU _ _ _ _ (Tr.repO _ _ _ t1) (Tr.repO _ _ _ t2)
                  rw [uq]
                  exact this
                | lstZ z _ _ => exact z.elim
              | false =>
                cases t with
                | tup g1 g2 =>
                  rw [e'] at g1
                  cases g1
                  obtain ⟨T2, R2, t2, pm2⟩ := g2.get hx hw
                  have := (List.nodup_append.mp (pm2.nodup_iff.mp ndT)).1
                  have uq : T1 = T2 := repU _ _ _ _ (Tr.repO _ _ _ t1) (Tr.repO _ _ _ t2)
                  rw [uq]
                  exact this
            exact ⟨Z, S1, _, h0.pushE (Z' := Z) (.ow t1) nd1 (fun y m => ⟨disj y (sub1 y m), nz y (List.mem_append_right _ (List.mem_append_left _ (sub1 y m))), fun p b q z => (pu p b q).2.2 (z ▸ List.mem_append_right _ (List.mem_append_left _ (sub1 y m)))⟩) (fun i π z => nomatch z)⟩
  | al j π =>
    show Rel C ⟨sl, (if nolist x then .fz x else .al j (π ++ [k])) :: tm, n⟩ (w :: Θ) σ H
    by_cases hn : nolist x = true
    · rw [if_pos hn]
      have : ∃ T Z', Tr H Z' T w x := by
        obtain ⟨Z, S1, S2, h⟩ := h
        obtain ⟨T, t, _⟩ := h.trAt (k := 0) rfl rfl lk
        obtain ⟨a', us, T', ea, e', ts, _⟩ := t.seq
        cases ea
        obtain rfl := eqv us e'
        obtain ⟨T1, R1, t1, pm⟩ := ts.get hx hw
        exact ⟨_, _, t1⟩
      obtain ⟨T, Z', t⟩ := this
      exact h.pop.push fun Z => (Tr.nolist x T w t hn).2
    · rw [if_neg hn]
      obtain ⟨Z, S1, S2, h⟩ := h
      obtain ⟨fr, es, et, nd, nz, pu, ex, dj, al⟩ := h
      dsimp only at es et al pu
      cases et with
      | cons e1 e2 =>
        cases e1
        refine ⟨Z, S1, _, fr, es, .cons (S := []) (.al w j _) e2, nd, nz, pu, ex, dj, fun m j' π' u e' ev' => ?_⟩
        cases m with
        | succ m => exact al (m + 1) j' π' u (by simpa using e') (by simpa using ev')
        | zero =>
          simp at e' ev'
          obtain ⟨rfl, rfl⟩ := e'
          subst ev'
          obtain ⟨s, d', e1, w', g1, g2, g3, g4, wk⟩ := al 0 j π (.ref a) rfl rfl
          change sl[j]? = some s at g1
          have ee : e1 = dq l ds := by
            simp only [look, g1, g2, g3, Option.bind_some, Option.some.injEq] at lk
            exact lk
          subst ee
          refine ⟨s, d', x, w', g1, g2, atP_snoc π d' _ ds k x g3 ?_ hx, g4, wk.snoc rfl ?_ hw⟩
          · cases l with
            | true => exact .inl rfl
            | false => exact .inr (.inl rfl)
          · cases l with
            | true => exact .inl e
            | false => exact .inr e
end
structure Fl (C : Cn) (Z : Reg) (S1 S2 : List Addr) (H : Hp) (A : List Addr) : Prop where
  nd : (A ++ (S1 ++ S2)).Nodup
  ok : ∀ a ∈ A, ¬ C.tz Z a ∧ (∀ p b, C.pu = some (p, b) → a ≠ p) ∧ ∃ o, H a = some o
abbrev rgn (b : Bool) (Z : Reg) : Reg := if b then noReg else Z
theorem nodup_cnt {l : List Addr} : l.Nodup ↔ ∀ a, l.count a ≤ 1 := List.nodup_iff_count
section
variable {C : Cn} {Z : Reg} {S1 S2 A : List Addr} {γ : VSt} {Θ : List V} {σ : L2.St} {H H' : Hp} {sl tm : List Sl} {n n' : Int} {v : V} {s : Sl} {d : D} {i : Nat}
theorem Ents.split {ss ts : List Sl} : ∀ {vs us : List (Option V)} {S : List Addr}, vs.length = ss.length → Ents C Z H S (vs ++ us) (ss ++ ts) → ∃ A B, S = A ++ B ∧ Ents C Z H A vs ss ∧ Ents C Z H B us ts := by
  induction ss with
  | nil =>
    intro vs us S e h
    match vs, e with
    | [], _ => exact ⟨[], S, rfl, .nil, h⟩
  | cons s ss ih =>
    intro vs us S e h
    match vs, e with
    | v :: vs, e =>
      cases h with
      | cons h1 h2 =>
        obtain ⟨A, B, rfl, a, b⟩ := ih (by simpa using e) h2
        exact ⟨_, B, (List.append_assoc ..).symm, .cons h1 a, b⟩
theorem Ents.append {ss ts : List Sl} : ∀ {vs us : List (Option V)} {S T : List Addr}, Ents C Z H S vs ss → Ents C Z H T us ts → Ents C Z H (S ++ T) (vs ++ us) (ss ++ ts) := by
  induction ss with
  | nil =>
    intro vs us S T h k
    cases h
    exact k
  | cons s ss ih =>
    intro vs us S T h k
    cases h with
    | cons h1 h2 =>
      have := Ents.cons h1 (ih h2 k)
      rw [← List.append_assoc] at this
      exact this
theorem Ents.rev {ss : List Sl} : ∀ {vs : List (Option V)} {S : List Addr}, Ents C Z H S vs ss → ∃ S', S'.Perm S ∧ Ents C Z H S' vs.reverse ss.reverse := by
  induction ss with
  | nil =>
    intro vs S h
    cases h
    exact ⟨_, .refl _, .nil⟩
  | cons s ss ih =>
    intro vs S h
    cases h with
    | @cons A B _ _ _ _ h1 h2 =>
      obtain ⟨S', p, q⟩ := ih h2
      have := Ents.append q (.cons h1 .nil)
      rw [List.append_nil] at this
      rw [List.reverse_cons, List.reverse_cons]
      exact ⟨_, List.perm_append_comm.trans (List.Perm.append_left A p), this⟩
theorem RelX.popF {ss : List Sl} {us : List V} (h : RelX C Z S1 S2 ⟨sl, ss ++ tm, n⟩ (us ++ Θ) σ H) (el : us.length = ss.length) : ∃ A B, Ents C Z H A (us.map some) ss ∧ RelX C Z S1 B ⟨sl, tm, n⟩ Θ σ H ∧ Fl C Z S1 B H A := by
  obtain ⟨fr, es, et, nd, nz, pu, ex, dj, al⟩ := h
  dsimp only at es et al pu
  rw [List.map_append] at et
  obtain ⟨A, B, rfl, e1, e2⟩ := et.split (by rw [List.length_map, el])
  have pm : (S1 ++ (A ++ B)).Perm (A ++ (S1 ++ B)) := by
    rw [← List.append_assoc, ← List.append_assoc]
    exact List.Perm.append_right B List.perm_append_comm
  have nd2 := pm.nodup_iff.mp nd
  refine ⟨A, B, e1, ⟨fr, es, e2, (List.nodup_append.mp nd2).2.1, fun a m => nz a (pm.mem_iff.mpr (List.mem_append_right _ m)), fun p b q => ⟨(pu p b q).1, (pu p b q).2.1, fun m => (pu p b q).2.2 (pm.mem_iff.mpr (List.mem_append_right _ m))⟩, ex, dj, fun k j π u e ev => al (ss.length + k) j π u ?_ ?_⟩, nd2, fun a m => ⟨nz a (pm.mem_iff.mpr (List.mem_append_left _ m)), fun p b q z => (pu p b q).2.2 (z ▸ pm.mem_iff.mpr (List.mem_append_left _ m)), e1.dom a m⟩⟩
  · rw [List.getElem?_append_right (by omega)]
    simpa using e
  · rw [List.getElem?_append_right (by omega)]
    simpa [el] using ev
theorem RelX.pushF {A' Dr : List Addr} (h : RelX C Z S1 S2 ⟨sl, tm, n⟩ Θ σ H) (f : Fl C Z S1 S2 H A) (pm : A.Perm (A' ++ Dr)) (en : Ent C Z H A' (some v) s) (na : ∀ i π, s ≠ .al i π) : RelX C Z S1 (A' ++ S2) ⟨sl, s :: tm, n⟩ (v :: Θ) σ H := by
  have sub : ∀ a ∈ A', a ∈ A := fun a m => pm.mem_iff.mpr (List.mem_append_left _ m)
  refine h.pushE (Z' := Z) en (List.nodup_append.mp (pm.nodup_iff.mp (List.nodup_append.mp f.nd).1)).1 (fun a m => ⟨fun z => (List.nodup_append.mp f.nd).2.2 a (sub a m) a z rfl, (f.ok a (sub a m)).1, (f.ok a (sub a m)).2.1⟩) na
theorem RelX.growF (h : RelX C Z S1 S2 γ Θ σ H) (f : Fl C Z S1 S2 H A) : RelX C (fun a => Z a ∨ a ∈ A) S1 S2 γ Θ σ H := by
  refine ⟨fun a o e m => ⟨(h.fr a o e m).1.imp .inl id, (h.fr a o e m).2⟩, h.es.mono (fun _ _ h => h) (fun _ z => .inl z) (fun _ _ _ h => h) (fun _ _ _ h => h), h.et.mono (fun _ _ h => h) (fun _ z => .inl z) (fun _ _ _ h => h) (fun _ _ _ h => h), h.nd, fun a m => ?_, fun p b q => ⟨(h.pu p b q).1, ?_, (h.pu p b q).2.2⟩, fun a z => ?_, fun a z => z.elim (h.dj a) fun m q => (f.ok a m).1 (.inr q), h.al⟩
  · rintro ((z | z) | z)
    · exact h.nz a m (.inl z)
    · exact (List.nodup_append.mp f.nd).2.2 a z a m rfl
    · exact h.nz a m (.inr z)
  · rintro ((z | z) | z)
    · exact (h.pu p b q).2.1 (.inl z)
    · exact (f.ok p z).2.1 p b q rfl
    · exact (h.pu p b q).2.1 (.inr z)
  · rcases z with (z | z) | z
    · exact h.ex a (.inl z)
    rotate_left
    · exact h.ex a (.inr z)
    · obtain ⟨xs, e⟩ := (f.ok a z).2.2
      exact ⟨_, e⟩
/-- what items give -/
def con : Sl → Option (Bool × D)
  | .fz d => some (nolist d, d)
  | .ow b d => some (b, d)
  | _ => none
def cont : List Sl → Option (Bool × List D)
  | [] => some (true, [])
  | s :: ss => (con s).bind fun x => (cont ss).bind fun y => some (x.1 && y.1, x.2 :: y.2)
theorem Ent.con {S : List Addr} {b : Bool} (h : Ent C Z H S (some v) s) (e : con s = some (b, d)) : Tr H (rgn b Z) S v d := by
  have up : ∀ {S d}, Tr H noReg S v d → Tr H (rgn b Z) S v d := fun {S d} t => Tr.mono (fun _ _ h => h) (fun _ z => z.elim) (fun _ z => z.elim) _ _ _ t fun _ _ _ h => h
  cases h with
  | jk v => cases e
  | fz t =>
    simp only [G.con, Option.some.injEq, Prod.mk.injEq] at e
    obtain ⟨e1, rfl⟩ := e
    cases b with
    | true => exact (Tr.nolist _ _ _ t e1).2
    | false => exact t
  | ow t =>
    simp only [G.con, Option.some.injEq, Prod.mk.injEq] at e
    obtain ⟨e1, rfl⟩ := e
    exact up t
  | sp h1 t =>
    simp only [G.con, Option.some.injEq, Prod.mk.injEq] at e
    obtain ⟨rfl, rfl⟩ := e
    exact .lst h1 t
  | al v i π => cases e
  | pu e' => cases e
  | io t e' => cases e
  | dc _ _ => cases e
  | dt _ _ => cases e
  | sh _ _ => cases e
  | xv _ _ => cases e
  | ho _ _ _ => cases e
  | xw _ => cases e
theorem rgn_mono {b b' : Bool} (h : b' = true → b = true) : ∀ a, rgn b Z a → rgn b' Z a := fun a z => by
  cases b with
  | true => exact z.elim
  | false =>
    cases b' with
    | true => exact absurd (h rfl) (by simp)
    | false => exact z
theorem Tr.weak {Z' : Reg} {S : List Addr} (t : Tr H Z S v d) (h : ∀ a, Z a → Z' a) : Tr H Z' S v d := Tr.mono (fun _ _ h => h) h (fun _ _ _ h => h) _ _ _ t fun _ _ _ h => h
theorem Trs.weak {Z' : Reg} {S : List Addr} {vs : List V} {ds : List D} (t : Trs H Z S vs ds) (h : ∀ a, Z a → Z' a) : Trs H Z' S vs ds := Trs.mono (fun _ _ h => h) h (fun _ _ _ h => h) _ _ _ t fun _ _ _ h => h
theorem Ents.cont : ∀ {ss : List Sl} {vs : List V} {S : List Addr} {b : Bool} {ds : List D}, Ents C Z H S (vs.map some) ss → cont ss = some (b, ds) → Trs H (rgn b Z) S vs ds
  | [], [], _, b, ds, h, e => by
    cases h
    simp only [G.cont, Option.some.injEq, Prod.mk.injEq] at e
    obtain ⟨rfl, rfl⟩ := e
    exact .nil
  | [], v :: vs, _, b, ds, h, e => by cases h
  | s :: ss, [], _, b, ds, h, e => by cases h
  | s :: ss, v :: vs, _, b, ds, h, e => by
    cases h with
    | cons h1 h2 =>
      simp only [G.cont] at e
      cases q1 : con s with
      | none => rw [q1] at e; cases e
      | some x =>
        cases q2 : G.cont ss with
        | none => rw [q1, q2] at e; cases e
        | some y =>
          rw [q1, q2] at e
          simp only [Option.bind_some, Option.some.injEq, Prod.mk.injEq] at e
          obtain ⟨rfl, rfl⟩ := e
          have t1 := h1.con (b := x.1) (d := x.2) q1
          have t2 := Ents.cont (b := y.1) (ds := y.2) h2 q2
          refine .cons (t1.weak (rgn_mono fun z => ?_)) (t2.weak (rgn_mono fun z => ?_))
          · rw [Bool.and_eq_true] at z
            exact z.1
          · rw [Bool.and_eq_true] at z
            exact z.2
/-- a new container -/
def mkS (l b : Bool) (ds : List D) : Sl := if b then own (dq l ds) else if l then .ow false (.list ds) else .fz (.tuple ds)
theorem Tr.mk {l : Bool} {S : List Addr} {vs : List V} {ds : List D} {p : Addr} (e : H p = some (hoq l vs)) (t : Trs H Z S vs ds) : Tr H Z (if l then p :: S else S) (.ref p) (dq l ds) := by
  cases l with
  | true => exact .lst e t
  | false => exact .tup e t
theorem Rel.cont {ss : List Sl} {vs : List V} {b l : Bool} {ds : List D} {p : Addr} (h : Rel C ⟨sl, ss.reverse ++ tm, n⟩ (vs.reverse ++ Θ) σ H) (el : vs.length = ss.length) (e : cont ss = some (b, ds)) (hp : H p = none) :
    Rel C ⟨sl, mkS l b ds :: tm, n⟩ (.ref p :: Θ) σ (upd H p (hoq l vs)) := by
  have h1 := h.same (same_upd (o := hoq l vs) hp)
  obtain ⟨Z0, A1, A2, h0⟩ := h
  -- p is new
  have newp : ∀ a, (∃ xs, H a = some xs) → a ≠ p := fun a ⟨o, z⟩ e => by rw [e, hp] at z; cases z
  obtain ⟨A0, B0, e0, r0, f0⟩ := h0.popF (by simp [el])
  have kz : ∀ a o, H a = some o → upd H p (hoq l vs) a = some o := same_upd hp
  have r1 : RelX C Z0 A1 B0 ⟨sl, tm, n⟩ Θ σ (upd H p (hoq l vs)) := by
    refine ⟨fun a o e m => ⟨(r0.fr a o e m).1, kz a o (r0.fr a o e m).2⟩, r0.es.mono (fun t vs e => kz t _ e) (fun _ z => z) (fun a _ o e => kz a o e) (fun a _ o e => kz a o e), r0.et.mono (fun t vs e => kz t _ e) (fun _ z => z) (fun a _ o e => kz a o e) (fun a _ o e => kz a o e), r0.nd, r0.nz, fun q b e => ⟨(r0.pu q b e).1.mono (kz q), (r0.pu q b e).2⟩, fun a z => ?_, r0.dj, fun k j π u e ev => ?_⟩
    · obtain ⟨o, e⟩ := r0.ex a z
      exact ⟨o, kz a o e⟩
    · obtain ⟨s, d', e', w, g1, g2, g3, g4, wk⟩ := r0.al k j π u e ev
      obtain ⟨w', T', ew, t, sub⟩ := r0.slot g1 g2
      rw [g4] at ew
      cases ew
      exact ⟨s, d', e', w, g1, g2, g3, g4, (Tr.part t g3 wk).2 _ (fun t vs e => kz t _ e) fun a _ o e => kz a o e⟩
  obtain ⟨A, pmA, e3⟩ := e0.rev
  rw [← List.map_reverse, List.reverse_reverse, List.reverse_reverse] at e3
  have f1 : Fl C Z0 A1 B0 (upd H p (hoq l vs)) A := ⟨(List.Perm.append_right _ pmA).nodup_iff.mpr f0.nd, fun a m => by
    obtain ⟨q1, q2, xs, q3⟩ := f0.ok a (pmA.mem_iff.mp m)
    exact ⟨q1, q2, xs, kz a _ q3⟩⟩
  have e4 : Ents C Z0 (upd H p (hoq l vs)) A (vs.map some) ss := e3.mono (fun t vs e => kz t _ e) (fun _ z => z) (fun a _ o e => kz a o e) (fun a _ o e => kz a o e)
  have t := e4.cont e
  have upS : upd H p (hoq l vs) p = some (hoq l vs) := upd_same
  -- the new list itself
  have f2 : ∀ xs, hoq l vs = .lst xs → Fl C Z0 A1 B0 (upd H p (hoq l vs)) (p :: A) := fun xs ex => by
    refine ⟨?_, fun a m => ?_⟩
    · rw [List.cons_append]
      refine List.nodup_cons.mpr ⟨fun m => ?_, f1.nd⟩
      rcases List.mem_append.mp m with m | m
      · obtain ⟨ys, q⟩ := (f0.ok p (pmA.mem_iff.mp m)).2.2
        rw [hp] at q
        cases q
      · rcases List.mem_append.mp m with m | m
        · obtain ⟨ys, q⟩ := r0.es.dom p m
          rw [hp] at q
          cases q
        · obtain ⟨ys, q⟩ := r0.et.dom p m
          rw [hp] at q
          cases q
    · rcases List.mem_cons.mp m with rfl | m
      · refine ⟨fun z => ?_, fun q b e z => ?_, _, upS⟩
        · obtain ⟨o, q⟩ := r0.ex a z
          rw [hp] at q
          cases q
        · subst z
          obtain ⟨x, y, z, e2, _⟩ := (r0.pu a b e).1
          rw [hp] at e2
          cases e2
      · exact f1.ok a m
  cases b with
  | true =>
    show Rel C ⟨sl, own (dq l ds) :: tm, n⟩ _ σ _
    unfold own
    by_cases hn : nolist (dq l ds) = true
    · rw [if_pos hn]
      refine Rel.push ⟨_, _, _, r1⟩ fun Z => ?_
      exact (Tr.nolist _ _ _ (Tr.mk upS t) hn).2
    · rw [if_neg hn]
      cases l with
      | true => exact ⟨_, _, _, r1.pushF (f2 _ rfl) (A' := p :: A) (Dr := []) (by simp) (.ow (Tr.mk (l := true) upS t)) (fun i π z => nomatch z)⟩
      | false => exact ⟨_, _, _, r1.pushF f1 (A' := A) (Dr := []) (by simp) (.ow (Tr.mk (l := false) upS t)) (fun i π z => nomatch z)⟩
  | false =>
    cases l with
    | true => exact ⟨_, _, _, r1.pushF (f2 _ rfl) (A' := p :: A) (Dr := []) (by simp) (.sp upS t) (fun i π z => nomatch z)⟩
    | false =>
      have g := r1.growF f1
      have t2 : Tr (upd H p (hoq false vs)) (fun a => Z0 a ∨ a ∈ A) [] (.ref p) (.tuple ds) := .tup upS (Trs.freeze (fun _ z => .inl z) _ _ _ t fun _ m => .inr m)
      exact ⟨_, _, _, g.pushE (Z' := fun _ => False) (.fz t2) List.nodup_nil (fun a m => nomatch m) (fun i π z => nomatch z)⟩
/-- a tuple's items, all at once -/
def itS : Sl → Option (List Sl)
  | .fz (.tuple ds) => some (ds.map .fz)
  | .ow true (.tuple ds) => some (ds.map own)
  | _ => none
theorem Trs.own : ∀ {ds : List D} {vs : List V} {S : List Addr}, Trs H noReg S vs ds → Ents C Z H S (vs.map some) (ds.map G.own)
  | [], _, _, h => by cases h; exact .nil
  | d :: ds, _, _, h => by
    cases h with
    | @cons S T v _ _ _ h1 h2 =>
      refine .cons ?_ (Trs.own h2)
      unfold G.own
      by_cases hn : G.nolist d = true
      · rw [if_pos hn]
        obtain ⟨rfl, t⟩ := Tr.nolist (Z' := Z) _ _ _ h1 hn
        exact .fz t
      · rw [if_neg hn]
        exact .ow h1
theorem Trs.fzs : ∀ {ds : List D} {vs : List V} {S : List Addr}, Trs H Z S vs ds → S = [] → Ents C Z H [] (vs.map some) (ds.map Sl.fz)
  | [], _, _, h, _ => by cases h; exact .nil
  | d :: ds, _, _, h, e => by
    cases h with
    | cons h1 h2 =>
      obtain ⟨rfl, rfl⟩ := List.append_eq_nil_iff.mp e
      exact .cons (S := []) (.fz h1) (Trs.fzs h2 rfl)
theorem RelX.pushEs {ss : List Sl} {us : List V} (h : RelX C Z S1 S2 ⟨sl, tm, n⟩ Θ σ H) (f : Fl C Z S1 S2 H A) (en : Ents C Z H A (us.map some) ss) (na : ∀ s ∈ ss, ∀ i π, s ≠ .al i π) : RelX C Z S1 (A ++ S2) ⟨sl, ss ++ tm, n⟩ (us ++ Θ) σ H := by
  have pm : (S1 ++ (A ++ S2)).Perm (A ++ (S1 ++ S2)) := by
    rw [← List.append_assoc, ← List.append_assoc]
    exact List.Perm.append_right S2 List.perm_append_comm
  have el : us.length = ss.length := by simpa using en.length
  refine ⟨h.fr, h.es, by rw [List.map_append]; exact en.append h.et, pm.nodup_iff.mpr f.nd, fun a m => ?_, fun p b q => ⟨(h.pu p b q).1, (h.pu p b q).2.1, fun m => ?_⟩, h.ex, h.dj, fun k j π u e ev => ?_⟩
  · rcases List.mem_append.mp (pm.mem_iff.mp m) with m | m
    · exact (f.ok a m).1
    · exact h.nz a m
  · rcases List.mem_append.mp (pm.mem_iff.mp m) with m | m
    · exact (f.ok p m).2.1 p b q rfl
    · exact (h.pu p b q).2.2 m
  · by_cases hk : k < ss.length
    · change (ss ++ tm)[k]? = _ at e
      rw [List.getElem?_append_left hk] at e
      exact absurd rfl (na _ (List.mem_of_getElem? e) j π)
    · refine h.al (k - ss.length) j π u ?_ ?_
      · rw [List.getElem?_append_right (by omega)] at e
        exact e
      · rw [List.getElem?_append_right (by omega), el] at ev
        exact ev
theorem Rel.unpack {ss : List Sl} (h : Rel C ⟨sl, s :: tm, n⟩ (v :: Θ) σ H) (e : itS s = some ss) : ∃ a vs, v = .ref a ∧ H a = some (.tup vs) ∧ vs.length = ss.length ∧ Rel C ⟨sl, ss ++ tm, n⟩ (vs ++ Θ) σ H := by
  obtain ⟨Z, S1, S2, h⟩ := h
  obtain ⟨A, B, es, r, f⟩ := RelX.popF (ss := [s]) (us := [v]) h rfl
  have es' : ∃ A', Ent C Z H A' (some v) s ∧ A = A' := by
    cases es with
    | cons e1 e2 =>
      cases e2
      exact ⟨_, e1, by simp⟩
  obtain ⟨A', en, rfl⟩ := es'
  cases en with
  | jk v => cases e
  | al v i π => cases e
  | pu q => cases e
  | io t q => cases e
  | dc _ _ => cases e
  | dt _ _ => cases e
  | sh _ _ => cases e
  | xv _ _ => cases e
  | ho _ _ _ => cases e
  | xw _ => cases e
  | sp q t => cases e
  | @fz _ d t =>
    cases d with
    | tuple ds =>
      cases e
      cases t with
      | @tup a vs _ _ q ts =>
        exact ⟨a, vs, rfl, q, by simp [ts.length], Z, S1, _, r.pushEs f (Trs.fzs ts rfl) fun s m i π z => by
          obtain ⟨x, _, rfl⟩ := List.mem_map.mp m
          cases z⟩
    | _ => cases e
  | @ow _ d _ t =>
    cases d with
    | tuple ds =>
      cases e
      cases t with
      | @tup a vs _ _ q ts =>
        exact ⟨a, vs, rfl, q, by simp [ts.length], Z, S1, _, r.pushEs f (Trs.own ts) fun s m i π z => by
          obtain ⟨x, _, rfl⟩ := List.mem_map.mp m
          unfold G.own at z
          split at z <;> cases z⟩
    | _ => cases e
end
section
variable {C : Cn} {Z : Reg} {S1 S2 A : List Addr} {γ : VSt} {Θ : List V} {σ : L2.St} {H H' : Hp} {sl tm : List Sl} {n n' : Int} {v : V} {s : Sl} {d : D} {i : Nat}
/-- cells of two slots are apart -/
theorem Ents.apart : ∀ {ss : List Sl} {S : List Addr} {vs : List (Option V)} {i j : Nat} {si sj : Sl}, Ents C Z H S vs ss → ss[i]? = some si → ss[j]? = some sj → i ≠ j → S.Nodup → ∃ vi Ti vj Tj, vs[i]? = some vi ∧ vs[j]? = some vj ∧ Ent C Z H Ti vi si ∧ Ent C Z H Tj vj sj ∧ (∀ x ∈ Ti, x ∈ S ∧ x ∉ Tj) ∧ ∀ x ∈ Tj, x ∈ S
  | [], _, _, _, _, _, _, _, e, _, _, _ => by simp at e
  | s :: ss, _, _, 0, 0, _, _, _, _, _, ne, _ => absurd rfl ne
  | s :: ss, _, _, 0, j + 1, _, _, h, ei, ej, _, nd => by
    cases h with
    | @cons S T _ _ _ _ h1 h2 =>
      simp at ei ej
      subst ei
      obtain ⟨v, T1, R, e1, en, pm, _⟩ := h2.at ej
      exact ⟨_, _, v, T1, rfl, by simpa using e1, h1, en, fun x m => ⟨List.mem_append_left _ m, fun m' => (List.nodup_append.mp nd).2.2 x m x (pm.mem_iff.mpr (List.mem_append_left _ m')) rfl⟩, fun x m => List.mem_append_right _ (pm.mem_iff.mpr (List.mem_append_left _ m))⟩
  | s :: ss, _, _, i + 1, 0, _, _, h, ei, ej, _, nd => by
    cases h with
    | @cons S T _ _ _ _ h1 h2 =>
      simp at ei ej
      subst ej
      obtain ⟨v, T1, R, e1, en, pm, _⟩ := h2.at ei
      exact ⟨v, T1, _, _, by simpa using e1, rfl, en, h1, fun x m => ⟨List.mem_append_right _ (pm.mem_iff.mpr (List.mem_append_left _ m)), fun m' => (List.nodup_append.mp nd).2.2 x m' x (pm.mem_iff.mpr (List.mem_append_left _ m)) rfl⟩, fun x m => List.mem_append_left _ m⟩
  | s :: ss, _, _, i + 1, j + 1, _, _, h, ei, ej, ne, nd => by
    cases h with
    | @cons S T _ _ _ _ h1 h2 =>
      obtain ⟨vi, Ti, vj, Tj, a, b, c, d, e, f⟩ := Ents.apart (i := i) (j := j) h2 (by simpa using ei) (by simpa using ej) (by omega) (List.nodup_append.mp nd).2.1
      exact ⟨vi, Ti, vj, Tj, by simpa using a, by simpa using b, c, d, fun x m => ⟨List.mem_append_right _ (e x m).1, (e x m).2⟩, fun x m => List.mem_append_right _ (f x m)⟩
theorem setP_nil {d x : D} : setP d [] x = x := by cases d <;> rfl
/-- what stands in a name behind a write -/
def reS (s : Sl) (b : Bool) (d : D) : Sl := match s with
  | .io _ => .io d
  | _ => .ow b d
/-- a list that a name owns is written -/
theorem RelX.putF {b : Bool} {s0 : Sl} {π : List Nat} {es : List D} {w0 : V} (h : RelX C Z S1 S2 ⟨sl, tm, n⟩ Θ σ H) (f : Fl C Z S1 S2 H A) (e : sl[i]? = some s0) (hs : s0 = .ow b d ∨ (s0 = .io d ∧ b = true)) (na : noAl i tm = true) (ew : σ[i]? = some (some w0)) (wk : Wk H w0 π v) (p : atP d π = some (.list es)) (hb : b = true ∨ π = []) :
    ∃ a vs T, v = .ref a ∧ H a = some (.lst vs) ∧ Trs H (rgn b Z) T vs es ∧ a ∉ A ∧ ¬ Z a ∧ (∀ x ∈ T, x ≠ a) ∧
      ∀ us es' b' T' Dr, (b' = b ∨ (b' = false ∧ π = [])) → (∀ x, s0 = .io x → b' = true) → Trs (upd H a (.lst us)) (rgn b' Z) T' us es' → (T ++ A).Perm (T' ++ Dr) → ∃ S1', RelX C Z S1' S2 ⟨sl.set i (reS s0 b' (setP d π (.list es'))), tm, n⟩ Θ σ (upd H a (.lst us)) ∧ Fl C Z S1' S2 (upd H a (.lst us)) Dr := by
  obtain ⟨v0, T0, R0, ev, en, pm, k⟩ := h.es.at e
  rw [ew] at ev
  cases ev
  have eσ : σ.set i (some w0) = σ := by
    refine List.ext_getElem? fun j => ?_
    by_cases hj : i = j
    · subst hj
      rw [List.getElem?_set_self (List.getElem?_eq_some_iff.mp ew).1, ew]
    · rw [List.getElem?_set_ne hj]
  -- the cells of the slot's tree
  have key : ∃ a vs T R, v = .ref a ∧ H a = some (.lst vs) ∧ Trs H (rgn b Z) T vs es ∧ T0.Perm (a :: T ++ R) ∧
      ∀ us es' b' T', T0.Nodup → (b' = b ∨ (b' = false ∧ π = [])) → (∀ x, s0 = .io x → b' = true) → Trs (upd H a (.lst us)) (rgn b' Z) T' us es' → ∃ E X, Ent C Z (upd H a (.lst us)) E (some w0) (reS s0 b' (setP d π (.list es'))) ∧ (E ++ X).Perm (a :: T' ++ R) := by
    rcases hs with rfl | ⟨rfl, rfl⟩
    case inr =>
      cases en with
      | io t eio =>
        obtain ⟨a, vs, T, R, rfl, ha, ts, p0, kk⟩ := Tr.put t p wk
        refine ⟨a, vs, T, R, rfl, ha, ts, p0, fun us es' b' T' nd hb' hio t' => ?_⟩
        obtain rfl := hio _ rfl
        obtain ⟨S', t2, p2⟩ := kk us es' T' nd t'
        exact ⟨S', [], .io t2 eio, by simpa using p2⟩
    cases en with
    | ow t =>
      obtain ⟨a, vs, T, R, rfl, ha, ts, p0, kk⟩ := Tr.put t p wk
      refine ⟨a, vs, T, R, rfl, ha, ts, p0, fun us es' b' T' nd hb' _ t' => ?_⟩
      rcases hb' with rfl | ⟨rfl, rfl⟩
      · obtain ⟨S', t2, p2⟩ := kk us es' T' nd t'
        exact ⟨S', [], .ow t2, by simpa using p2⟩
      · cases wk
        refine ⟨a :: T', R, ?_, .refl _⟩
        rw [setP_nil]
        exact .sp upd_same t'
    | @sp a0 vs0 ds0 T1 ha t =>
      have e0 : π = [] := hb.elim (fun z => by cases z) id
      subst e0
      cases wk
      simp only [atP, Option.some.injEq, PyData.list.injEq] at p
      subst p
      refine ⟨a0, vs0, T1, [], rfl, ha, t, by simp, fun us es' b' T' nd hb' _ t' => ?_⟩
      have e1 : b' = false := hb'.elim id fun z => z.1
      subst e1
      refine ⟨a0 :: T', [], ?_, by simp⟩
      rw [setP_nil]
      exact .sp upd_same t'
  obtain ⟨a, vs, T, R, rfl, ha, ts, p0, kk⟩ := key
  have cnt : ∀ x, List.count x S1 = List.count x (a :: T ++ R) + List.count x R0 := fun x => by
    have q1 := pm.count_eq x
    have q2 := p0.count_eq x
    rw [List.count_append] at q1
    omega
  have ndf : ∀ x, List.count x A + (List.count x S1 + List.count x S2) ≤ 1 := fun x => by
    have := nodup_cnt.mp f.nd x
    rw [List.count_append, List.count_append] at this
    exact this
  have aS : a ∈ S1 := pm.mem_iff.mpr (List.mem_append_left _ (p0.mem_iff.mpr (by simp)))
  have cpos : ∀ {x : Addr} {l : List Addr}, x ∈ l → 0 < List.count x l := fun h => List.count_pos_iff.mpr h
  have ca : List.count a (a :: T ++ R) = 1 + (List.count a T + List.count a R) := by
    rw [List.count_append, List.count_cons]
    simp
    omega
  have aA : a ∉ A := fun m => by
    have := cpos m
    have := ndf a
    have := cnt a
    omega
  have aR0 : a ∉ R0 := fun m => by
    have := cpos m
    have := ndf a
    have := cnt a
    omega
  have aS2 : a ∉ S2 := fun m => by
    have := cpos m
    have := ndf a
    have := cnt a
    omega
  have aT : ∀ x ∈ T, x ≠ a := fun x m z => by
    subst z
    have := cpos m
    have := ndf x
    have := cnt x
    omega
  refine ⟨a, vs, T, rfl, ha, ts, aA, fun z => h.nz a (List.mem_append_left _ aS) (.inl z), aT, fun us es' b' T' Dr hb' hio t' pD => ?_⟩
  have T0nd : T0.Nodup := nodup_cnt.mpr fun x => by
    have := ndf x
    have := pm.count_eq x
    rw [List.count_append] at this
    omega
  obtain ⟨E, X, en', pE⟩ := kk us es' b' T' T0nd hb' hio t'
  have aZ : ¬ C.tz Z a := h.nz a (List.mem_append_left _ aS)
  have ap : ∀ q b0, C.pu = some (q, b0) → q ≠ a := fun q b0 eq z => (h.pu q b0 eq).2.2 (z ▸ List.mem_append_left _ aS)
  have kt : ∀ t xs, H t = some (.tup xs) → upd H a (.lst us) t = some (.tup xs) := fun t xs et => by
    rw [upd_ne (show t ≠ a from fun z => by rw [z, ha] at et; cases et)]
    exact et
  have kz0 : ∀ x, C.tz Z x → ∀ o, H x = some o → upd H a (.lst us) x = some o := fun x z o eo => by
    rw [upd_ne (show x ≠ a from fun q => aZ (q ▸ z))]
    exact eo
  have kz : ∀ x, Z x → ∀ o, H x = some o → upd H a (.lst us) x = some o := fun x z => kz0 x (.inl z)
  have kne : ∀ x, x ≠ a → ∀ o, H x = some o → upd H a (.lst us) x = some o := fun x q o eo => by
    rw [upd_ne q]
    exact eo
  obtain ⟨S1', es1, p1⟩ := k (upd H a (.lst us)) Z E (some w0) _ kt (fun _ z => z) kz (fun x m => kne x fun q => aR0 (q ▸ m)) en'
  rw [eσ] at es1
  have cnt2 : ∀ x, List.count x S1' + List.count x X = List.count x (a :: T' ++ R) + List.count x R0 := fun x => by
    have q1 := p1.count_eq x
    have q2 := pE.count_eq x
    rw [List.count_append] at q1 q2
    omega
  have cD : ∀ x, List.count x T + List.count x A = List.count x T' + List.count x Dr := fun x => by
    have := pD.count_eq x
    rw [List.count_append, List.count_append] at this
    exact this
  have call : ∀ x, List.count x Dr + (List.count x S1' + List.count x S2) ≤ 1 := fun x => by
    have h1 := ndf x
    have h2 := cnt x
    have h3 := cnt2 x
    have h4 := cD x
    have e1 : List.count x (a :: T ++ R) = List.count x [a] + (List.count x T + List.count x R) := by
      rw [List.cons_append, ← List.singleton_append, List.count_append, List.count_append]
    have e2 : List.count x (a :: T' ++ R) = List.count x [a] + (List.count x T' + List.count x R) := by
      rw [List.cons_append, ← List.singleton_append, List.count_append, List.count_append]
    omega
  have memS : ∀ x, x ∈ S1' ∨ x ∈ Dr → x ∈ S1 ∨ x ∈ A := fun x m => by
    have h2 := cnt x
    have h3 := cnt2 x
    have h4 := cD x
    have e1 : List.count x (a :: T ++ R) = List.count x [a] + (List.count x T + List.count x R) := by
      rw [List.cons_append, ← List.singleton_append, List.count_append, List.count_append]
    have e2 : List.count x (a :: T' ++ R) = List.count x [a] + (List.count x T' + List.count x R) := by
      rw [List.cons_append, ← List.singleton_append, List.count_append, List.count_append]
    rcases Nat.lt_or_ge 0 (List.count x S1) with z | z
    · exact .inl (List.count_pos_iff.mp z)
    · rcases Nat.lt_or_ge 0 (List.count x A) with z' | z'
      · exact .inr (List.count_pos_iff.mp z')
      · exfalso
        rcases m with m | m
        · have := cpos m
          omega
        · have := cpos m
          omega
  have fr : ∀ x ∈ S1 ++ S2, ¬ C.tz Z x ∧ ∀ q b0, C.pu = some (q, b0) → x ≠ q := h.frame
  refine ⟨S1', ⟨fun x o eo m => ⟨(h.fr x o eo m).1, kz0 x (h.fr x o eo m).1 o (h.fr x o eo m).2⟩, es1, h.et.mono kt (fun _ z => z) kz fun x m => kne x fun q => aS2 (q ▸ m), ?_, fun x m => ?_, fun q b0 eq => ⟨(h.pu q b0 eq).1.mono fun o eo => kne q (ap q b0 eq) o eo, (h.pu q b0 eq).2.1, fun m => ?_⟩, fun x z => ?_, h.dj, fun j i' π' u e' ev' => ?_⟩, ⟨?_, fun x m => ?_⟩⟩
  · refine nodup_cnt.mpr fun x => ?_
    rw [List.count_append]
    have := call x
    omega
  · rcases List.mem_append.mp m with m | m
    · rcases memS x (.inl m) with q | q
      · exact h.nz x (List.mem_append_left _ q)
      · exact (f.ok x q).1
    · exact h.nz x (List.mem_append_right _ m)
  · rcases List.mem_append.mp m with m | m
    · rcases memS q (.inl m) with z | z
      · exact (h.pu q b0 eq).2.2 (List.mem_append_left _ z)
      · exact (f.ok q z).2.1 q b0 eq rfl
    · exact (h.pu q b0 eq).2.2 (List.mem_append_right _ m)
  · obtain ⟨o, eo⟩ := h.ex x z
    exact ⟨o, kz0 x z o eo⟩
  · obtain ⟨s1, d', e3, w', g1, g2, g3, g4, wk'⟩ := h.al j i' π' u e' ev'
    have hj := al_set na e'
    refine ⟨s1, d', e3, w', (List.getElem?_set_ne hj).trans g1, g2, g3, g4, ?_⟩
    -- the other slot's tree is kept
    obtain ⟨vi, Ti, vj, Tj, f1, f2, f3, f4, f5, _⟩ := Ents.apart h.es e g1 hj (List.nodup_append.mp h.nd).1
    rw [ew] at f1
    cases f1
    rw [g4] at f2
    cases f2
    obtain ⟨w1, Tw, ew1, t1, sbw⟩ := f4.tr g2
    cases ew1
    have aT1 : a ∉ Tw := fun mz => by
      revert mz
      refine fun mz => (f5 a ?_).2 (sbw a mz)
      rcases hs with rfl | ⟨rfl, rfl⟩
      case inr =>
        cases en with
        | io t _ =>
          cases f3 with
          | io t' _ =>
            have uq := repU _ _ _ _ (Tr.repO _ _ _ t) (Tr.repO _ _ _ t')
            rw [← uq]
            exact p0.mem_iff.mpr (by simp)
      cases en with
      | ow t =>
        cases f3 with
        | ow t' =>
          have uq := repU _ _ _ _ (Tr.repO _ _ _ t) (Tr.repO _ _ _ t')
          rw [← uq]
          exact p0.mem_iff.mpr (by simp)
      | sp q t =>
        cases f3 with
        | sp q' t' =>
          have e0 : π = [] := hb.elim (fun z => by cases z) id
          subst e0
          cases wk
          simp
    exact (Tr.part t1 g3 wk').2 _ kt fun x z => z.elim (kz x) fun m => kne x fun q => aT1 (q ▸ m)
  · refine nodup_cnt.mpr fun x => ?_
    rw [List.count_append, List.count_append]
    exact call x
  · rcases memS x (.inr m) with q | q
    · refine ⟨h.nz x (List.mem_append_left _ q), (fr x (List.mem_append_left _ q)).2, ?_⟩
      obtain ⟨xs, eo⟩ := h.es.dom x q
      by_cases hx : x = a
      · exact ⟨_, by rw [hx]; exact upd_same⟩
      · exact ⟨xs, kne x hx _ eo⟩
    · obtain ⟨q1, q2, xs, eo⟩ := f.ok x q
      exact ⟨q1, q2, xs, kne x (fun z => aA (z ▸ q)) _ eo⟩
/-- what is apart from a written cell stays -/
theorem Trs.upd {b : Bool} {a : Addr} {us : List V} {vs0 : List V} {vs : List V} {ds : List D} {T : List Addr} (t : Trs H (rgn b Z) T vs ds) (ha : H a = some (.lst vs0)) (nz : ¬ Z a) (nt : ∀ x ∈ T, x ≠ a) : Trs (upd H a (.lst us)) (rgn b Z) T vs ds := by
  refine Trs.mono (fun t xs et => ?_) (fun _ z => z) (fun x z o e => ?_) _ _ _ t fun x m o e => ?_
  · rw [upd_ne (show t ≠ a from fun z => by rw [z, ha] at et; cases et)]
    exact et
  · rw [upd_ne (show x ≠ a from fun q => ?_)]
    · exact e
    · subst q
      cases b with
      | true => exact z.elim
      | false => exact nz z
  · rw [upd_ne (nt x m)]
    exact e
theorem Tr.upd {b : Bool} {a : Addr} {us : List V} {vs0 : List V} {T : List Addr} (t : Tr H (rgn b Z) T v d) (ha : H a = some (.lst vs0)) (nz : ¬ Z a) (nt : ∀ x ∈ T, x ≠ a) : Tr (upd H a (.lst us)) (rgn b Z) T v d := by
  refine Tr.mono (fun t xs et => ?_) (fun _ z => z) (fun x z o e => ?_) _ _ _ t fun x m o e => ?_
  · rw [upd_ne (show t ≠ a from fun z => by rw [z, ha] at et; cases et)]
    exact et
  · rw [upd_ne (show x ≠ a from fun q => ?_)]
    · exact e
    · subst q
      cases b with
      | true => exact z.elim
      | false => exact nz z
  · rw [upd_ne (nt x m)]
    exact e
end
end G
namespace G
open PySem PySem.Spec PyProof.Rows L2
abbrev KE := VSt → (VSt → Prop) → Prop
abbrev KT := VSt → (Bool → VSt → Prop) → Prop
structure KEd where
  nx : VSt → Prop
  rt : Sl → VSt → Prop
  bk : VSt → Prop
  ct : VSt → Prop
abbrev KS := VSt → KEd → Prop
abbrev KO := VSt → (Option Int → VSt → Prop) → Prop
abbrev KG := VSt → (VSt → Prop) → Prop
/-- where errors go, and which may go there -/
structure XC (C : Cn) where
  E : L2.St → XK
  X : Addr → D → VSt → Prop
  ok : ∀ {c dd : Addr} {d : D} {γ : VSt} {Θ : List V} {σ : L2.St} {H : Hp}, X c d γ → Rel C ⟨γ.sl, .xv dd dd d :: γ.tm, γ.n⟩ (.ref dd :: Θ) σ H → E σ (.ref c) (some dd) H
/-- nothing is raised -/
def noXC (C : Cn) : XC C := ⟨fun _ => E0, fun _ _ _ => False, fun h _ => h.elim⟩
def SoE {C : Cn} (xc : XC C) (t : TE) (k : KE) : Prop := ∀ (γ : VSt) (Θ : List V) (σ : L2.St) (H : Hp) (Q : VK) (q : VSt → Prop), Rel C γ Θ σ H → k γ q → (∀ γ' v H', q γ' → Rel C γ' (v :: Θ) σ H' → Q v H') → t σ H Q
def SoT {C : Cn} (xc : XC C) (t : TT) (k : KT) : Prop := ∀ (γ : VSt) (Θ : List V) (σ : L2.St) (H : Hp) (Q : Bool → Hp → Prop) (q : Bool → VSt → Prop), Rel C γ Θ σ H → k γ q → (∀ b γ' H', q b γ' → Rel C γ' Θ σ H' → Q b H') → t σ H Q
def SoA {C : Cn} (xc : XC C) (n : Nat) (t : TA) (k : KE) : Prop := ∀ (γ : VSt) (Θ : List V) (σ : L2.St) (H : Hp) (Q : List V → Hp → Prop) (q : VSt → Prop), Rel C γ Θ σ H → k γ q → (∀ γ' vs H', vs.length = n → q γ' → Rel C γ' (vs.reverse ++ Θ) σ H' → Q vs H') → t σ H Q
def SoO {C : Cn} (xc : XC C) (t : TO) (k : KO) : Prop := ∀ (γ : VSt) (Θ : List V) (σ : L2.St) (H : Hp) (Q : Option Int → Hp → Prop) (q : Option Int → VSt → Prop), Rel C γ Θ σ H → k γ q → (∀ i γ' H', q i γ' → Rel C γ' Θ σ H' → Q i H') → t σ H Q
/-- a target: the top is stored -/
def SoG {C : Cn} (xc : XC C) (t : TG) (k : KG) : Prop := ∀ (γ : VSt) (v : V) (Θ : List V) (σ : L2.St) (H : Hp) (Q : L2.St → Hp → Prop) (q : VSt → Prop), Rel C γ (v :: Θ) σ H → k γ q → (∀ γ' σ' H', q γ' → Rel C γ' Θ σ' H' → Q σ' H') → t v σ H Q
structure SoD (C : Cn) (Θ : List V) (e : KEd) (De : Ends) : Prop where
  nx : ∀ γ' σ' H', e.nx γ' → Rel C γ' Θ σ' H' → De.nx σ' H'
  rt : ∀ s γ' v Θ' σ' H', e.rt s γ' → Rel C ⟨γ'.sl, s :: γ'.tm, γ'.n⟩ (v :: Θ') σ' H' → De.rt v H'
  bk : ∀ γ' σ' H', e.bk γ' → Rel C γ' Θ σ' H' → De.bk σ' H'
  ct : ∀ γ' σ' H', e.ct γ' → Rel C γ' Θ σ' H' → De.ct σ' H'
def SoS {C : Cn} (xc : XC C) (t : TS) (k : KS) : Prop := ∀ (γ : VSt) (Θ : List V) (σ : L2.St) (H : Hp) (De : Ends) (e : KEd), Rel C γ Θ σ H → k γ e → SoD C Θ e De → t De σ H
variable {C : Cn} {xc : XC C}
/-- a value of data that holds no list: the same in every heap -/
def Sca (v : V) (d : D) : Prop := ∀ (H : Hp) (Z : Reg), Tr H Z [] v d
theorem sca_int (i : Int) : Sca (.int i) (.int i) := fun _ _ => .int i
theorem sca_bl (b : Bool) : Sca (.bl b) (.bool b) := fun _ _ => .bl b
theorem sca_str (x : Str) : Sca (.str x) (.str x) := fun _ _ => .str x
theorem sca_non : Sca .non .none := fun _ _ => .non
section
variable {t t1 t2 ta tb tc : TE} {k k1 k2 ka kb kc : KE} {n m : Nat}
def kC (d : D) : KE := fun γ q => q ⟨γ.sl, .fz d :: γ.tm, γ.n⟩
def kVar (i : Nat) : KE := fun γ q => match γ.sl[i]? with
  | some (.fz d) => q ⟨γ.sl, .fz d :: γ.tm, γ.n⟩
  | some (.ow _ _) => q ⟨γ.sl, .al i [] :: γ.tm, γ.n⟩
  | some (.io _) => q ⟨γ.sl, .al i [] :: γ.tm, γ.n⟩
  | some (.sh _) => q ⟨γ.sl, .al i [] :: γ.tm, γ.n⟩
  | some .pu => q ⟨γ.sl, .pu :: γ.tm, γ.n⟩
  | some (.dc _) => q ⟨γ.sl, .al i [] :: γ.tm, γ.n⟩
  | _ => False
/-- .. frozen from now on -/
def kFrz (i : Nat) : KE := fun γ q => match γ.sl[i]? with
  | some (.fz d) => q ⟨γ.sl, .fz d :: γ.tm, γ.n⟩
  | some (.ow _ d) => q ⟨γ.sl.set i (.fz d), .fz d :: γ.tm, γ.n⟩
  | some .pu => q ⟨γ.sl, .pu :: γ.tm, γ.n⟩
  | some (.dc m) => q ⟨γ.sl.set i (.fz (dictD m)), .fz (dictD m) :: γ.tm, γ.n⟩
  | _ => False
/-- .. for the last time -/
def kMov (i : Nat) : KE := fun γ q => match γ.sl[i]? with
  | some (.fz d) => q ⟨γ.sl, .fz d :: γ.tm, γ.n⟩
  | some (.ow b d) => noAl i γ.tm = true ∧ q ⟨γ.sl.set i .jk, .ow b d :: γ.tm, γ.n⟩
  | _ => False
theorem so_c {v : V} {d : D} (h : Sca v d) : SoE xc (tC v) (kC d) := fun γ Θ σ H Q q R hk w => w _ v H hk (R.push fun Z => h H Z)
theorem so_var {i : Nat} : SoE xc (tVar i) (kVar i) := fun γ Θ σ H Q q R hk w => by
  unfold kVar at hk
  obtain ⟨sl, tm, n⟩ := γ
  dsimp only at hk
  split at hk
  · rename_i d e
    obtain ⟨v, ev, R'⟩ := R.varF e
    exact ⟨v, ev, w _ v H hk R'⟩
  · rename_i b d e
    obtain ⟨v, ev, R'⟩ := R.varA e rfl
    exact ⟨v, ev, w _ v H hk R'⟩
  · rename_i d e
    obtain ⟨v, ev, R'⟩ := R.varA e rfl
    exact ⟨v, ev, w _ v H hk R'⟩
  · rename_i d e
    obtain ⟨v, ev, R'⟩ := R.varA e rfl
    exact ⟨v, ev, w _ v H hk R'⟩
  · rename_i e
    obtain ⟨p, b, _, ev, R'⟩ := R.varP e
    exact ⟨_, ev, w _ _ H hk R'⟩
  · rename_i m e
    obtain ⟨v, ev, R'⟩ := R.varA e rfl
    exact ⟨v, ev, w _ v H hk R'⟩
  · exact hk.elim
theorem so_frz {i : Nat} : SoE xc (tVar i) (kFrz i) := fun γ Θ σ H Q q R hk w => by
  unfold kFrz at hk
  obtain ⟨sl, tm, n⟩ := γ
  dsimp only at hk
  split at hk
  · rename_i d e
    obtain ⟨v, ev, R'⟩ := R.varF e
    exact ⟨v, ev, w _ v H hk R'⟩
  · rename_i b d e
    have R1 := R.frzS e
    obtain ⟨v, ev, R'⟩ := R1.varF (i := i) (d := d) (List.getElem?_set_self (List.getElem?_eq_some_iff.mp e).1)
    exact ⟨v, ev, w _ v H hk R'⟩
  · rename_i e
    obtain ⟨p, b, _, ev, R'⟩ := R.varP e
    exact ⟨_, ev, w _ _ H hk R'⟩
  · rename_i m e
    have R1 := R.frzS0 e rfl fun T v en => by cases en with | dc h1 t => exact ⟨_, rfl, t.box h1⟩
    obtain ⟨v, ev, R'⟩ := R1.varF (i := i) (d := dictD m) (List.getElem?_set_self (List.getElem?_eq_some_iff.mp e).1)
    exact ⟨v, ev, w _ v H hk R'⟩
  · exact hk.elim
theorem so_mov {i : Nat} : SoE xc (tVar i) (kMov i) := fun γ Θ σ H Q q R hk w => by
  unfold kMov at hk
  obtain ⟨sl, tm, n⟩ := γ
  dsimp only at hk
  split at hk
  · rename_i d e
    obtain ⟨v, ev, R'⟩ := R.varF e
    exact ⟨v, ev, w _ v H hk R'⟩
  · rename_i b d e
    obtain ⟨v, ev, R'⟩ := R.mov e hk.1
    exact ⟨v, ev, w _ v H hk.2 R'⟩
  · exact hk.elim
def kNil : KE := fun γ q => q γ
def kCons (ka kb : KE) : KE := fun γ q => ka γ fun γ1 => kb γ1 q
theorem so_nil : SoA xc 0 tNil kNil := fun γ Θ σ H Q q R hk w => w γ [] H rfl hk R
theorem so_cons {ts : TA} (h : SoE xc t k) (hs : SoA xc n ts kb) : SoA xc (n + 1) (tCons t ts) (kCons k kb) := fun γ Θ σ H Q q R hk w =>
  h γ Θ σ H _ _ R hk fun γ1 v H1 hk1 R1 => hs γ1 _ σ H1 _ _ R1 hk1 fun γ2 vs H2 el hq R2 => w γ2 (v :: vs) H2 (by simp [el]) hq (by simpa using R2)
/-- the data of the upper n -/
def datN (sl : List Sl) : Nat → List Sl → Option (List D × List Sl)
  | 0, tm => some ([], tm)
  | _ + 1, [] => none
  | n + 1, s :: tm => (look sl s).bind fun d => (datN sl n tm).bind fun x => some (x.1 ++ [d], x.2)
theorem Rel.pops {C : Cn} {sl : List Sl} {σ : L2.St} {H : Hp} {j : Int} : ∀ {n : Nat} {tm r : List Sl} {ds : List D} {vs Θ : List V}, Rel C ⟨sl, tm, j⟩ (vs.reverse ++ Θ) σ H → vs.length = n → datN sl n tm = some (ds, r) → Rel C ⟨sl, r, j⟩ Θ σ H ∧ ∃ T, Reps H T vs ds ∧ ∀ p b, C.pu = some (p, b) → p ∉ T
  | 0, tm, r, ds, vs, Θ, R, el, e => by
    simp only [datN, Option.some.injEq, Prod.mk.injEq] at e
    obtain ⟨rfl, rfl⟩ := e
    match vs, el with
    | [], _ => exact ⟨R, [], .nil, fun _ _ _ z => nomatch z⟩
  | n + 1, [], _, _, _, _, _, _, e => by cases e
  | n + 1, s :: tm, r, ds, vs, Θ, R, el, e => by
    simp only [datN] at e
    cases e1 : look sl s with
    | none => rw [e1] at e; cases e
    | some d =>
      cases e2 : datN sl n tm with
      | none => rw [e1, e2] at e; cases e
      | some x =>
        rw [e1, e2] at e
        simp only [Option.bind_some, Option.some.injEq, Prod.mk.injEq] at e
        obtain ⟨rfl, rfl⟩ := e
        have hne : vs ≠ [] := fun z => by rw [z] at el; cases el
        obtain ⟨us, v, rfl⟩ : ∃ us v, vs = us ++ [v] := ⟨_, _, (List.dropLast_concat_getLast hne).symm⟩
        rw [List.reverse_append] at R
        have R' : Rel C ⟨sl, s :: tm, j⟩ (v :: (us.reverse ++ Θ)) σ H := R
        obtain ⟨T1, r1, n1⟩ := R'.read e1
        have := Rel.pops (n := n) (ds := x.1) (r := x.2) (vs := us) R'.pop (by simpa using el) e2
        obtain ⟨R2, T2, r2, n2⟩ := this
        exact ⟨R2, T2 ++ (T1 ++ []), r2.append (.cons r1 .nil), fun p b q z => by
          rcases List.mem_append.mp z with z | z
          · exact n2 p b q z
          · exact n1 p b q (by simpa using z)⟩
def SoR (r : R2) (f : D → D → (D → Prop) → Prop) : Prop := ∀ (H : Hp) (v1 v2 : V) (T1 T2 : List Addr) (d1 d2 : D) (Q : VK) (q : D → Prop), Rep H T1 v1 d1 → Rep H T2 v2 d2 → f d1 d2 q → (∀ v d, Sca v d → q d → Q v H) → r v1 v2 H Q
def kOp (f : D → D → (D → Prop) → Prop) (ka kb : KE) : KE := fun γ q => ka γ fun γ1 => kb γ1 fun γ2 => (datN γ2.sl 2 γ2.tm).elim False fun x => f (x.1.getD 0 .none) (x.1.getD 1 .none) fun d => q ⟨γ2.sl, .fz d :: x.2, γ2.n⟩
theorem elimF {α : Type} {o : Option α} {f : α → Prop} (h : o.elim False f) : ∃ x, o = some x ∧ f x := by
  cases o with
  | none => exact h.elim
  | some x => exact ⟨x, rfl, h⟩
theorem Reps.inv2 {H : Hp} {S : List Addr} {v1 v2 : V} {ds : List D} (r : Reps H S [v1, v2] ds) : ∃ d1 d2 T1 T2, ds = [d1, d2] ∧ Rep H T1 v1 d1 ∧ Rep H T2 v2 d2 := by
  cases r with
  | cons r1 r =>
    cases r with
    | cons r2 r =>
      cases r
      exact ⟨_, _, _, _, rfl, r1, r2⟩
theorem Reps.inv1 {H : Hp} {S : List Addr} {v1 : V} {ds : List D} (r : Reps H S [v1] ds) : ∃ d1 T1, ds = [d1] ∧ Rep H T1 v1 d1 := by
  cases r with
  | cons r1 r =>
    cases r
    exact ⟨_, _, rfl, r1⟩
theorem so_op {r : R2} {f : D → D → (D → Prop) → Prop} (hr : SoR r f) (ha : SoE xc ta ka) (hb : SoE xc tb kb) : SoE xc (tOp r ta tb) (kOp f ka kb) := fun γ Θ σ H Q q R hk w =>
  ha γ Θ σ H _ _ R hk fun γ1 v1 H1 hk1 R1 => hb γ1 _ σ H1 _ _ R1 hk1 fun γ2 v2 H2 hk2 R2 => by
    obtain ⟨⟨ds, rr⟩, e, hf⟩ := elimF hk2
    obtain ⟨R3, T, rp, _⟩ := Rel.pops (vs := [v1, v2]) (Θ := Θ) R2 rfl e
    obtain ⟨d1, d2, T1, T2, rfl, r1, r2⟩ := rp.inv2
    exact hr H2 v1 v2 T1 T2 d1 d2 _ _ r1 r2 hf fun v d sc hq => w _ v H2 hq (R3.push fun Z => sc H2 Z)
def vI (C : Int → Int → Prop) (g : Int → Int → Int) : D → D → (D → Prop) → Prop := fun d1 d2 q => match d1, d2 with
  | .int i, .int j => C i j ∧ q (.int (g i j))
  | _, _ => False
def vB (g : Int → Int → Bool) : D → D → (D → Prop) → Prop := fun d1 d2 q => match d1, d2 with
  | .int i, .int j => q (.bool (g i j))
  | _, _ => False
def noC : Int → Int → Prop := fun _ _ => True
theorem sr_I {Cc : Int → Int → Prop} {g : Int → Int → Int} : SoR (rI Cc fun i j => .int (g i j)) (vI Cc g) := fun H v1 v2 T1 T2 d1 d2 Q q r1 r2 hf w => by
  unfold vI at hf
  split at hf
  · cases r1
    cases r2
    exact ⟨_, _, rfl, rfl, hf.1, w _ _ (sca_int _) hf.2⟩
  · exact hf.elim
theorem sr_I0 {g : Int → Int → Int} : SoR (rI0 fun i j => .int (g i j)) (vI noC g) := fun H v1 v2 T1 T2 d1 d2 Q q r1 r2 hf w => by
  unfold vI at hf
  split at hf
  · cases r1
    cases r2
    exact ⟨_, _, rfl, rfl, w _ _ (sca_int _) hf.2⟩
  · exact hf.elim
theorem sr_B {g : Int → Int → Bool} : SoR (rI0 fun i j => .bl (g i j)) (vB g) := fun H v1 v2 T1 T2 d1 d2 Q q r1 r2 hf w => by
  unfold vB at hf
  split at hf
  · cases r1
    cases r2
    exact ⟨_, _, rfl, rfl, w _ _ (sca_bl _) hf⟩
  · exact hf.elim
/-- == of scalars -/
def vEq (neg : Bool) : D → D → (D → Prop) → Prop := fun d1 d2 q => match d1, d2 with
  | .int i, .int j => q (.bool (neg ^^ decide (i = j)))
  | .str x, .str y => q (.bool (neg ^^ decide (x = y)))
  | .bool x, .bool y => q (.bool (neg ^^ decide (x = y)))
  | .none, .none => q (.bool (neg ^^ true))
  | .none, .int _ => q (.bool (neg ^^ false))
  | .int _, .none => q (.bool (neg ^^ false))
  | _, _ => False
theorem sr_eq : SoR rEq (vEq false) := fun H v1 v2 T1 T2 d1 d2 Q q r1 r2 hf w => by
  unfold vEq at hf
  split at hf <;> (try exact hf.elim) <;> cases r1 <;> cases r2 <;> refine ⟨rfl, ?_⟩
  · rw [dec_eq_int]; exact w _ _ (sca_bl _) (by simpa using hf)
  · rename_i x y
    have e : decide (V.str x = V.str y) = decide (x = y) := by simp
    rw [e]; exact w _ _ (sca_bl _) (by simpa using hf)
  · rename_i x y
    have e : decide (V.bl x = V.bl y) = decide (x = y) := by simp
    rw [e]; exact w _ _ (sca_bl _) (by simpa using hf)
  · exact w _ _ (sca_bl _) (by simpa using hf)
  · exact w _ _ (sca_bl _) (by simpa using hf)
  · exact w _ _ (sca_bl _) (by simpa using hf)
/-- == of data -/
def vEqD (neg : Bool) : D → D → (D → Prop) → Prop := fun d1 d2 q => SeqAt.shaped d1 = true ∧ SeqAt.shaped d2 = true ∧ q (.bool (neg ^^ PyData.eqv d1 d2))
theorem sr_eqD {K : PySem.W.Frag} : SoR (rEqD K) (vEqD false) := fun H v1 v2 T1 T2 d1 d2 Q q r1 r2 hf w =>
  ⟨d1, d2, Rep.dp K _ _ _ r1 (nd_shaped hf.1), Rep.dp K _ _ _ r2 (nd_shaped hf.2.1), hf.1, hf.2.1, w _ _ (sca_bl _) (by simpa using hf.2.2)⟩
def vIsN (neg : Bool) : D → D → (D → Prop) → Prop := fun d1 d2 q => match d2 with
  | .none => q (.bool (match d1 with | .none => !neg | _ => neg))
  | _ => False
theorem sr_isN : SoR (fun x y H Q => y = .non ∧ Q (.bl (decide (x = .non))) H) (vIsN false) := fun H v1 v2 T1 T2 d1 d2 Q q r1 r2 hf w => by
  unfold vIsN at hf
  split at hf
  · cases r2
    refine ⟨rfl, w _ _ (sca_bl _) ?_⟩
    cases r1 <;> simpa using hf
  · exact hf.elim
theorem sr_notN : SoR (fun x y H Q => y = .non ∧ Q (.bl (!decide (x = .non))) H) (vIsN true) := fun H v1 v2 T1 T2 d1 d2 Q q r1 r2 hf w => by
  unfold vIsN at hf
  split at hf
  · cases r2
    refine ⟨rfl, w _ _ (sca_bl _) ?_⟩
    cases r1 <;> simpa using hf
  · exact hf.elim
/-- in a list or a tuple of flat things -/
def flatD : D → Bool
  | .none => true
  | .bool _ => true
  | .int _ => true
  | .str _ => true
  | _ => false
def vOf : D → V
  | .bool b => .bl b
  | .int i => .int i
  | .str x => .str x
  | _ => .non
theorem Rep.flat {H : Hp} {T : List Addr} {v : V} {d : D} (r : Rep H T v d) (f : flatD d = true) : v = vOf d ∧ flatV v = true := by
  cases r with
  | non => exact ⟨rfl, rfl⟩
  | bl b => exact ⟨rfl, rfl⟩
  | int i => exact ⟨rfl, rfl⟩
  | str x => exact ⟨rfl, rfl⟩
  | lst _ _ => cases f
  | tup _ _ => cases f
  | box _ _ => cases f
theorem Reps.flat {H : Hp} : ∀ {ds : List D} {T : List Addr} {vs : List V}, Reps H T vs ds → ds.all flatD = true → vs = ds.map vOf ∧ vs.all flatV = true
  | [], _, _, h, _ => by cases h; exact ⟨rfl, rfl⟩
  | d :: ds, _, _, h, f => by
    cases h with
    | cons h1 h2 =>
      rw [List.all_cons, Bool.and_eq_true] at f
      obtain ⟨e1, f1⟩ := h1.flat f.1
      obtain ⟨e2, f2⟩ := Reps.flat h2 f.2
      exact ⟨by rw [e1, e2]; rfl, by rw [List.all_cons, f1, f2]; rfl⟩
def vIn (neg : Bool) : D → D → (D → Prop) → Prop := fun d1 d2 q => match d2 with
  | .list ds => flatD d1 = true ∧ ds.all flatD = true ∧ q (.bool (neg ^^ inV (vOf d1) (ds.map vOf)))
  | .tuple ds => flatD d1 = true ∧ ds.all flatD = true ∧ q (.bool (neg ^^ inV (vOf d1) (ds.map vOf)))
  | _ => False
theorem sr_in {K : PySem.W.Frag} {neg : Bool} : SoR (rIn K neg) (vIn neg) := fun H v1 v2 T1 T2 d1 d2 Q q r1 r2 hf w => by
  unfold vIn at hf
  split at hf
  · cases r2 with
    | lst e rs =>
      obtain ⟨ev, fv⟩ := r1.flat hf.1
      obtain ⟨es, fs⟩ := rs.flat hf.2.1
      refine ⟨_, _, rfl, .inl (SqL.of e), fv, fs, w _ _ (sca_bl _) ?_⟩
      rw [es, ev]
      cases neg <;> simpa using hf.2.2
  · cases r2 with
    | tup e rs =>
      obtain ⟨ev, fv⟩ := r1.flat hf.1
      obtain ⟨es, fs⟩ := rs.flat hf.2.1
      refine ⟨_, _, rfl, .inr (SqT.of e), fv, fs, w _ _ (sca_bl _) ?_⟩
      rw [es, ev]
      cases neg <;> simpa using hf.2.2
  · exact hf.elim
def kChain (f g : D → D → (D → Prop) → Prop) (ka kb kc : KE) : KE := fun γ q => ka γ fun γ1 => kb γ1 fun γ2 => (datN γ2.sl 2 γ2.tm).elim False fun x => f (x.1.getD 0 .none) (x.1.getD 1 .none) fun d => match d with
  | .bool true => kc γ2 fun γ3 => (datN γ3.sl 3 γ3.tm).elim False fun y => g (y.1.getD 1 .none) (y.1.getD 2 .none) fun d => q ⟨γ3.sl, .fz d :: y.2, γ3.n⟩
  | .bool false => q ⟨γ2.sl, .fz (.bool false) :: x.2, γ2.n⟩
  | _ => False
theorem so_chain {r r' : R2} {f g : D → D → (D → Prop) → Prop} (hr : SoR r f) (hr' : SoR r' g) (ha : SoE xc ta ka) (hb : SoE xc tb kb) (hc : SoE xc tc kc) : SoE xc (tChain r r' ta tb tc) (kChain f g ka kb kc) := fun γ Θ σ H Q q R hk w =>
  ha γ Θ σ H _ _ R hk fun γ1 v1 H1 hk1 R1 => hb γ1 _ σ H1 _ _ R1 hk1 fun γ2 v2 H2 hk2 R2 => by
    obtain ⟨⟨ds, rr⟩, e, hf⟩ := elimF hk2
    obtain ⟨R3, T, rp, _⟩ := Rel.pops (vs := [v1, v2]) (Θ := Θ) R2 rfl e
    obtain ⟨d1, d2, T1, T2, rfl, r1, r2⟩ := rp.inv2
    refine hr H2 v1 v2 T1 T2 d1 d2 _ _ r1 r2 hf fun v d sc hq => ?_
    have tv := sc H2 noReg
    split at hq
    · cases tv
      refine ⟨true, rfl, ?_⟩
      rw [if_pos rfl]
      refine hc γ2 _ σ H2 _ _ R2 hq fun γ3 v3 H3 hk3 R3 => ?_
      obtain ⟨⟨es, rr2⟩, e2, hg⟩ := elimF hk3
      obtain ⟨R4, T', rp', _⟩ := Rel.pops (vs := [v1, v2, v3]) (Θ := Θ) R3 rfl e2
      cases rp' with
      | cons q1 rp' =>
        obtain ⟨d2', d3, T2', T3, rfl, r2', r3⟩ := rp'.inv2
        exact hr' H3 v2 v3 T2' T3 d2' d3 _ _ r2' r3 hg fun v d sc hq => w _ v H3 hq (R4.push fun Z => sc H3 Z)
    · cases tv
      refine ⟨false, rfl, ?_⟩
      rw [if_neg (by simp)]
      exact w _ _ H2 hq (R3.push fun Z => .bl false)
    · exact hq.elim
def kUn (f : D → (D → Prop) → Prop) (ka : KE) : KE := fun γ q => ka γ fun γ1 => (datN γ1.sl 1 γ1.tm).elim False fun x => f (x.1.getD 0 .none) fun d => q ⟨γ1.sl, .fz d :: x.2, γ1.n⟩
def vNeg : D → (D → Prop) → Prop := fun d q => match d with | .int i => q (.int (-i)) | _ => False
/-- calls whose value holds no list -/
def SoC (n : Nat) (r : List V → Hp → VK → Prop) (f : List D → (D → Prop) → Prop) : Prop := ∀ (H : Hp) (vs : List V) (T : List Addr) (ds : List D) (Q : VK) (q : D → Prop), Reps H T vs ds → vs.length = n → f ds q → (∀ v d, Sca v d → q d → Q v H) → r vs H Q
def kF (n : Nat) (f : List D → (D → Prop) → Prop) (ka : KE) : KE := fun γ q => ka γ fun γ1 => (datN γ1.sl n γ1.tm).elim False fun x => f x.1 fun d => q ⟨γ1.sl, .fz d :: x.2, γ1.n⟩
theorem so_f {r : List V → Hp → VK → Prop} {f : List D → (D → Prop) → Prop} {ts : TA} (hr : SoC n r f) (ha : SoA xc n ts ka) : SoE xc (tCB r ts) (kF n f ka) := fun γ Θ σ H Q q R hk w =>
  ha γ Θ σ H _ _ R hk fun γ1 vs H1 el hk1 R1 => by
    obtain ⟨⟨ds, rr⟩, e, hf⟩ := elimF hk1
    obtain ⟨R3, T, rp, _⟩ := Rel.pops (Θ := Θ) R1 el e
    exact hr H1 vs T ds _ _ rp el hf fun v d sc hq => w _ v H1 hq (R3.push fun Z => sc H1 Z)
theorem Reps.c1 {H : Hp} {vs : List V} {T : List Addr} {d : D} (r : Reps H T vs [d]) : ∃ v T', vs = [v] ∧ Rep H T' v d := by
  cases r with
  | cons r1 r => cases r; exact ⟨_, _, rfl, r1⟩
theorem Reps.c2 {H : Hp} {vs : List V} {T : List Addr} {d e : D} (r : Reps H T vs [d, e]) : ∃ v w T1 T2, vs = [v, w] ∧ Rep H T1 v d ∧ Rep H T2 w e := by
  cases r with
  | cons r1 r => obtain ⟨v, T', rfl, r2⟩ := Reps.c1 r; exact ⟨_, _, _, _, rfl, r1, r2⟩
def vLen : List D → (D → Prop) → Prop := fun ds q => match ds with
  | [.list es] => q (.int es.length)
  | [.tuple es] => q (.int es.length)
  | _ => False
theorem sc_len {K : PySem.W.Frag} : SoC 1 (fun xs H Q => ∃ p ys, xs = [.ref p] ∧ (SqL K H p ys ∨ SqT K H p ys) ∧ Q (.int ys.length) H) vLen := fun H vs T ds Q q r el hf w => by
  unfold vLen at hf
  split at hf
  · obtain ⟨v, T', rfl, r1⟩ := r.c1
    cases r1 with
    | lst e rs => exact ⟨_, _, rfl, .inl (SqL.of e), w _ _ (by rw [rs.length]; exact sca_int _) hf⟩
  · obtain ⟨v, T', rfl, r1⟩ := r.c1
    cases r1 with
    | tup e rs => exact ⟨_, _, rfl, .inr (SqT.of e), w _ _ (by rw [rs.length]; exact sca_int _) hf⟩
  · exact hf.elim
def v2I (g : Int → Int → Int) : List D → (D → Prop) → Prop := fun ds q => match ds with
  | [.int i, .int j] => q (.int (g i j))
  | _ => False
theorem sc_2i {g : Int → Int → Int} : SoC 2 (fun xs H Q => ∃ i j, xs = [.int i, .int j] ∧ Q (.int (g i j)) H) (v2I g) := fun H vs T ds Q q r el hf w => by
  unfold v2I at hf
  split at hf
  · obtain ⟨v, u, T1, T2, rfl, r1, r2⟩ := r.c2
    cases r1
    cases r2
    exact ⟨_, _, rfl, w _ _ (sca_int _) hf⟩
  · exact hf.elim
def v1I (g : Int → Int) : List D → (D → Prop) → Prop := fun ds q => match ds with
  | [.int i] => q (.int (g i))
  | _ => False
def vInt : List D → (D → Prop) → Prop := fun ds q => match ds with
  | [.int i] => q (.int i)
  | [.bool b] => q (.int (if b then 1 else 0))
  | _ => False
theorem sc_int : SoC 1 (fun xs H Q => (∃ i, xs = [.int i] ∧ Q (.int i) H) ∨ ∃ k, xs = [.bl k] ∧ Q (.int (if k then 1 else 0)) H) vInt := fun H vs T ds Q q r el hf w => by
  unfold vInt at hf
  split at hf
  · obtain ⟨v, T1, rfl, r1⟩ := r.c1
    cases r1
    exact .inl ⟨_, rfl, w _ _ (sca_int _) hf⟩
  · obtain ⟨v, T1, rfl, r1⟩ := r.c1
    cases r1
    exact .inr ⟨_, rfl, w _ _ (sca_int _) hf⟩
  · exact hf.elim
def v3I (g : Int → Int → Int → Int) : List D → (D → Prop) → Prop := fun ds q => match ds with
  | [.int i, .int j, .int k] => q (.int (g i j k))
  | _ => False
/-- ints out of data -/
def intsOf : List D → Option (List Int)
  | [] => some []
  | .int i :: ds => (intsOf ds).bind fun r => some (i :: r)
  | _ :: _ => none
theorem intsOf_map (ns : List Int) : intsOf (ns.map PyData.int) = some ns := by
  induction ns with
  | nil => rfl
  | cons n ns ih => simp [intsOf, ih]
def boolsOf : List D → Option (List Bool)
  | [] => some []
  | .bool i :: ds => (boolsOf ds).bind fun r => some (i :: r)
  | _ :: _ => none
theorem boolsOf_map (ns : List Bool) : boolsOf (ns.map PyData.bool) = some ns := by
  induction ns with
  | nil => rfl
  | cons n ns ih => simp [boolsOf, ih]
theorem boolsOf_eq : ∀ {ds : List D} {ns : List Bool}, boolsOf ds = some ns → ds = ns.map PyData.bool
  | [], ns, h => by simp only [boolsOf, Option.some.injEq] at h; subst h; rfl
  | d :: ds, ns, h => by
    cases d with
    | bool i =>
      simp only [boolsOf] at h
      cases e : boolsOf ds with
      | none => rw [e] at h; cases h
      | some r =>
        rw [e] at h
        simp only [Option.bind_some, Option.some.injEq] at h
        subst h
        rw [boolsOf_eq e]
        rfl
    | _ => cases h
theorem Reps.bools {H : Hp} : ∀ {bs : List Bool} {T : List Addr} {vs : List V}, Reps H T vs (bs.map PyData.bool) → vs = bs.map V.bl
  | [], _, _, h => by cases h; rfl
  | b :: bs, _, _, h => by
    cases h with
    | cons h1 h2 =>
      cases h1
      rw [Reps.bools h2]
      rfl
def vAll (g : List Bool → Bool) : List D → (D → Prop) → Prop := fun ds q => match ds with
  | [.list es] => (boolsOf es).elim False fun bs => q (.bool (g bs))
  | _ => False
theorem sc_bools {K : PySem.W.Frag} {g : List Bool → Bool} : SoC 1 (fun vs H Q => ∃ (a : Addr) (bs : List Bool), vs = [V.ref a] ∧ SqL K H a (bs.map V.bl) ∧ Q (.bl (g bs)) H) (vAll g) := fun H vs T ds Q q r el hf w => by
  unfold vAll at hf
  split at hf
  · obtain ⟨bs, e, hg⟩ := elimF hf
    obtain rfl := boolsOf_eq e
    obtain ⟨v, T1, rfl, r1⟩ := r.c1
    cases r1 with
    | lst e rs =>
      rw [rs.bools] at e
      exact ⟨_, bs, rfl, SqL.of e, w _ _ (sca_bl _) hg⟩
  · exact hf.elim
def vSum : List D → (D → Prop) → Prop := fun ds q => match ds with
  | [.list es] => (intsOf es).elim False fun ns => q (.int ns.sum)
  | _ => False
def vRepr : List D → (D → Prop) → Prop := fun ds q => match ds with
  | [d] => d.showable = true ∧ d.depth ≤ 60 ∧ wd d ≤ 10000000 ∧ q (.str d.shown)
  | _ => False
end
end G
namespace G
open PySem PySem.Spec PyProof.Rows L2
variable {C : Cn} {xc : XC C}
section
variable {t t1 t2 ta tb tc : TE} {k k1 k2 ka kb kc : KE} {n m : Nat} {c1 c2 : TT} {h1 h2 : KT} {K : PySem.W.Frag}
def kTest (ke : KE) : KT := fun γ q => ke γ fun γ1 => (datN γ1.sl 1 γ1.tm).elim False fun x => match x.1.getD 0 .none with
  | .bool b => q b ⟨γ1.sl, x.2, γ1.n⟩
  | _ => False
theorem so_test (h : SoE xc t k) : SoT xc (tTest t) (kTest k) := fun γ Θ σ H Q q R hk w => h γ Θ σ H _ _ R hk fun γ1 v H1 hk1 R1 => by
  obtain ⟨⟨ds, rr⟩, e, hf⟩ := elimF hk1
  obtain ⟨R3, T, rp, _⟩ := Rel.pops (vs := [v]) (Θ := Θ) R1 rfl e
  obtain ⟨d1, T1, rfl, r1⟩ := rp.inv1
  dsimp only [List.getD_cons_zero] at hf
  split at hf
  · rename_i b eb
    have eb' : d1 = .bool b := eb
    subst eb'
    cases r1
    exact ⟨b, rfl, w _ _ H1 hf R3⟩
  · exact hf.elim
def kTAnd (a b : KT) : KT := fun γ q => a γ fun c γ1 => if c = true then b γ1 q else q false γ1
def kTOr (a b : KT) : KT := fun γ q => a γ fun c γ1 => if c = true then q true γ1 else b γ1 q
def kTNot (a : KT) : KT := fun γ q => a γ fun c γ1 => q (!c) γ1
theorem so_tand (a : SoT xc c1 h1) (b : SoT xc c2 h2) : SoT xc (tAnd c1 c2) (kTAnd h1 h2) := fun γ Θ σ H Q q R hk w => a γ Θ σ H _ _ R hk fun c γ1 H1 hk1 R1 => by
  cases c with
  | true => exact b γ1 Θ σ H1 Q q R1 (by simpa using hk1) w
  | false => exact w _ _ H1 (by simpa using hk1) R1
theorem so_tor (a : SoT xc c1 h1) (b : SoT xc c2 h2) : SoT xc (tOr c1 c2) (kTOr h1 h2) := fun γ Θ σ H Q q R hk w => a γ Θ σ H _ _ R hk fun c γ1 H1 hk1 R1 => by
  cases c with
  | false => exact b γ1 Θ σ H1 Q q R1 (by simpa using hk1) w
  | true => exact w _ _ H1 (by simpa using hk1) R1
theorem so_tnot (a : SoT xc c1 h1) : SoT xc (tNot c1) (kTNot h1) := fun γ Θ σ H Q q R hk w => a γ Θ σ H _ _ R hk fun c γ1 H1 hk1 R1 => w _ _ H1 hk1 R1
def kYes : KT := fun γ q => q true γ
theorem so_yes : SoT xc tYes kYes := fun γ Θ σ H Q q R hk w => w _ _ H hk R
def popB (γ : VSt) (f : Bool → VSt → Prop) : Prop := (datN γ.sl 1 γ.tm).elim False fun x => match x.1.getD 0 .none with
  | .bool b => f b ⟨γ.sl, x.2, γ.n⟩
  | _ => False
theorem popB_ok {C : Cn} {γ : VSt} {Θ : List V} {σ : L2.St} {H : Hp} {v : V} {f : Bool → VSt → Prop} (R : Rel C γ (v :: Θ) σ H) (h : popB γ f) : ∃ b γ', v = .bl b ∧ f b γ' ∧ Rel C γ' Θ σ H := by
  obtain ⟨⟨ds, rr⟩, e, hf⟩ := elimF h
  obtain ⟨R3, T, rp, _⟩ := Rel.pops (vs := [v]) (Θ := Θ) R rfl e
  obtain ⟨d1, T1, rfl, r1⟩ := rp.inv1
  dsimp only [List.getD_cons_zero] at hf
  split at hf
  · rename_i b eb
    have eb' : d1 = .bool b := eb
    subst eb'
    cases r1
    exact ⟨b, _, rfl, hf, R3⟩
  · exact hf.elim
def pushB (γ : VSt) (b : Bool) : VSt := ⟨γ.sl, .fz (.bool b) :: γ.tm, γ.n⟩
theorem Rel.pushB {C : Cn} {γ : VSt} {Θ : List V} {σ : L2.St} {H : Hp} (R : Rel C γ Θ σ H) (b : Bool) : Rel C (G.pushB γ b) (.bl b :: Θ) σ H := by
  obtain ⟨sl, tm, n⟩ := γ
  exact R.push fun Z => .bl b
def kAndV (ka kb : KE) : KE := fun γ q => ka γ fun γ1 => popB γ1 fun b γ2 => if b = true then kb γ2 q else q (pushB γ2 false)
def kOrV (ka kb : KE) : KE := fun γ q => ka γ fun γ1 => popB γ1 fun b γ2 => if b = true then q (pushB γ2 true) else kb γ2 q
def kNotV (ka : KE) : KE := fun γ q => ka γ fun γ1 => popB γ1 fun b γ2 => q (pushB γ2 (!b))
theorem so_andV (a : SoE xc ta ka) (b : SoE xc tb kb) : SoE xc (tAndV ta tb) (kAndV ka kb) := fun γ Θ σ H Q q R hk w => a γ Θ σ H _ _ R hk fun γ1 v H1 hk1 R1 => by
  obtain ⟨c, γ2, rfl, hf, R2⟩ := popB_ok R1 hk1
  refine ⟨c, rfl, ?_⟩
  cases c with
  | true => exact b γ2 Θ σ H1 Q q R2 (by simpa using hf) w
  | false => exact w _ _ H1 (by simpa using hf) (R2.pushB false)
def kIf (c : KT) (ka kb : KE) : KE := fun γ q => c γ fun b γ1 => if b = true then ka γ1 q else kb γ1 q
theorem so_if (c : SoT xc c1 h1) (a : SoE xc ta ka) (b : SoE xc tb kb) : SoE xc (tIf c1 ta tb) (kIf h1 ka kb) := fun γ Θ σ H Q q R hk w => c γ Θ σ H _ _ R hk fun d γ1 H1 hk1 R1 => by
  cases d with
  | true => exact a γ1 Θ σ H1 Q q R1 (by simpa using hk1) w
  | false => exact b γ1 Θ σ H1 Q q R1 (by simpa using hk1) w
def popC : Nat → List Sl → Option ((Bool × List D) × List Sl)
  | 0, tm => some ((true, []), tm)
  | _ + 1, [] => none
  | n + 1, s :: tm => (con s).bind fun c => (popC n tm).bind fun x => some ((x.1.1 && c.1, x.1.2 ++ [c.2]), x.2)
theorem cont_snoc {s : Sl} : ∀ ss : List Sl, cont (ss ++ [s]) = (cont ss).bind fun y => (con s).bind fun x => some (y.1 && x.1, y.2 ++ [x.2])
  | [] => by
    simp only [List.nil_append, cont, Option.bind_some]
    cases con s <;> simp
  | r :: ss => by
    simp only [List.cons_append, cont, cont_snoc ss]
    cases con r with
    | none => rfl
    | some x =>
      cases cont ss with
      | none => rfl
      | some y =>
        cases con s with
        | none => rfl
        | some z => simp [Bool.and_assoc]
theorem popC_ok : ∀ {n : Nat} {tm r : List Sl} {b : Bool} {ds : List D}, popC n tm = some ((b, ds), r) → ∃ ss, tm = ss.reverse ++ r ∧ ss.length = n ∧ cont ss = some (b, ds)
  | 0, tm, r, b, ds, h => by
    simp only [popC, Option.some.injEq, Prod.mk.injEq] at h
    obtain ⟨⟨rfl, rfl⟩, rfl⟩ := h
    exact ⟨[], rfl, rfl, rfl⟩
  | n + 1, [], _, _, _, h => by cases h
  | n + 1, s :: tm, r, b, ds, h => by
    simp only [popC] at h
    cases e1 : con s with
    | none => rw [e1] at h; cases h
    | some c =>
      cases e2 : popC n tm with
      | none => rw [e1, e2] at h; cases h
      | some x =>
        rw [e1, e2] at h
        simp only [Option.bind_some, Option.some.injEq, Prod.mk.injEq] at h
        obtain ⟨⟨rfl, rfl⟩, rfl⟩ := h
        obtain ⟨ss, e3, e4, e5⟩ := popC_ok (b := x.1.1) (ds := x.1.2) (r := x.2) e2
        refine ⟨ss ++ [s], by rw [e3]; simp, by simp [e4], ?_⟩
        rw [cont_snoc, e5, e1]
        rfl
def kMk (l : Bool) (n : Nat) (ka : KE) : KE := fun γ q => ka γ fun γ1 => (popC n γ1.tm).elim False fun x => q ⟨γ1.sl, mkS l x.1.1 x.1.2 :: x.2, γ1.n⟩
theorem mk_core {C : Cn} {γ : VSt} {Θ : List V} {σ : L2.St} {H : Hp} {vs : List V} {l : Bool} {q : VSt → Prop} (R : Rel C γ (vs.reverse ++ Θ) σ H) (el : vs.length = n) (h : (popC n γ.tm).elim False fun x => q ⟨γ.sl, mkS l x.1.1 x.1.2 :: x.2, γ.n⟩) :
    ∀ p, H p = none → ∃ γ', q γ' ∧ Rel C γ' (.ref p :: Θ) σ (upd H p (hoq l vs)) := fun p hp => by
  obtain ⟨⟨⟨b, ds⟩, r⟩, e, hq⟩ := elimF h
  obtain ⟨ss, e1, e2, e3⟩ := popC_ok e
  obtain ⟨sl, tm, j⟩ := γ
  dsimp only at e1 hq
  subst e1
  exact ⟨_, hq, R.cont (by omega) e3 hp⟩
theorem so_lst {ts : TA} (h : SoA xc n ts ka) (hn : n ≤ 10000000 := by decide) : SoE xc (tLst ts) (kMk true n ka) := fun γ Θ σ H Q q R hk w => h γ Θ σ H _ _ R hk fun γ1 vs H1 el hk1 R1 =>
  ⟨szle (by omega), fun p hp => by
    obtain ⟨γ', hq, R2⟩ := mk_core R1 el hk1 p hp
    exact w γ' _ _ hq R2⟩
theorem so_tup {ts : TA} (h : SoA xc n ts ka) (hn : n ≤ 10000000 := by decide) : SoE xc (tTup ts) (kMk false n ka) := fun γ Θ σ H Q q R hk w => h γ Θ σ H _ _ R hk fun γ1 vs H1 el hk1 R1 =>
  ⟨szle (by omega), fun p hp => by
    obtain ⟨γ', hq, R2⟩ := mk_core R1 el hk1 p hp
    exact w γ' _ _ hq R2⟩
def ixD (ds : List D) (i : Int) (f : Nat → D → Prop) : Prop := (ixN ds.length i).elim False fun k => (ds[k]?).elim False (f k)
def seqD (l : Bool) : D → Option (List D)
  | .list ds => if l then some ds else none
  | .tuple ds => if l then none else some ds
  | _ => none
theorem seqD_eq {l : Bool} {d : D} {ds : List D} (h : seqD l d = some ds) : d = dq l ds := by
  cases d <;> cases l <;> simp [seqD] at h <;> subst h <;> rfl
def kIx (l : Bool) (ka kb : KE) : KE := fun γ q => ka γ fun γ1 => kb γ1 fun γ2 => match γ2.tm with
  | .fz (.int i) :: s :: tm => ((look γ2.sl s).bind (seqD l)).elim False fun ds => ixD ds i fun k d => q ⟨γ2.sl, subS s k d :: tm, γ2.n⟩
  | _ => False
theorem ix_core {C : Cn} {γ : VSt} {Θ : List V} {σ : L2.St} {H : Hp} {v u : V} {l : Bool} {q : VSt → Prop} (R : Rel C γ (u :: v :: Θ) σ H) (h : match γ.tm with
  | .fz (.int i) :: s :: tm => ((look γ.sl s).bind (seqD l)).elim False fun ds => ixD ds i fun k d => q ⟨γ.sl, subS s k d :: tm, γ.n⟩
  | _ => False) : ∃ p xs i w γ', v = .ref p ∧ u = .int i ∧ H p = some (hoq l xs) ∧ atI xs i = some w ∧ q γ' ∧ Rel C γ' (w :: Θ) σ H := by
  obtain ⟨sl, tm, j⟩ := γ
  dsimp only at h
  split at h
  · rename_i i s tm'
    obtain ⟨ds, e, hd⟩ := elimF h
    obtain ⟨d0, e1, e2⟩ := Option.bind_eq_some_iff.mp e
    have e3 := seqD_eq e2
    subst e3
    obtain ⟨T, r, _⟩ := R.read (d := .int i) rfl
    cases r
    obtain ⟨p, xs, rfl, hp, el, k⟩ := R.pop.item e1
    unfold ixD at hd
    obtain ⟨kk, e4, hd⟩ := elimF hd
    obtain ⟨d, e5, hd⟩ := elimF hd
    have hlt : kk < xs.length := by
      have := (List.getElem?_eq_some_iff.mp e5).1
      omega
    have e6 : xs[kk]? = some xs[kk] := List.getElem?_eq_getElem hlt
    refine ⟨p, xs, i, xs[kk], _, rfl, rfl, hp, ?_, hd, k kk d _ e5 e6⟩
    unfold atI
    rw [el, e4]
    exact e6
  · exact h.elim
theorem so_ixL (a : SoE xc ta ka) (b : SoE xc tb kb) : SoE xc (tOp (rIxL K) ta tb) (kIx true ka kb) := fun γ Θ σ H Q q R hk w => a γ Θ σ H _ _ R hk fun γ1 v1 H1 hk1 R1 => b γ1 _ σ H1 _ _ R1 hk1 fun γ2 v2 H2 hk2 R2 => by
  obtain ⟨p, xs, i, z, γ', rfl, rfl, hp, ha, hq, R3⟩ := ix_core R2 hk2
  exact ⟨p, xs, i, z, rfl, rfl, SqL.of hp, ha, w γ' z H2 hq R3⟩
theorem so_ixT (a : SoE xc ta ka) (b : SoE xc tb kb) : SoE xc (tOp (rIxT K) ta tb) (kIx false ka kb) := fun γ Θ σ H Q q R hk w => a γ Θ σ H _ _ R hk fun γ1 v1 H1 hk1 R1 => b γ1 _ σ H1 _ _ R1 hk1 fun γ2 v2 H2 hk2 R2 => by
  obtain ⟨p, xs, i, z, γ', rfl, rfl, hp, ha, hq, R3⟩ := ix_core R2 hk2
  exact ⟨p, xs, i, z, rfl, rfl, SqT.of hp, ha, w γ' z H2 hq R3⟩
theorem Trs.take {H : Hp} {Z : Reg} : ∀ {vs : List V} {ds : List D} {S : List Addr}, Trs H Z S vs ds → S = [] → ∀ n, Trs H Z [] (vs.take n) (ds.take n)
  | [], [], _, h, _, n => by simpa using Trs.nil
  | [], _ :: _, _, h, _, n => by cases h
  | _ :: _, [], _, h, _, n => by cases h
  | v :: vs, d :: ds, _, h, e, 0 => .nil
  | v :: vs, d :: ds, _, h, e, n + 1 => by
    cases h with
    | cons h1 h2 =>
      obtain ⟨rfl, rfl⟩ := List.append_eq_nil_iff.mp e
      exact .cons (S := []) h1 (Trs.take h2 rfl n)
theorem Trs.drop {H : Hp} {Z : Reg} : ∀ {vs : List V} {ds : List D} {S : List Addr}, Trs H Z S vs ds → S = [] → ∀ n, Trs H Z [] (vs.drop n) (ds.drop n)
  | [], [], _, h, _, n => by simpa using Trs.nil
  | [], _ :: _, _, h, _, n => by cases h
  | _ :: _, [], _, h, _, n => by cases h
  | v :: vs, d :: ds, _, h, e, 0 => by subst e; exact h
  | v :: vs, d :: ds, _, h, e, n + 1 => by
    cases h with
    | cons h1 h2 =>
      obtain ⟨rfl, rfl⟩ := List.append_eq_nil_iff.mp e
      exact Trs.drop h2 rfl n
def newL (ds : List D) : Sl := .ow (nolists ds) (.list ds)
theorem Rel.newL {C : Cn} {Z : Reg} {S1 S2 : List Addr} {sl tm : List Sl} {j : Int} {Θ : List V} {σ : L2.St} {H : Hp} {us : List V} {es : List D} {p : Addr} (h : RelX C Z S1 S2 ⟨sl, tm, j⟩ Θ σ H) (t : Trs H Z [] us es) (hp : H p = none) :
    Rel C ⟨sl, G.newL es :: tm, j⟩ (.ref p :: Θ) σ (upd H p (.lst us)) := by
  have sm := same_upd (o := .lst us) hp
  have h1 : RelX C Z S1 S2 ⟨sl, tm, j⟩ Θ σ (upd H p (.lst us)) := by
    refine ⟨fun a o e m => ⟨(h.fr a o e m).1, sm a o (h.fr a o e m).2⟩, h.es.mono (fun t vs e => sm t _ e) (fun _ z => z) (fun a _ o e => sm a o e) (fun a _ o e => sm a o e), h.et.mono (fun t vs e => sm t _ e) (fun _ z => z) (fun a _ o e => sm a o e) (fun a _ o e => sm a o e), h.nd, h.nz, fun q b e => ⟨(h.pu q b e).1.mono (sm q), (h.pu q b e).2⟩, fun a z => ?_, h.dj, fun k j π u e ev => ?_⟩
    · obtain ⟨o, e⟩ := h.ex a z
      exact ⟨o, sm a o e⟩
    · obtain ⟨s, d', e', w, g1, g2, g3, g4, wk⟩ := h.al k j π u e ev
      obtain ⟨w', T', ew, t, sub⟩ := h.slot g1 g2
      rw [g4] at ew
      cases ew
      exact ⟨s, d', e', w, g1, g2, g3, g4, (Tr.part t g3 wk).2 _ (fun t vs e => sm t _ e) fun a _ o e => sm a o e⟩
  have f : Fl C Z S1 S2 (upd H p (.lst us)) [p] := by
    refine ⟨?_, fun a m => ?_⟩
    · show (p :: (S1 ++ S2)).Nodup
      refine List.nodup_cons.mpr ⟨fun m => ?_, h.nd⟩
      rcases List.mem_append.mp m with m | m
      · obtain ⟨ys, q⟩ := h.es.dom p m
        rw [hp] at q
        cases q
      · obtain ⟨ys, q⟩ := h.et.dom p m
        rw [hp] at q
        cases q
    · simp only [List.mem_singleton] at m
      subst m
      refine ⟨fun z => ?_, fun q b e z => ?_, _, upd_same⟩
      · obtain ⟨o, q⟩ := h.ex a z
        rw [hp] at q
        cases q
      · subst z
        obtain ⟨x, y, z, e2, _⟩ := (h.pu a b e).1
        rw [hp] at e2
        cases e2
  have t' : Trs (upd H p (.lst us)) Z [] us es := Trs.mono (fun t vs e => sm t _ e) (fun _ z => z) (fun a _ o e => sm a o e) _ _ _ t fun a m => nomatch m
  unfold G.newL
  cases hn : nolists es with
  | true => exact ⟨_, _, _, h1.pushF f (A' := [p]) (Dr := []) (by simp) (.ow (.lst (S := []) upd_same (Trs.nolist _ _ _ t' hn).2)) (fun i π z => nomatch z)⟩
  | false => exact ⟨_, _, _, h1.pushF f (A' := [p]) (Dr := []) (by simp) (.sp upd_same t') (fun i π z => nomatch z)⟩
/-- the items of the top, shared -/
def shr (sl : List Sl) (s : Sl) (l : Bool) : Option (List D) := ((look sl s).bind (seqD l)).bind fun ds => match s with
  | .al _ _ => if nolists ds then some ds else none
  | _ => some ds
theorem Rel.shr {C : Cn} {sl tm : List Sl} {s : Sl} {j : Int} {v : V} {Θ : List V} {σ : L2.St} {H : Hp} {l : Bool} {ds : List D} (R : Rel C ⟨sl, s :: tm, j⟩ (v :: Θ) σ H) (e : G.shr sl s l = some ds) :
    ∃ a vs Z S1 S2, v = .ref a ∧ H a = some (hoq l vs) ∧ RelX C Z S1 S2 ⟨sl, tm, j⟩ Θ σ H ∧ Trs H Z [] vs ds := by
  unfold G.shr at e
  obtain ⟨ds', e1, e2⟩ := Option.bind_eq_some_iff.mp e
  obtain ⟨d0, e3, e4⟩ := Option.bind_eq_some_iff.mp e1
  have e5 := seqD_eq e4
  subst e5
  obtain ⟨a, vs, rfl, ha, el, _⟩ := R.item e3
  have eqv : ∀ us, H a = some (hoq l us) → us = vs := fun us q => by
    rw [ha] at q
    cases l with
    | true => cases q; rfl
    | false => cases q; rfl
  -- frozen
  have frz : ∀ {d}, Rel C ⟨sl, .fz d :: tm, j⟩ (.ref a :: Θ) σ H → d = dq l ds' → ds' = ds → ∃ b us Z S1 S2, V.ref a = .ref b ∧ H b = some (hoq l us) ∧ RelX C Z S1 S2 ⟨sl, tm, j⟩ Θ σ H ∧ Trs H Z [] us ds := fun {d} R ed eds => by
    subst ed
    subst eds
    obtain ⟨Z, S1, S2, h⟩ := R
    obtain ⟨A, B, es, r, f⟩ := RelX.popF (ss := [.fz (dq l ds')]) (us := [.ref a]) h rfl
    cases es with
    | cons e1 e2 =>
      cases e1 with
      | fz t =>
        obtain ⟨a', us, T, ea, ha', ts, sub⟩ := t.seq
        cases ea
        have eT : T = [] := by
          cases T with
          | nil => rfl
          | cons y ys => exact nomatch sub y (by simp)
        subst eT
        exact ⟨a, us, Z, S1, B, rfl, ha', r, ts⟩
  cases s with
  | jk => cases e3
  | dc m => cases e3
  | dt m => cases e3
  | sh m => cases e3
  | xv _ _ m => cases e3
  | ho _ _ => cases e3
  | xw _ _ => cases e3
  | io d => cases e3
  | pu => cases e3
  | fz d =>
    cases e3
    exact frz R rfl (by simpa using e2)
  | ow b d =>
    cases e3
    exact frz R.frzT rfl (by simpa using e2)
  | al i π =>
    dsimp only at e2
    by_cases hn : nolists ds' = true
    · rw [if_pos hn] at e2
      cases e2
      obtain ⟨Z, S1, S2, h⟩ := R
      obtain ⟨T, t, _⟩ := h.trAt (k := 0) rfl rfl e3
      obtain ⟨a', us, T', ea, ha', ts, _⟩ := t.seq
      cases ea
      obtain ⟨A, B, es, r, f⟩ := RelX.popF (ss := [.al i π]) (us := [.ref a]) h rfl
      exact ⟨a, us, Z, S1, B, rfl, ha', r, (Trs.nolist _ _ _ ts hn).2⟩
    · rw [if_neg hn] at e2
      cases e2
/-- list(xs), list(t) -/
def kListOf (ka : KE) : KE := fun γ q => ka γ fun γ1 => match γ1.tm with
  | s :: tm => ((shr γ1.sl s true).orElse fun _ => shr γ1.sl s false).elim False fun ds => q ⟨γ1.sl, newL ds :: tm, γ1.n⟩
  | _ => False
theorem so_listOf {ts : TA} (h : SoA xc 1 ts ka) : SoE xc (tCB (fun xs H Q => ∃ p ys, xs = [.ref p] ∧ (SqL K H p ys ∨ SqT K H p ys) ∧ ∀ l, H l = none → Q (.ref l) (upd H l (.lst ys))) ts) (kListOf ka) := fun γ Θ σ H Q q R hk w => h γ Θ σ H _ _ R hk fun γ1 vs H1 el hk1 R1 => by
  match vs, el, R1 with
  | [v], _, R1 =>
    obtain ⟨sl, tm, j⟩ := γ1
    dsimp only at hk1
    match tm, hk1, R1 with
    | s :: tm, hk1, R1 =>
      obtain ⟨ds, e, hq⟩ := elimF hk1
      cases e1 : shr sl s true with
      | some ds1 =>
        rw [e1] at e
        cases e
        obtain ⟨a, us, Z, S1, S2, rfl, ha, X, ts⟩ := Rel.shr R1 e1
        exact ⟨a, us, rfl, .inl (SqL.of ha), fun p hp => w _ _ _ hq (Rel.newL X ts hp)⟩
      | none =>
        rw [e1] at e
        obtain ⟨a, us, Z, S1, S2, rfl, ha, X, ts⟩ := Rel.shr R1 (l := false) e
        exact ⟨a, us, rfl, .inr (SqT.of ha), fun p hp => w _ _ _ hq (Rel.newL X ts hp)⟩
/-- slices -/
def kNo : KO := fun γ q => q none γ
def popI (γ : VSt) (f : Int → VSt → Prop) : Prop := match γ.tm with
  | .fz (.int i) :: tm => f i ⟨γ.sl, tm, γ.n⟩
  | _ => False
theorem popI_ok {C : Cn} {γ : VSt} {Θ : List V} {σ : L2.St} {H : Hp} {v : V} {f : Int → VSt → Prop} (R : Rel C γ (v :: Θ) σ H) (h : popI γ f) : ∃ i γ', v = .int i ∧ f i γ' ∧ Rel C γ' Θ σ H := by
  unfold popI at h
  obtain ⟨sl, tm, j⟩ := γ
  dsimp only at h
  split at h
  · rename_i i tm'
    obtain ⟨T, r, _⟩ := R.read (d := .int i) rfl
    cases r
    exact ⟨i, _, rfl, h, R.pop⟩
  · exact h.elim
def kPart (k : KE) : KO := fun γ q => k γ fun γ1 => popI γ1 fun i γ2 => q (some i) γ2
theorem so_no : SoO xc tNoPart kNo := fun γ Θ σ H Q q R hk w => w _ _ H hk R
theorem so_part (h : SoE xc t k) : SoO xc (tPart t) (kPart k) := fun γ Θ σ H Q q R hk w => h γ Θ σ H _ _ R hk fun γ1 v H1 hk1 R1 => by
  obtain ⟨i, γ2, rfl, hf, R2⟩ := popI_ok R1 hk1
  exact ⟨i, rfl, w _ _ H1 hf R2⟩
def cutD (ds : List D) (lo hi : Option Int) : List D := (ds.drop (HT.sIx ds.length 0 lo)).take (HT.sIx ds.length ds.length hi - HT.sIx ds.length 0 lo)
def kSl (ka : KE) (lo hi : KO) : KE := fun γ q => ka γ fun γ1 => lo γ1 fun a γ2 => hi γ2 fun b γ3 => match γ3.tm with
  | s :: tm => (shr γ3.sl s true).elim False fun ds => q ⟨γ3.sl, newL (cutD ds a b) :: tm, γ3.n⟩
  | _ => False
theorem so_sl {tl th : TO} {lo hi : KO} (a : SoE xc ta ka) (b : SoO xc tl lo) (c : SoO xc th hi) : SoE xc (tSl (rSlL K) ta tl th) (kSl ka lo hi) := fun γ Θ σ H Q q R hk w => a γ Θ σ H _ _ R hk fun γ1 v H1 hk1 R1 => b γ1 _ σ H1 _ _ R1 hk1 fun i γ2 H2 hk2 R2 => c γ2 _ σ H2 _ _ R2 hk2 fun j γ3 H3 hk3 R3 => by
  obtain ⟨sl, tm, jj⟩ := γ3
  dsimp only at hk3
  match tm, hk3, R3 with
  | s :: tm, hk3, R3 =>
    obtain ⟨ds, e, hq⟩ := elimF hk3
    obtain ⟨p, us, Z, S1, S2, rfl, ha, X, ts⟩ := Rel.shr R3 e
    refine ⟨p, us, rfl, SqL.of ha, fun o ho => w _ _ _ hq (Rel.newL X ?_ ho)⟩
    have el := ts.length
    unfold cutV cutD
    rw [el]
    exact (ts.drop rfl _).take rfl _
/-- xs + ys -/
def kCat (ka kb : KE) : KE := fun γ q => ka γ fun γ1 => kb γ1 fun γ2 => match γ2.tm with
  | s2 :: s1 :: tm => (shr γ2.sl s1 true).elim False fun ds => (shr γ2.sl s2 true).elim False fun es => ds.length + es.length ≤ 10000000 ∧ q ⟨γ2.sl, newL (ds ++ es) :: tm, γ2.n⟩
  | _ => False
theorem RelX.shr {C : Cn} {Z : Reg} {S1 S2 : List Addr} {sl tm : List Sl} {s : Sl} {j : Int} {v : V} {Θ : List V} {σ : L2.St} {H : Hp} {l : Bool} {ds : List D} (h : RelX C Z S1 S2 ⟨sl, s :: tm, j⟩ (v :: Θ) σ H) (e : G.shr sl s l = some ds) :
    ∃ a vs Z' S2', v = .ref a ∧ H a = some (hoq l vs) ∧ RelX C Z' S1 S2' ⟨sl, tm, j⟩ Θ σ H ∧ Trs H Z' [] vs ds ∧ ∀ a, Z a → Z' a := by
  unfold G.shr at e
  obtain ⟨ds', e1, e2⟩ := Option.bind_eq_some_iff.mp e
  obtain ⟨d0, e3, e4⟩ := Option.bind_eq_some_iff.mp e1
  have e5 := seqD_eq e4
  subst e5
  obtain ⟨A, B, es, r, f⟩ := RelX.popF (ss := [s]) (us := [v]) h rfl
  obtain ⟨T0, en, rfl⟩ : ∃ T0, Ent C Z H T0 (some v) s ∧ A = T0 := by
    cases es with
    | cons e1 e2 =>
      cases e2
      exact ⟨_, e1, by simp⟩
  have go : datS s = some (dq l ds') → ds' = ds → ∃ a vs Z' S2', v = .ref a ∧ H a = some (hoq l vs) ∧ RelX C Z' S1 S2' ⟨sl, tm, j⟩ Θ σ H ∧ Trs H Z' [] vs ds ∧ ∀ a, Z a → Z' a := fun q eds => by
    subst eds
    obtain ⟨w, Tw, ew, t, sbw⟩ := en.tr q
    cases ew
    have g := r.growF f
    have t2 : Tr H (fun a => Z a ∨ a ∈ A) [] v (dq l ds') := Tr.freeze (fun _ z => .inl z) _ _ _ t fun a m => .inr (sbw a m)
    obtain ⟨a, us, T, rfl, ha, ts, sub⟩ := t2.seq
    have eT : T = [] := by
      cases T with
      | nil => rfl
      | cons y ys => exact nomatch sub y (by simp)
    subst eT
    exact ⟨a, us, _, B, rfl, ha, g, ts, fun a z => .inl z⟩
  cases s with
  | jk => cases e3
  | dc m => cases e3
  | dt m => cases e3
  | sh m => cases e3
  | xv _ _ m => cases e3
  | ho _ _ => cases e3
  | xw _ _ => cases e3
  | io d => cases e3
  | pu => cases e3
  | fz d =>
    cases e3
    exact go rfl (by simpa using e2)
  | ow b d =>
    cases e3
    exact go rfl (by simpa using e2)
  | al i π =>
    dsimp only at e2
    by_cases hn : nolists ds' = true
    · rw [if_pos hn] at e2
      cases e2
      obtain ⟨T, t, _⟩ := h.trAt (k := 0) rfl rfl e3
      obtain ⟨a, us, T', rfl, ha', ts, _⟩ := t.seq
      exact ⟨a, us, Z, B, rfl, ha', r, (Trs.nolist _ _ _ ts hn).2, fun _ z => z⟩
    · rw [if_neg hn] at e2
      cases e2
theorem so_cat (a : SoE xc ta ka) (b : SoE xc tb kb) : SoE xc (tOp rCat ta tb) (kCat ka kb) := fun γ Θ σ H Q q R hk w => a γ Θ σ H _ _ R hk fun γ1 v1 H1 hk1 R1 => b γ1 _ σ H1 _ _ R1 hk1 fun γ2 v2 H2 hk2 R2 => by
  obtain ⟨sl, tm, j⟩ := γ2
  dsimp only at hk2
  split at hk2
  · obtain ⟨ds, e1, hk3⟩ := elimF hk2
    obtain ⟨es, e2, hl, hq⟩ := elimF hk3
    obtain ⟨Z, S1, S2, X⟩ := R2
    obtain ⟨b', zs, Z2, S2', rfl, hb, X2, t2, _⟩ := X.shr e2
    obtain ⟨a', xs, Z3, S3', rfl, ha, X3, t3, sub⟩ := X2.shr e1
    have l1 := t3.length
    have l2 := t2.length
    refine ⟨a', b', xs, zs, rfl, rfl, ha, hb, szle (by omega), fun p hp => w _ _ _ hq (Rel.newL X3 ?_ hp)⟩
    exact t3.append (t2.weak sub)
  · exact hk2.elim
theorem nolists_ints (ns : List Int) : nolists (ns.map PyData.int) = true := by
  induction ns with
  | nil => rfl
  | cons n ns ih => simp [nolists, nolist, ih]
/-- list(range(..)) -/
theorem Rel.ints {C : Cn} {sl tm : List Sl} {j : Int} {Θ : List V} {σ : L2.St} {H : Hp} {p : Addr} (R : Rel C ⟨sl, tm, j⟩ Θ σ H) (hp : H p = none) (ns : List Int) : Rel C ⟨sl, .ow true (dI ns) :: tm, j⟩ (.ref p :: Θ) σ (upd H p (.lst (ns.map V.int))) := by
  obtain ⟨Z, S1, S2, X⟩ := R
  have := Rel.newL X (Trs.intsR (Z := Z) ns) hp
  unfold G.newL at this
  rw [nolists_ints] at this
  exact this
def kRg2 (ka kb : KE) : VSt → (Int → Int → VSt → Prop) → Prop := fun γ q => ka γ fun γ1 => kb γ1 fun γ2 => popI γ2 fun j γ3 => popI γ3 fun i γ4 => q i j γ4
def kRg1 (ka : KE) : VSt → (Int → Int → VSt → Prop) → Prop := fun γ q => ka γ fun γ1 => popI γ1 fun j γ2 => q 0 j γ2
def kListRg (r : VSt → (Int → Int → VSt → Prop) → Prop) : KE := fun γ q => r γ fun i j γ1 => (-1000000000000 ≤ i ∧ i ≤ 1000000000000 ∧ -1000000000000 ≤ j ∧ j ≤ 1000000000000 ∧ j - i ≤ 10000000) ∧ q ⟨γ1.sl, .ow true (dI (rg i j)) :: γ1.tm, γ1.n⟩
def kCallT (W : Tw) (n : Nat) (ka : KE) : KE := fun γ q => ka γ fun γ1 => (datN γ1.sl n γ1.tm).elim False fun x => W x.1 fun d => q ⟨γ1.sl, own d :: x.2, γ1.n⟩
theorem Rel.newR {C : Cn} {sl tm : List Sl} {j : Int} {Θ : List V} {σ : L2.St} {H H' : Hp} {v : V} {d : D} (R : Rel C ⟨sl, tm, j⟩ Θ σ H) (sm : Same H H') (nw : New H H' v d) : Rel C ⟨sl, own d :: tm, j⟩ (v :: Θ) σ H' := by
  obtain ⟨S, r, nd, f⟩ := nw
  refine R.new (fun a o e _ => sm a o e) (fun p b q => ?_) ⟨S, Rep.tr _ _ _ r, nd, f⟩
  obtain ⟨Z, S1, S2, X⟩ := R
  exact (X.pu p b q).1.mono (sm p)
theorem so_callT {W : Tw} {ts : TA} (h : SoA xc n ts ka) : SoE xc (tCall (spT W) [] E0 ts) (kCallT W n ka) := fun γ Θ σ H Q q R hk w => h γ Θ σ H _ _ R hk fun γ1 vs H1 el hk1 R1 => by
  obtain ⟨⟨ds, rr⟩, e, hf⟩ := elimF hk1
  obtain ⟨R3, T, rp, _⟩ := Rel.pops (Θ := Θ) R1 el e
  rw [List.append_nil]
  exact ⟨T, ds, _, rp, hf, fun d v H' hq sm nw => w _ v H' hq (R3.newR sm nw)⟩
def kCallTK (W : Tw) (ix : List Nat) (n : Nat) (ka : KE) : KE := fun γ q => ka γ fun γ1 => (datN γ1.sl n γ1.tm).elim False fun x => W (ix.filterMap fun i => x.1[i]?) fun d => q ⟨γ1.sl, own d :: x.2, γ1.n⟩
theorem Reps.pickI {H : Hp} {T : List Addr} {vs : List V} {ds : List D} (r : Reps H T vs ds) : ∀ ix : List Nat, ∃ T', Reps H T' (ix.filterMap fun i => vs[i]?) (ix.filterMap fun i => ds[i]?) ∧ ∀ a ∈ T', a ∈ T
  | [] => ⟨[], .nil, fun _ z => nomatch z⟩
  | i :: ix => by
    obtain ⟨T', q, sub⟩ := Reps.pickI r ix
    have el := r.length
    cases e : ds[i]? with
    | none =>
      have e2 : vs[i]? = none := List.getElem?_eq_none (by have := List.getElem?_eq_none_iff.mp e; omega)
      rw [List.filterMap_cons_none e, List.filterMap_cons_none e2]
      exact ⟨T', q, sub⟩
    | some d =>
      obtain ⟨v, T1, e2, rv, s1⟩ := r.get e
      rw [List.filterMap_cons_some e, List.filterMap_cons_some e2]
      exact ⟨_, .cons rv q, fun a m => (List.mem_append.mp m).elim (s1 a) (sub a)⟩
def kCallP (c : Int) (W : Tw) (n : Nat) (ka : KE) : KE := fun γ q => ka γ fun γ1 => (datN γ1.sl n γ1.tm).elim False fun x => match x.2 with
  | .pu :: r => (0 ≤ c ∧ c ≤ γ1.n) ∧ W x.1 fun d => q ⟨γ1.sl, own d :: r, γ1.n - c⟩
  | _ => False
theorem so_callP {c : Int} {W : Tw} {ts : TA} (h : SoA xc (n + 1) ts ka) : SoE xc (tCall (spP c W) [] E0 ts) (kCallP c W n ka) := fun γ Θ σ H Q q R hk w => h γ Θ σ H _ _ R hk fun γ1 vs H1 el hk1 R1 => by
  obtain ⟨⟨ds, rr⟩, e, hf⟩ := elimF hk1
  match vs, el with
  | v :: vs, el =>
    rw [List.reverse_cons, List.append_assoc] at R1
    obtain ⟨R3, T, rp, np⟩ := Rel.pops (Θ := [v] ++ Θ) R1 (by simpa using el) e
    dsimp only at hf
    split at hf
    · rename_i r
      obtain ⟨⟨c0, c1⟩, hw⟩ := hf
      have R4 : Rel C ⟨γ1.sl, .pu :: r, γ1.n⟩ (v :: Θ) σ H1 := R3
      have pv : ∃ p b, C.pu = some (p, b) ∧ v = .ref p := by
        obtain ⟨Z, S1, S2, X⟩ := R4
        obtain ⟨A, B, es, r, f⟩ := RelX.popF (ss := [.pu]) (us := [v]) X rfl
        cases es with
        | cons e1 e2 =>
          cases e1 with
          | pu q => exact ⟨_, _, q, rfl⟩
      obtain ⟨p, b, epu, rfl⟩ := pv
      have R5 := R4.pop
      have pu : PuAt H1 p (b - γ1.n) := by
        obtain ⟨Z, S1, S2, X⟩ := R5
        exact (X.pu p b epu).1
      have bok := C.ok p b epu
      rw [List.append_nil]
      refine ⟨p, b - γ1.n, vs, T, ds, _, rfl, pu, by omega, rp, np p b epu, hw, fun d v H' hq fr kp nw => ?_⟩
      obtain ⟨S, rd, nd, f⟩ := nw
      refine w _ v H' hq (R5.new (n' := γ1.n - c) (fun a o e ne => fr a o e (ne p b epu)) (fun p' b' e' => ?_) ⟨S, Rep.tr _ _ _ rd, nd, f⟩)
      rw [epu] at e'
      cases e'
      have : b - γ1.n + c = b - (γ1.n - c) := by omega
      rw [← this]
      exact kp
    · exact hf.elim
def isLst (γ : VSt) : Prop := match γ.tm with
  | s :: _ => ((look γ.sl s).bind (seqD true)).elim False fun _ => True
  | _ => False
theorem tyV_of {C : Cn} {γ : VSt} {Θ : List V} {σ : L2.St} {H : Hp} {v : V} (R : Rel C γ (v :: Θ) σ H) (h : isLst γ) : tyV K "list" v H := by
  unfold isLst at h
  obtain ⟨sl, tm, j⟩ := γ
  dsimp only at h
  split at h
  · obtain ⟨ds, e, _⟩ := elimF h
    obtain ⟨d0, e1, e2⟩ := Option.bind_eq_some_iff.mp e
    have e3 := seqD_eq e2
    subst e3
    obtain ⟨a, vs, rfl, ha, _⟩ := R.item e1
    exact tyL ha
  · exact h.elim
/-- a method that only reads -/
def kM (n : Nat) (f : List D → (D → Prop) → Prop) (ko ka : KE) : KE := fun γ q => ko γ fun γ1 => isLst γ1 ∧ ka γ1 fun γ2 => (datN γ2.sl (n + 1) γ2.tm).elim False fun x => f x.1 fun d => q ⟨γ2.sl, .fz d :: x.2, γ2.n⟩
def vCnt : List D → (D → Prop) → Prop := fun ds q => match ds with
  | [.list es, .int k] => (intsOf es).elim False fun ns => q (.int (ns.count k : Nat))
  | _ => False
def vIdx : List D → (D → Prop) → Prop := fun ds q => match ds with
  | [.list es, .int k] => (intsOf es).elim False fun ns => k ∈ ns ∧ q (.int (ns.idxOf k : Nat))
  | _ => False
end
end G
namespace G
open PySem PySem.Spec PyProof.Rows L2
variable {C : Cn} {xc : XC C}
section
variable {t t1 t2 ta tb tc : TE} {k k1 k2 ka kb kc ko : KE} {n m : Nat} {c1 c2 : TT} {h1 h2 : KT} {K : PySem.W.Frag}
def wrL (sl : List Sl) (i : Nat) (π : List Nat) (f : Bool → D → List D → Prop) : Prop := match sl[i]? with
  | some (.ow b d) => (atP d π).elim False fun e => match e with
    | .list es => f b d es
    | _ => False
  | some (.io d) => (atP d π).elim False fun e => match e with
    | .list es => f true d es
    | _ => False
  | _ => False
/-- the names behind a write -/
def putS (sl : List Sl) (i : Nat) (b : Bool) (d : D) : List Sl := sl.set i (reS ((sl[i]?).getD .jk) b d)
def ioOk (sl : List Sl) (i : Nat) (b : Bool) : Prop := match sl[i]? with
  | some (.io _) => b = true
  | _ => True
theorem wrL_inv {sl : List Sl} {i : Nat} {π : List Nat} {f : Bool → D → List D → Prop} (h : wrL sl i π f) : ∃ s0 b d es, sl[i]? = some s0 ∧ (s0 = .ow b d ∨ (s0 = .io d ∧ b = true)) ∧ datS s0 = some d ∧ atP d π = some (.list es) ∧ f b d es := by
  unfold wrL at h
  split at h
  · rename_i b d e
    obtain ⟨x, ex, hx⟩ := elimF h
    split at hx
    · exact ⟨_, b, d, _, e, .inl rfl, rfl, ex, hx⟩
    · exact hx.elim
  · rename_i d e
    obtain ⟨x, ex, hx⟩ := elimF h
    split at hx
    · exact ⟨_, true, d, _, e, .inr ⟨rfl, rfl⟩, rfl, ex, hx⟩
    · exact hx.elim
  · exact h.elim
theorem putS_eq {sl : List Sl} {i : Nat} {s0 : Sl} {b : Bool} {d : D} (e : sl[i]? = some s0) : putS sl i b d = sl.set i (reS s0 b d) := by
  unfold putS
  rw [e]
  rfl
theorem ioOk_at {sl : List Sl} {i : Nat} {s0 : Sl} {b : Bool} (h : ioOk sl i b) (e : sl[i]? = some s0) : ∀ x, s0 = .io x → b = true := fun x z => by
  subst z
  unfold ioOk at h
  rw [e] at h
  exact h
/-- what stands below: the alias is walked to -/
theorem RelX.walk {C : Cn} {Z : Reg} {S1 S2 : List Addr} {γ : VSt} {Θ : List V} {σ : L2.St} {H : Hp} {j i : Nat} {π : List Nat} {v : V} (h : RelX C Z S1 S2 γ Θ σ H) (e : γ.tm[j]? = some (.al i π)) (ev : Θ[j]? = some v) : ∃ w, σ[i]? = some (some w) ∧ Wk H w π v := by
  obtain ⟨s, d', e', w, g1, g2, g3, g4, wk⟩ := h.al j i π v e ev
  exact ⟨w, g4, wk⟩
theorem okB {b c : Bool} {π : List Nat} (h : (b && c) = true ∨ π = []) : (b = true ∨ π = []) ∧ ((b && c) = b ∨ ((b && c) = false ∧ π = [])) := by
  rcases h with h | h
  · rw [Bool.and_eq_true] at h
    exact ⟨.inl h.1, .inl (by rw [h.1, h.2]; rfl)⟩
  · refine ⟨.inr h, ?_⟩
    cases hb : (b && c) with
    | true =>
      rw [Bool.and_eq_true] at hb
      exact .inl hb.1.symm
    | false => exact .inr ⟨rfl, h⟩
def kApp (ko ke : KE) : KE := fun γ q => ko γ fun γ1 => isLst γ1 ∧ ke γ1 fun γ2 => match γ2.tm with
  | s :: .al i π :: tm => (con s).elim False fun c => noAl i tm = true ∧ wrL γ2.sl i π fun b d es => (((b && c.1) = true ∨ π = []) ∧ ioOk γ2.sl i (b && c.1)) ∧ es.length < 10000000 ∧ q ⟨putS γ2.sl i (b && c.1) (setP d π (.list (es ++ [c.2]))), .fz .none :: tm, γ2.n⟩
  | _ => False
theorem so_app (ho : SoE xc t ko) (he : SoE xc ta ka) : SoE xc (tBM K "list" rAppend t (tCons ta tNil)) (kApp ko ka) := fun γ Θ σ H Q q R hk w => ho γ Θ σ H _ _ R hk fun γ1 v H1 hk1 R1 =>
  ⟨tyV_of R1 hk1.1, he γ1 _ σ H1 _ _ R1 hk1.2 fun γ2 u H2 hk2 R2 => by
    obtain ⟨sl, tm, j⟩ := γ2
    dsimp only at hk2
    split at hk2
    · rename_i s i π tm
      obtain ⟨⟨cb, cd⟩, ec, na, hw⟩ := elimF hk2
      obtain ⟨s0, b, d, es, e1, hs, eds, e2, ⟨hb, hio⟩, hl, hq⟩ := wrL_inv hw
      rw [putS_eq e1] at hq
      obtain ⟨hb1, hb2⟩ := okB hb
      obtain ⟨Z, S1, S2, X⟩ := R2
      obtain ⟨w0, ew, wk⟩ := X.walk (j := 1) rfl rfl
      obtain ⟨A, B, en, X1, f⟩ := RelX.popF (ss := [s, .al i π]) (us := [u, v]) X rfl
      obtain ⟨A', en', rfl⟩ : ∃ A', Ent C Z H2 A' (some u) s ∧ A = A' := by
        cases en with
        | cons e1 e2 =>
          cases e2 with
          | cons e2 e3 =>
            cases e2
            cases e3
            exact ⟨_, e1, by simp⟩
      obtain ⟨a, vs, T, rfl, ha, ts, aA, aZ, aT, put⟩ := X1.putF f e1 hs na ew wk e2 hb1
      have el := ts.length
      have ti := en'.con ec
      have t1 : Trs (upd H2 a (.lst (vs ++ [u]))) (rgn (b && cb) Z) (T ++ (A ++ [])) (vs ++ [u]) (es ++ [cd]) := by
        refine ((ts.upd ha aZ aT).weak (rgn_mono fun z => ?_)).append (.cons ((ti.upd ha aZ fun x m z => aA (z ▸ m)).weak (rgn_mono fun z => ?_)) .nil)
        · rw [Bool.and_eq_true] at z; exact z.1
        · rw [Bool.and_eq_true] at z; exact z.2
      obtain ⟨S1', X2, _⟩ := put (vs ++ [u]) (es ++ [cd]) (b && cb) _ [] hb2 (ioOk_at hio e1) t1 (by simp)
      have R3 : Rel C ⟨_, tm, j⟩ Θ σ (upd H2 a (.lst (vs ++ [u]))) := ⟨_, _, _, X2⟩
      exact ⟨a, vs, u, rfl, rfl, ha, szlt (by omega), w _ _ _ hq (R3.push fun Z => .non)⟩
    · exact hk2.elim⟩
/-- an item is taken out of a list -/
def popK (γ : VSt) (i : Nat) (π : List Nat) (tm : List Sl) (kk : Int) (q : VSt → Prop) : Prop := noAl i tm = true ∧ wrL γ.sl i π fun b d es => (b = true ∨ π = []) ∧ (0 ≤ kk ∧ kk < es.length ∧ es.length ≤ 10000000) ∧ (es[kk.toNat]?).elim False fun x => q ⟨putS γ.sl i b (setP d π (.list (es.eraseIdx kk.toNat))), (if b then own x else .fz x) :: tm, γ.n⟩
def kPop (ko : KE) : KE := fun γ q => ko γ fun γ1 => isLst γ1 ∧ match γ1.tm with
  | .al i π :: tm => wrL γ1.sl i π fun _ _ es => popK γ1 i π tm (es.length - 1 : Nat) q ∧ es ≠ []
  | _ => False
def kPopAt (ko ke : KE) : KE := fun γ q => ko γ fun γ1 => isLst γ1 ∧ ke γ1 fun γ2 => match γ2.tm with
  | .fz (.int kk) :: .al i π :: tm => popK γ2 i π tm kk q
  | _ => False
/-- o[i] = e -/
def kgSub (ko ki : KE) : KG := fun γ q => ko γ fun γ1 => ki γ1 fun γ2 => match γ2.tm with
  | .fz (.int kk) :: .al i π :: s :: tm => (con s).elim False fun c => noAl i tm = true ∧ wrL γ2.sl i π fun b d es => (((b && c.1) = true ∨ π = []) ∧ ioOk γ2.sl i (b && c.1)) ∧ (0 ≤ kk ∧ kk < es.length) ∧ q ⟨putS γ2.sl i (b && c.1) (setP d π (.list (es.set kk.toNat c.2))), tm, γ2.n⟩
  | _ => False
def ItD (C : Cn) (J : It) (ds : List D) (tm : List Sl) (Ψ : List V) : Prop := ∀ (E : List Sl) (Φ : List V) (i : Nat) (sl : List Sl) (n : Int) (σ : L2.St) (H : Hp), Φ.length = E.length → Rel C ⟨sl, E ++ tm, n⟩ (Φ ++ Ψ) σ H → (∀ d, ds[i]? = some d → J.go i H ∧ ∀ x H3, J.yld i H x H3 → Rel C ⟨sl, .fz d :: (E ++ tm), n⟩ (x :: (Φ ++ Ψ)) σ H3) ∧ (ds.length ≤ i → J.stop i H)
def PopD (C : Cn) (tm' : List Sl) (Ψ : List V) (tm : List Sl) (Θ : List V) : Prop := ∀ (E : List Sl) (Φ : List V) (sl : List Sl) (n : Int) (σ : L2.St) (H : Hp), Φ.length = E.length → (∀ s ∈ E, ∀ i π, s ≠ .al i π) → Rel C ⟨sl, E ++ tm', n⟩ (Φ ++ Ψ) σ H → Rel C ⟨sl, E ++ tm, n⟩ (Φ ++ Θ) σ H
abbrev KI := VSt → (List D → VSt → Prop) → Prop
def SoI {C : Cn} (xc : XC C) (wi : TI) (ki : KI) : Prop := ∀ (γ : VSt) (Θ : List V) (σ : L2.St) (H : Hp) (R : It → Hp → Prop) (q : List D → VSt → Prop), Rel C γ Θ σ H → ki γ q →
  (∀ J ds γ' Ψ H', q ds γ' → PopD C γ'.tm Ψ γ.tm Θ → ItD C J ds γ'.tm Ψ → Rel C γ' Ψ σ H' → R J H') → wi σ H R
theorem Rel.dupAt {C : Cn} {γ : VSt} {d : D} {v : V} {Θ : List V} {σ : L2.St} {H : Hp} {kk : Nat} (R : Rel C γ Θ σ H) (e : γ.tm[kk]? = some (.fz d)) (ev : Θ[kk]? = some v) : Rel C ⟨γ.sl, .fz d :: γ.tm, γ.n⟩ (v :: Θ) σ H := by
  obtain ⟨Z, S1, S2, h⟩ := R
  obtain ⟨v', T, Q, ev', en, pm, _⟩ := h.et.at e
  rw [List.getElem?_map, ev] at ev'
  cases ev'
  cases en with
  | fz t =>
    obtain ⟨sl, tm, n⟩ := γ
    exact ⟨Z, S1, _, h.pushE (Z' := Z) (.fz t) List.nodup_nil (fun a m => nomatch m) (fun i π z => nomatch z)⟩
theorem Fl.sub {C : Cn} {Z : Reg} {S1 S2 A A1 A2 : List Addr} {H : Hp} (f : Fl C Z S1 S2 H A) (pm : A.Perm (A1 ++ A2)) : Fl C Z S1 S2 H A1 := by
  refine ⟨nodup_cnt.mpr fun x => ?_, fun a m => f.ok a (pm.mem_iff.mpr (List.mem_append_left _ m))⟩
  have h1 := nodup_cnt.mp f.nd x
  have h2 := pm.count_eq x
  rw [List.count_append] at h1 h2 ⊢
  omega
/-- an entry below the top is forgotten -/
theorem popD_one {C : Cn} {s : Sl} {v : V} {tm : List Sl} {Θ : List V} : PopD C (s :: tm) (v :: Θ) tm Θ := fun E Φ sl n σ H el na R => by
  obtain ⟨Z, S1, S2, h⟩ := R
  have h' : RelX C Z S1 S2 ⟨sl, (E ++ [s]) ++ tm, n⟩ ((Φ ++ [v]) ++ Θ) σ H := by simpa using h
  obtain ⟨A, B, en, X, f⟩ := RelX.popF (ss := E ++ [s]) (us := Φ ++ [v]) h' (by simp [el])
  rw [List.map_append] at en
  obtain ⟨A1, A2, rfl, e1, e2⟩ := en.split (by simpa using el)
  exact ⟨Z, S1, _, X.pushEs (f.sub (.refl _)) e1 na⟩
theorem popD_refl {C : Cn} {tm tm' : List Sl} {Θ : List V} (e : tm' = tm) : PopD C tm' Θ tm Θ := fun E Φ sl n σ H el na R => e ▸ R
theorem itD_list {C : Cn} {l : Bool} {a : Addr} {ds : List D} {tm : List Sl} {Θ : List V} (J : It) (hJ : ∀ i H vs, H a = some (hoq l vs) → (∀ x, vs[i]? = some x → J.go i H) ∧ (∀ x H3, J.yld i H x H3 → H3 = H ∧ vs[i]? = some x) ∧ (vs.length ≤ i → J.stop i H)) : ItD C J ds (.fz (dq l ds) :: tm) (.ref a :: Θ) := fun E Φ i sl n σ H ee R => by
  have R1 := R.dupAt (kk := E.length) (d := dq l ds) (v := .ref a) (by rw [List.getElem?_append_right (Nat.le_refl _)]; simp) (by rw [← ee, List.getElem?_append_right (Nat.le_refl _)]; simp)
  obtain ⟨a', vs, ea, ha, el, k⟩ := R1.item (l := l) (ds := ds) rfl
  cases ea
  obtain ⟨j1, j2, j3⟩ := hJ i H vs ha
  refine ⟨fun d e => ?_, fun hi => j3 (by omega)⟩
  have hlt : i < vs.length := by
    have := (List.getElem?_eq_some_iff.mp e).1
    omega
  refine ⟨j1 _ (List.getElem?_eq_getElem hlt), fun x H3 hy => ?_⟩
  obtain ⟨rfl, ex⟩ := j2 x H3 hy
  exact k i d x e ex
/-- the top, frozen, as a sequence -/
def frzSeq (l : Bool) (s : Sl) : Option (List D) := match s with
  | .fz d => seqD l d
  | .ow _ d => seqD l d
  | _ => none
def kIt (l : Bool) (ke : KE) : KI := fun γ q => ke γ fun γ1 => match γ1.tm with
  | s :: tm => (frzSeq l s).elim False fun ds => q ds ⟨γ1.sl, .fz (dq l ds) :: tm, γ1.n⟩ ∧ tm = γ.tm
  | _ => False
theorem it_core {C : Cn} {sl tm : List Sl} {s : Sl} {j : Int} {v : V} {Θ : List V} {σ : L2.St} {H : Hp} {l : Bool} {ds : List D} (R : Rel C ⟨sl, s :: tm, j⟩ (v :: Θ) σ H) (e : frzSeq l s = some ds) : ∃ a vs, v = .ref a ∧ H a = some (hoq l vs) ∧ Rel C ⟨sl, .fz (dq l ds) :: tm, j⟩ (v :: Θ) σ H := by
  have R2 : Rel C ⟨sl, .fz (dq l ds) :: tm, j⟩ (v :: Θ) σ H := by
    cases s with
    | fz d => rw [← seqD_eq (d := d) e]; exact R
    | ow b d => rw [← seqD_eq (d := d) e]; exact R.frzT
    | jk => cases e
    | dc m => cases e
    | dt m => cases e
    | sh m => cases e
    | xv _ _ m => cases e
    | ho _ _ => cases e
    | xw _ _ => cases e
    | io d => cases e
    | al i π => cases e
    | pu => cases e
  obtain ⟨a, vs, rfl, ha, _, _⟩ := R2.item (l := l) (ds := ds) rfl
  exact ⟨a, vs, rfl, ha, R2⟩
theorem so_itL (h : SoE xc t k) : SoI xc (iList K t) (kIt true k) := fun γ Θ σ H Rr q R hk w => h γ Θ σ H _ _ R hk fun γ1 v H1 hk1 R1 => by
  obtain ⟨sl, tm, j⟩ := γ1
  dsimp only at hk1
  split at hk1
  · rename_i s tm
    obtain ⟨ds, e, hq, et⟩ := elimF hk1
    subst et
    obtain ⟨a, vs, rfl, ha, R2⟩ := it_core R1 e
    refine ⟨a, rfl, ⟨vs, SqL.of ha⟩, w _ ds _ _ H1 hq popD_one (itD_list (l := true) _ fun i H xs hx => ⟨fun x ex => ⟨xs, x, SqL.of hx, ex⟩, fun x H3 hy => ⟨hy.1, hy.2 xs (SqL.of hx)⟩, fun hi => ⟨xs, SqL.of hx, hi⟩⟩) R2⟩
  · exact hk1.elim
theorem so_itT (h : SoE xc t k) : SoI xc (iTup K t) (kIt false k) := fun γ Θ σ H Rr q R hk w => h γ Θ σ H _ _ R hk fun γ1 v H1 hk1 R1 => by
  obtain ⟨sl, tm, j⟩ := γ1
  dsimp only at hk1
  split at hk1
  · rename_i s tm
    obtain ⟨ds, e, hq, et⟩ := elimF hk1
    subst et
    obtain ⟨a, vs, rfl, ha, R2⟩ := it_core R1 e
    refine ⟨a, rfl, ⟨vs, SqT.of ha⟩, w _ ds _ _ H1 hq popD_one (itD_list (l := false) _ fun i H xs hx => ⟨fun x ex => ⟨xs, x, SqT.of hx, ex⟩, fun x H3 hy => ⟨hy.1, hy.2 xs (SqT.of hx)⟩, fun hi => ⟨xs, SqT.of hx, hi⟩⟩) R2⟩
  · exact hk1.elim
theorem itD_range {C : Cn} {tm : List Sl} {Ψ : List V} (a b : Int) : ItD C (Itr a (b - a).toNat) ((rg a b).map PyData.int) tm Ψ := fun E Φ i sl n σ H ee R => by
  refine ⟨fun d e => ?_, fun hi => ?_⟩
  · rw [List.getElem?_map] at e
    have hi : i < (b - a).toNat := by
      rcases Nat.lt_or_ge i (b - a).toNat with z | z
      · exact z
      · rw [List.getElem?_eq_none (by rw [rg_length]; omega)] at e
        cases e
    have er : (rg a b)[i]? = some (a + i) := by
      unfold rg
      rw [List.getElem?_map, List.getElem?_range hi]
      rfl
    rw [er] at e
    cases e
    refine ⟨hi, fun x H3 hy => ?_⟩
    obtain ⟨rfl, rfl⟩ := hy
    exact R.push fun Z => .int _
  · rw [List.length_map, rg_length] at hi
    exact hi
def kRng1 (ke : KE) : KI := fun γ q => ke γ fun γ1 => popI γ1 fun j γ2 => (-1000000000000 ≤ j ∧ j ≤ 1000000000000) ∧ q ((rg 0 j).map PyData.int) γ2 ∧ γ2.tm = γ.tm
def kRng2 (ka kb : KE) : KI := fun γ q => ka γ fun γ1 => kb γ1 fun γ2 => popI γ2 fun j γ3 => popI γ3 fun i γ4 => (-1000000000000 ≤ i ∧ i ≤ 1000000000000 ∧ -1000000000000 ≤ j ∧ j ≤ 1000000000000) ∧ q ((rg i j).map PyData.int) γ4 ∧ γ4.tm = γ.tm
theorem so_rng1 (h : SoE xc t k) : SoI xc (iRng1 (tCons t tNil)) (kRng1 k) := fun γ Θ σ H Rr q R hk w => h γ Θ σ H _ _ R hk fun γ1 v H1 hk1 R1 => by
  obtain ⟨j, γ2, rfl, ⟨⟨b1, b2⟩, hq, et⟩, R2⟩ := popI_ok R1 hk1
  have e : (2 : Int) ^ 62 = 4611686018427387904 := by decide
  refine ⟨j, rfl, by omega, by omega, ?_⟩
  have := w (Itr 0 j.toNat) _ γ2 Θ H1 hq (popD_refl et) (by have := itD_range (C := C) (tm := γ2.tm) (Ψ := Θ) 0 j; simpa using this) R2
  exact this
section
variable {s1 s2 : TS} {p1 p2 : KS} {g1 g2 : TG} {e1 e2 : KG}
def okS : Sl → Bool
  | .al _ _ => false
  | _ => true
def kgName (i : Nat) : KG := fun γ q => match γ.tm with
  | s :: tm => (okS s = true ∧ noAl i tm = true) ∧ q ⟨γ.sl.set i s, tm, γ.n⟩
  | _ => False
theorem okS_ne {s : Sl} (h : okS s = true) : ∀ i π, s ≠ .al i π := fun i π z => by subst z; cases h
theorem so_gname {i : Nat} : SoG xc (gName i) (kgName i) := fun γ v Θ σ H Q q R hk w => by
  obtain ⟨sl, tm, j⟩ := γ
  unfold kgName at hk
  dsimp only at hk
  split at hk
  · obtain ⟨⟨h1, h2⟩, hq⟩ := hk
    exact w _ _ _ hq (R.set (okS_ne h1) h2)
  · exact hk.elim
def SoGs {C : Cn} (xc : XC C) (n : Nat) (t : TGs) (k : KG) : Prop := ∀ (γ : VSt) (vs Θ : List V) (σ : L2.St) (H : Hp) (Q : L2.St → Hp → Prop) (q : VSt → Prop), vs.length = n → Rel C γ (vs ++ Θ) σ H → k γ q → (∀ γ' σ' H', q γ' → Rel C γ' Θ σ' H' → Q σ' H') → t vs σ H Q
def kgNil : KG := fun γ q => q γ
def kgCons (a b : KG) : KG := fun γ q => a γ fun γ1 => b γ1 q
theorem so_gnil : SoGs xc 0 gNil kgNil := fun γ vs Θ σ H Q q el R hk w => by
  match vs, el with
  | [], _ => exact ⟨rfl, w _ _ _ hk R⟩
theorem so_gcons {ts : TGs} {es : KG} (a : SoG xc g1 e1) (b : SoGs xc n ts es) : SoGs xc (n + 1) (gCons g1 ts) (kgCons e1 es) := fun γ vs Θ σ H Q q el R hk w => by
  match vs, el with
  | v :: vs, el => exact ⟨v, vs, rfl, a γ v _ σ H _ _ R hk fun γ1 σ1 H1 hk1 R1 => b γ1 vs Θ σ1 H1 Q q (by simpa using el) R1 hk1 w⟩
/-- (a, b, ..) = a tuple -/
def kgTup (n : Nat) (a : KG) : KG := fun γ q => match γ.tm with
  | s :: tm => (itS s).elim False fun ss => ss.length = n ∧ a ⟨γ.sl, ss ++ tm, γ.n⟩ q
  | _ => False
theorem so_gtup {ts : TGs} {es : KG} (b : SoGs xc n ts es) : SoG xc (gTup K n ts) (kgTup n es) := fun γ v Θ σ H Q q R hk w => by
  obtain ⟨sl, tm, j⟩ := γ
  unfold kgTup at hk
  dsimp only at hk
  split at hk
  · obtain ⟨ss, e, hn, hq⟩ := elimF hk
    obtain ⟨a, vs, rfl, ha, el, R2⟩ := R.unpack e
    exact ⟨a, vs, rfl, SqT.of ha, by omega, b _ vs Θ σ H Q q (by omega) R2 hq w⟩
  · exact hk.elim
def kAsg (ke : KE) (g : KG) : KS := fun γ e => ke γ fun γ1 => g γ1 e.nx
theorem so_asg (a : SoE xc t k) (b : SoG xc g1 e1) : SoS xc (tAsg t g1) (kAsg k e1) := fun γ Θ σ H De e R hk w => a γ Θ σ H _ _ R hk fun γ1 v H1 hk1 R1 => b γ1 v Θ σ H1 _ _ R1 hk1 w.nx
/-- a, b = x, y -/
def kPar (i j : Nat) (ka : KE) : KS := fun γ e => ka γ fun γ1 => match γ1.tm with
  | s2 :: s1 :: tm => (okS s2 = true ∧ okS s1 = true ∧ noAl i tm = true ∧ noAl j tm = true) ∧ e.nx ⟨(γ1.sl.set i s1).set j s2, tm, γ1.n⟩
  | _ => False
theorem so_par {i j : Nat} {ts : TA} (hij : i ≠ j) (a : SoA xc 2 ts ka) : SoS xc (tPar i j ts) (kPar i j ka) := fun γ Θ σ H De e R hk w => a γ Θ σ H _ _ R hk fun γ1 vs H1 el hk1 R1 => by
  obtain ⟨sl, tm, n⟩ := γ1
  dsimp only at hk1
  match vs, el with
  | [v, u], _ =>
    split at hk1
    · rename_i s2 s1 tm
      obtain ⟨⟨q1, q2, q3, q4⟩, hq⟩ := hk1
      have R2 : Rel C ⟨sl, s2 :: s1 :: tm, n⟩ (u :: v :: Θ) σ H1 := R1
      have na : noAl j (s1 :: tm) = true := by
        unfold noAl at q4 ⊢
        rw [List.all_cons, q4, Bool.and_true]
        cases s1 <;> first | rfl | cases q2
      have R3 := (R2.set (okS_ne q1) na).set (i := i) (okS_ne q2) q3
      rw [List.set_comm _ _ (Ne.symm hij), List.set_comm _ _ (Ne.symm hij)] at R3
      exact ⟨v, u, rfl, w.nx _ _ _ hq R3⟩
    · exact hk1.elim
/-- x += e -/
def kAug (i : Nat) (f : Int → Int → Int) (ke : KE) : KS := fun γ e => match γ.sl[i]? with
  | some (.fz (.int a)) => ke γ fun γ1 => popI γ1 fun b γ2 => noAl i γ2.tm = true ∧ e.nx ⟨γ2.sl.set i (.fz (.int (f a b))), γ2.tm, γ2.n⟩
  | _ => False
def kDrop (ke : KE) : KS := fun γ e => ke γ fun γ1 => match γ1.tm with
  | _ :: tm => e.nx ⟨γ1.sl, tm, γ1.n⟩
  | _ => False
theorem so_drop (a : SoE xc t k) : SoS xc (tDrop t) (kDrop k) := fun γ Θ σ H De e R hk w => a γ Θ σ H _ _ R hk fun γ1 v H1 hk1 R1 => by
  obtain ⟨sl, tm, n⟩ := γ1
  dsimp only at hk1
  split at hk1
  · exact w.nx _ _ _ hk1 R1.pop
  · exact hk1.elim
def kRet (ke : KE) : KS := fun γ e => ke γ fun γ1 => match γ1.tm with
  | s :: tm => e.rt s ⟨γ1.sl, tm, γ1.n⟩
  | _ => False
theorem so_ret (a : SoE xc t k) : SoS xc (tRet t) (kRet k) := fun γ Θ σ H De e R hk w => a γ Θ σ H _ _ R hk fun γ1 v H1 hk1 R1 => by
  obtain ⟨sl, tm, n⟩ := γ1
  dsimp only at hk1
  split at hk1
  · exact w.rt _ _ _ _ _ _ hk1 R1
  · exact hk1.elim
def kRetN : KS := fun γ e => e.rt (.fz .none) γ
def kNever : KS := fun _ _ => False
theorem so_never : SoS xc tNever kNever := fun γ Θ σ H De e R hk w => hk.elim
def kNext : KS := fun γ e => e.nx γ
theorem so_next : SoS xc tNext kNext := fun γ Θ σ H De e R hk w => w.nx _ _ _ hk R
def kBreak : KS := fun γ e => e.bk γ
def kCont : KS := fun γ e => e.ct γ
def kSeq (a b : KS) : KS := fun γ e => a γ ⟨fun γ' => b γ' e, e.rt, e.bk, e.ct⟩
theorem so_seq (a : SoS xc s1 p1) (b : SoS xc s2 p2) : SoS xc (tSeq s1 s2) (kSeq p1 p2) := fun γ Θ σ H De e R hk w => a γ Θ σ H _ _ R hk ⟨fun γ' σ' H' h R' => b γ' Θ σ' H' De e R' h w, w.rt, w.bk, w.ct⟩
def kIfS (c : KT) (a b : KS) : KS := fun γ e => c γ fun x γ1 => if x = true then a γ1 e else b γ1 e
theorem so_ifS (c : SoT xc c1 h1) (a : SoS xc s1 p1) (b : SoS xc s2 p2) : SoS xc (tIfS c1 s1 s2) (kIfS h1 p1 p2) := fun γ Θ σ H De e R hk w => c γ Θ σ H _ _ R hk fun x γ1 H1 hk1 R1 => by
  cases x with
  | true => exact a γ1 Θ σ H1 De e R1 (by simpa using hk1) w
  | false => exact b γ1 Θ σ H1 De e R1 (by simpa using hk1) w
/-- for: the items one by one -/
def forL (g : KG) (kb : KS) (tm : List Sl) : List D → VSt → KEd → Prop
  | [], γ, e => e.nx γ
  | d :: ds, γ, e => g ⟨γ.sl, .fz d :: γ.tm, γ.n⟩ fun γ1 => kb γ1 ⟨fun γ2 => γ2.tm = tm ∧ forL g kb tm ds γ2 e, e.rt, fun γ2 => γ2.tm = tm ∧ e.nx γ2, fun γ2 => γ2.tm = tm ∧ forL g kb tm ds γ2 e⟩
def kFor (ki : KI) (g : KG) (kb : KS) : KS := fun γ e => ki γ fun ds γ1 => forL g kb γ1.tm ds γ1 ⟨fun γ2 => e.nx ⟨γ2.sl, γ.tm, γ2.n⟩, e.rt, fun _ => False, fun _ => False⟩
theorem so_for {wi : TI} {ki : KI} (hi : SoI xc wi ki) (hg : SoG xc g1 e1) (hb : SoS xc s1 p1) : SoS xc (tFor wi g1 s1) (kFor ki e1 p1) := fun γ Θ σ H De e R hk w => hi γ Θ σ H _ _ R hk fun J ds γ1 Ψ H1 hq hp hJ R1 => by
  refine ⟨fun i m σ' H' => m = ds.length - i ∧ i ≤ ds.length ∧ ∃ γ', γ'.tm = γ1.tm ∧ forL e1 p1 γ1.tm (ds.drop i) γ' ⟨fun γ2 => e.nx ⟨γ2.sl, γ.tm, γ2.n⟩, e.rt, fun _ => False, fun _ => False⟩ ∧ Rel C γ' Ψ σ' H', ⟨ds.length, rfl, Nat.zero_le _, γ1, rfl, by simpa using hq, R1⟩, ?_⟩
  rintro i m σ' H' ⟨rfl, hi, γ', et, hf, R'⟩
  obtain ⟨sl', tm', n'⟩ := γ'
  dsimp only at et
  subst et
  obtain ⟨j1, j2⟩ := hJ [] [] i sl' n' σ' H' rfl R'
  by_cases hlt : i < ds.length
  · right
    have e2 : ds.drop i = ds[i] :: ds.drop (i + 1) := List.drop_eq_getElem_cons hlt
    rw [e2] at hf
    obtain ⟨g, y⟩ := j1 ds[i] (List.getElem?_eq_getElem hlt)
    refine ⟨g, fun σ2 H2 => ∃ γ2, γ2.tm = γ1.tm ∧ forL e1 p1 γ1.tm (ds.drop (i + 1)) γ2 ⟨fun γ2 => e.nx ⟨γ2.sl, γ.tm, γ2.n⟩, e.rt, fun _ => False, fun _ => False⟩ ∧ Rel C γ2 Ψ σ2 H2, fun σ2 H2 ⟨γ2, a, b, c⟩ => ⟨ds.length - (i + 1), by omega, rfl, hlt, γ2, a, b, c⟩, fun x H3 hy => ?_⟩
    refine hg _ x Ψ σ' H3 _ _ (y x H3 hy) hf fun γ3 σ3 H4 hb3 R3 => ?_
    refine hb γ3 Ψ σ3 H4 _ _ R3 hb3 ⟨fun γ' σ' H' h R' => ⟨γ', h.1, h.2, R'⟩, w.rt, fun γ' σ' H' h R' => ?_, fun γ' σ' H' h R' => ⟨γ', h.1, h.2, R'⟩⟩
    obtain ⟨sl, tm, n⟩ := γ'
    obtain ⟨et, hx⟩ := h
    dsimp only at et hx
    subst et
    exact w.nx _ _ _ hx (hp [] [] _ _ _ _ rfl (fun _ m => nomatch m) R')
  · left
    have e0 : i = ds.length := by omega
    refine ⟨j2 (by omega), ?_⟩
    rw [e0, List.drop_length] at hf
    exact w.nx _ _ _ hf (hp [] [] _ _ _ _ rfl (fun _ m => nomatch m) R')
end
end
end G
namespace G
open PySem PySem.Spec PyProof.Rows L2
variable {C : Cn} {xc : XC C}
section
variable {t t1 t2 ta tb tc : TE} {k k1 k2 ka kb kc ko : KE} {n m : Nat} {c1 c2 : TT} {h1 h2 : KT} {K : PySem.W.Frag}
/-- the list that is made, one item more -/
theorem Rel.grow {C : Cn} {sl tm : List Sl} {s : Sl} {b cb : Bool} {es : List D} {cd : D} {j : Int} {u v : V} {Θ : List V} {σ : L2.St} {H : Hp} (R : Rel C ⟨sl, s :: .ow b (.list es) :: tm, j⟩ (u :: v :: Θ) σ H) (ec : con s = some (cb, cd)) :
    ∃ a vs, v = .ref a ∧ H a = some (.lst vs) ∧ vs.length = es.length ∧ Rel C ⟨sl, .ow (b && cb) (.list (es ++ [cd])) :: tm, j⟩ (v :: Θ) σ (upd H a (.lst (vs ++ [u]))) := by
  obtain ⟨Z, S1, S2, X⟩ := R
  obtain ⟨A, B, en, X1, f⟩ := RelX.popF (ss := [s, .ow b (.list es)]) (us := [u, v]) X rfl
  -- the two of them
  obtain ⟨A1, A2, e1, e2, rfl⟩ : ∃ A1 A2, Ent C Z H A1 (some u) s ∧ Ent C Z H A2 (some v) (.ow b (.list es)) ∧ A = A1 ++ A2 := by
    cases en with
    | cons e1 e2 =>
      cases e2 with
      | cons e2 e3 =>
        cases e3
        exact ⟨_, _, e1, e2, by simp⟩
  have ti := e1.con ec
  have key : ∃ a vs T, v = .ref a ∧ H a = some (.lst vs) ∧ A2 = a :: T ∧ Trs H (rgn b Z) T vs es := by
    cases e2 with
    | ow t =>
      cases t with
      | lst q ts => exact ⟨_, _, _, rfl, q, rfl, ts⟩
      | lstZ z _ _ => exact z.elim
    | sp q ts => exact ⟨_, _, _, rfl, q, rfl, ts⟩
  obtain ⟨a, vs, T, rfl, ha, rfl, ts⟩ := key
  have cnt : ∀ x, List.count x A1 + (List.count x [a] + List.count x T) + (List.count x S1 + List.count x B) ≤ 1 := fun x => by
    have := nodup_cnt.mp f.nd x
    rw [List.count_append, List.count_append, List.count_append, ← List.singleton_append, List.count_append] at this
    omega
  have cpos : ∀ {x : Addr} {l : List Addr}, x ∈ l → 0 < List.count x l := fun h => List.count_pos_iff.mpr h
  have ca : List.count a [a] = 1 := by simp
  have out : ∀ {x : Addr} {l : List Addr}, x ∈ l → (∀ y, List.count y l ≤ List.count y A1 + List.count y T + List.count y S1 + List.count y B) → x ≠ a := fun {x l} m h z => by
    subst z
    have := cpos m
    have := h x
    have := cnt x
    omega
  have aZ : ¬ C.tz Z a := (f.ok a (by simp)).1
  have nA : ∀ x ∈ A1, x ≠ a := fun x m => out m fun y => by omega
  have nT : ∀ x ∈ T, x ≠ a := fun x m => out m fun y => by omega
  have nS : ∀ x ∈ S1, x ≠ a := fun x m => out m fun y => by omega
  have nB : ∀ x ∈ B, x ≠ a := fun x m => out m fun y => by omega
  have el := ts.length
  refine ⟨a, vs, rfl, ha, el, ?_⟩
  have kt : ∀ t xs, H t = some (.tup xs) → upd H a (.lst (vs ++ [u])) t = some (.tup xs) := fun t xs et => by
    rw [upd_ne (show t ≠ a from fun z => by rw [z, ha] at et; cases et)]
    exact et
  have kne : ∀ x, x ≠ a → ∀ o, H x = some o → upd H a (.lst (vs ++ [u])) x = some o := fun x q o eo => by
    rw [upd_ne q]
    exact eo
  have kz0 : ∀ x, C.tz Z x → ∀ o, H x = some o → upd H a (.lst (vs ++ [u])) x = some o := fun x z o eo => kne x (fun q => aZ (q ▸ z)) o eo
  have kz : ∀ x, Z x → ∀ o, H x = some o → upd H a (.lst (vs ++ [u])) x = some o := fun x z => kz0 x (.inl z)
  have X2 : RelX C Z S1 B ⟨sl, tm, j⟩ Θ σ (upd H a (.lst (vs ++ [u]))) := by
    refine ⟨fun x o e m => ⟨(X1.fr x o e m).1, kz0 x (X1.fr x o e m).1 o (X1.fr x o e m).2⟩, X1.es.mono kt (fun _ z => z) kz fun x m => kne x (nS x m), X1.et.mono kt (fun _ z => z) kz fun x m => kne x (nB x m), X1.nd, X1.nz, fun q b e => ⟨(X1.pu q b e).1.mono fun o eo => kne q ?_ o eo, (X1.pu q b e).2⟩, fun x z => ?_, X1.dj, fun k i π w e ev => ?_⟩
    · exact fun z => (f.ok a (by simp)).2.1 q b e z.symm
    · obtain ⟨o, e⟩ := X1.ex x z
      exact ⟨o, kz0 x z o e⟩
    · obtain ⟨s, d', e', w', g1, g2, g3, g4, wk⟩ := X1.al k i π w e ev
      obtain ⟨w2, T', ew, t, sub⟩ := X1.slot g1 g2
      rw [g4] at ew
      cases ew
      exact ⟨s, d', e', w', g1, g2, g3, g4, (Tr.part t g3 wk).2 _ kt fun x z => z.elim (kz x) fun m => kne x (nS x (sub x m))⟩
  have t1 : Trs (upd H a (.lst (vs ++ [u]))) (rgn (b && cb) Z) (T ++ (A1 ++ [])) (vs ++ [u]) (es ++ [cd]) := by
    refine ((ts.upd ha (fun z => aZ (.inl z)) nT).weak (rgn_mono fun z => ?_)).append (.cons ((ti.upd ha (fun z => aZ (.inl z)) nA).weak (rgn_mono fun z => ?_)) .nil)
    · rw [Bool.and_eq_true] at z; exact z.1
    · rw [Bool.and_eq_true] at z; exact z.2
  have f2 : Fl C Z S1 B (upd H a (.lst (vs ++ [u]))) (a :: (T ++ (A1 ++ []))) := by
    refine ⟨nodup_cnt.mpr fun x => ?_, fun x m => ?_⟩
    · have := cnt x
      rw [List.append_nil, List.cons_append, ← List.singleton_append, List.count_append, List.count_append, List.count_append, List.count_append]
      omega
    · have mA : x ∈ A1 ++ a :: T := by
        rcases List.mem_cons.mp m with rfl | m
        · simp
        · rcases List.mem_append.mp m with m | m
          · exact List.mem_append_right _ (List.mem_cons_of_mem _ m)
          · exact List.mem_append_left _ (by simpa using m)
      obtain ⟨q1, q2, xs, eo⟩ := f.ok x mA
      refine ⟨q1, q2, ?_⟩
      by_cases hx : x = a
      · exact ⟨_, by rw [hx]; exact upd_same⟩
      · exact ⟨xs, kne x hx _ eo⟩
  have en' : Ent C Z (upd H a (.lst (vs ++ [u]))) (a :: (T ++ (A1 ++ []))) (some (.ref a)) (.ow (b && cb) (.list (es ++ [cd]))) := by
    cases hb : (b && cb) with
    | true =>
      rw [hb] at t1
      exact .ow (.lst upd_same t1)
    | false =>
      rw [hb] at t1
      exact .sp upd_same t1
  exact ⟨_, _, _, X2.pushF f2 (Dr := []) (by simp) en' (fun i π z => nomatch z)⟩
/-- [e for x in xs if t] -/
def lcL (j : Nat) (kt : KT) (ke : KE) : List D → VSt → (VSt → Prop) → Prop
  | [], γ, q => q γ
  | d :: ds, γ, q => noAl j γ.tm = true ∧ kt ⟨γ.sl.set j (.fz d), γ.tm, γ.n⟩ fun b γ1 => γ1.tm = γ.tm ∧ if b = true then ke γ1 fun γ2 => match γ2.tm with
      | s :: .ow b0 (.list es) :: tm => (con s).elim False fun c => (noAl j tm = true ∧ tm = γ.tm.tail ∧ es.length < 10000000) ∧ lcL j kt ke ds ⟨γ2.sl.set j .jk, .ow (b0 && c.1) (.list (es ++ [c.2])) :: tm, γ2.n⟩ q
      | _ => False
    else lcL j kt ke ds ⟨γ1.sl.set j .jk, γ1.tm, γ1.n⟩ q
def kLc (ki : KI) (j : Nat) (kt : KT) (ke : KE) : KE := fun γ q => ki γ fun ds γ1 => noAl j γ1.tm = true ∧ lcL j kt ke ds ⟨γ1.sl.set j .jk, .ow true (.list []) :: γ1.tm, γ1.n⟩ fun γ2 => match γ2.tm with
  | s :: tm => (okS s = true ∧ tm = γ1.tm) ∧ q ⟨γ2.sl, s :: γ.tm, γ2.n⟩
  | _ => False
/-- what stands at a name that is forgotten does not matter -/
theorem Rel.jkσ {C : Cn} {γ : VSt} {Θ : List V} {σ σ' : L2.St} {H : Hp} {j : Nat} (R : Rel C γ Θ σ H) (e : γ.sl[j]? = some .jk ∨ γ.sl[j]? = none) (na : noAl j γ.tm = true) (hs : σ = σ'.set j none) : Rel C γ Θ σ' H := by
  obtain ⟨sl, tm, n⟩ := γ
  dsimp only at e na
  rcases e with e | e
  · have R2 := R.jk (i := j) na ((σ'[j]?).getD none)
    have e1 : sl.set j .jk = sl := by
      refine List.ext_getElem? fun i => ?_
      by_cases hi : j = i
      · subst hi
        rw [List.getElem?_set_self (List.getElem?_eq_some_iff.mp e).1, e]
      · rw [List.getElem?_set_ne hi]
    have e2 : σ.set j ((σ'[j]?).getD none) = σ' := by
      subst hs
      rw [List.set_set]
      refine List.ext_getElem? fun i => ?_
      by_cases hi : j = i
      · subst hi
        rcases Nat.lt_or_ge j σ'.length with z | z
        · rw [List.getElem?_set_self z, List.getElem?_eq_getElem z]
          rfl
        · rw [List.getElem?_eq_none (by rw [List.length_set]; exact z), List.getElem?_eq_none z]
      · rw [List.getElem?_set_ne hi]
    rw [e1, e2] at R2
    exact R2
  · have e2 : σ = σ' := by
      rw [hs]
      refine List.set_eq_of_length_le ?_
      have l1 : sl.length ≤ j := List.getElem?_eq_none_iff.mp e
      obtain ⟨Z, S1, S2, X⟩ := R
      have l2 := X.es.length
      change σ.length = sl.length at l2
      rw [hs, List.length_set] at l2
      omega
    rw [← e2]
    exact R
theorem set_jk (sl : List Sl) (j : Nat) : (sl.set j .jk)[j]? = some .jk ∨ (sl.set j .jk)[j]? = none := by
  rcases Nat.lt_or_ge j sl.length with z | z
  · exact .inl (List.getElem?_set_self z)
  · exact .inr (List.getElem?_eq_none (by rw [List.length_set]; exact z))
theorem noAl_cons {j : Nat} {s : Sl} {tm : List Sl} (h : noAl j tm = true) (hs : okS s = true) : noAl j (s :: tm) = true := by
  unfold noAl at h ⊢
  rw [List.all_cons, h, Bool.and_true]
  cases s <;> first | rfl | cases hs
theorem so_lc {wi : TI} {ki : KI} {j : Nat} {tt : TT} {kt : KT} {te : TE} {ke : KE} (hi : SoI xc wi ki) (ht : SoT xc tt kt) (he : SoE xc te ke) : SoE xc (tLc wi (gName j) tt te [j]) (kLc ki j kt ke) := fun γ Θ σ H Q q R hk w => hi γ Θ σ H _ _ R hk fun J ds γ1 Ψ H1 hq hp hJ R1 => by
  obtain ⟨na, hq⟩ := hq
  obtain ⟨sl1, tm1, n1⟩ := γ1
  dsimp only at hq na hJ
  intro D hD
  have R2 := (R1.jk (i := j) na none).ints hD []
  refine ⟨fun i m H' => m = ds.length - i ∧ i ≤ ds.length ∧ ∃ sl b es n, lcL j kt ke (ds.drop i) ⟨sl, .ow b (.list es) :: tm1, n⟩ (fun γ2 => match γ2.tm with | s :: tm => (okS s = true ∧ tm = tm1) ∧ q ⟨γ2.sl, s :: γ.tm, γ2.n⟩ | _ => False) ∧ (sl[j]? = some .jk ∨ sl[j]? = none) ∧ Rel C ⟨sl, .ow b (.list es) :: tm1, n⟩ (.ref D :: Ψ) (σ.set j none) H', ⟨ds.length, rfl, Nat.zero_le _, _, true, [], n1, by simpa using hq, set_jk _ _, R2⟩, ?_⟩
  rintro i m H' ⟨rfl, hi, sl, b, es, n, hf, hjk, R'⟩
  obtain ⟨j1, j2⟩ := hJ [.ow b (.list es)] [.ref D] i sl n _ H' rfl R'
  by_cases hlt : i < ds.length
  · right
    have e2 : ds.drop i = ds[i] :: ds.drop (i + 1) := List.drop_eq_getElem_cons hlt
    rw [e2] at hf
    obtain ⟨na1, hf⟩ := hf
    obtain ⟨g, y⟩ := j1 ds[i] (List.getElem?_eq_getElem hlt)
    have na2 : noAl j (.ow b (.list es) :: tm1) = true := na1
    refine ⟨g, fun H2 => ∃ sl b es n, lcL j kt ke (ds.drop (i + 1)) ⟨sl, .ow b (.list es) :: tm1, n⟩ (fun γ2 => match γ2.tm with | s :: tm => (okS s = true ∧ tm = tm1) ∧ q ⟨γ2.sl, s :: γ.tm, γ2.n⟩ | _ => False) ∧ (sl[j]? = some .jk ∨ sl[j]? = none) ∧ Rel C ⟨sl, .ow b (.list es) :: tm1, n⟩ (.ref D :: Ψ) (σ.set j none) H2, fun H2 h2 => ⟨ds.length - (i + 1), by omega, rfl, hlt, h2⟩, fun x H3 hy => ?_⟩
    refine ⟨by show ((σ.set j none).set j _).set j none = σ.set j none; rw [List.set_set, List.set_set], ?_⟩
    have R3 : Rel C ⟨sl.set j (.fz ds[i]), .ow b (.list es) :: tm1, n⟩ (.ref D :: Ψ) ((σ.set j none).set j (some x)) H3 := (y x H3 hy).set (fun i π z => nomatch z) na2
    refine ht _ _ _ H3 _ _ R3 hf fun c γ2 H4 hk4 R4 => ?_
    obtain ⟨et, hk4⟩ := hk4
    obtain ⟨sl2, tm2, n2⟩ := γ2
    dsimp only at et
    subst et
    have back : ∀ {sl : List Sl} {tm : List Sl} {n : Int} {Θ : List V} {H : Hp}, noAl j tm = true → Rel C ⟨sl, tm, n⟩ Θ ((σ.set j none).set j (some x)) H → Rel C ⟨sl.set j .jk, tm, n⟩ Θ (σ.set j none) H := fun hna R => by
      have := R.jk (i := j) hna none
      rw [List.set_set, List.set_set] at this
      exact this
    cases c with
    | false =>
      rw [if_neg (by simp)] at hk4 ⊢
      exact ⟨_, _, _, _, hk4, set_jk _ _, back na2 R4⟩
    | true =>
      rw [if_pos rfl] at hk4 ⊢
      refine he _ _ _ H4 _ _ R4 hk4 fun γ5 y5 H5 hk5 R5 => ?_
      obtain ⟨sl5, tm5, n5⟩ := γ5
      dsimp only at hk5
      split at hk5
      · rename_i s b0 es0 tm
        obtain ⟨⟨cb, cd⟩, ec, ⟨na5, et5, hl⟩, hk6⟩ := elimF hk5
        simp only [List.tail_cons] at et5
        subst et5
        obtain ⟨a, vs, ea, ha, el, R6⟩ := R5.grow ec
        cases ea
        exact ⟨vs, ha, szlt (by omega), _, _, _, _, hk6, set_jk _ _, back (noAl_cons na5 rfl) R6⟩
      · exact hk5.elim
  · left
    have e0 : i = ds.length := by omega
    refine ⟨j2 (by omega), ?_⟩
    rw [e0, List.drop_length] at hf
    obtain ⟨⟨h1, _⟩, hq⟩ := hf
    have R3 := R'.jkσ hjk (noAl_cons na rfl) rfl
    have R4 := hp [.ow b (.list es)] [.ref D] _ _ _ _ rfl (fun s m i π => by
      simp only [List.mem_singleton] at m
      subst m
      exact fun z => nomatch z) R3
    exact w _ _ _ hq R4
def enumD : Nat → List D → List D
  | _, [] => []
  | k, d :: ds => .tuple [.int k, d] :: enumD (k + 1) ds
def kEnum (ke : KE) : KI := fun γ q => ke γ fun γ1 => match γ1.tm with
  | s :: tm => (frzSeq true s).elim False fun ds => q (enumD 0 ds) ⟨γ1.sl, .fz (.list ds) :: tm, γ1.n⟩ ∧ tm = γ.tm
  | _ => False
def zipD : List D → List D → List D
  | d :: ds, e :: es => .tuple [d, e] :: zipD ds es
  | _, _ => []
def kZip (ka kb : KE) : KI := fun γ q => ka γ fun γ1 => kb γ1 fun γ2 => match γ2.tm with
  | s2 :: .fz (.list ds) :: tm => (frzSeq true s2).elim False fun es => q (zipD ds es) ⟨γ2.sl, .fz (.list es) :: .fz (.list ds) :: tm, γ2.n⟩ ∧ tm = γ.tm
  | _ => False
/-- what is returned: new -/
def rtN (G : D → Prop) : Sl → Prop
  | .fz d => nolist d = true ∧ G d
  | .ow true d => G d
  | _ => False
def edT (G : D → Prop) : KEd := ⟨fun _ => G .none, fun s _ => rtN G s, fun _ => False, fun _ => False⟩
def edP (G : D → Prop) : KEd := ⟨fun γ => 0 ≤ γ.n ∧ G .none, fun s γ => 0 ≤ γ.n ∧ rtN G s, fun _ => False, fun _ => False⟩
theorem Rel.start {H : Hp} {S : List Addr} {vs : List V} {ds : List D} {N : List Str} (r : Reps H S vs ds) (pu : Option (Addr × Int)) (ok : ∀ p b, pu = some (p, b) → b ≤ 2 ^ 100) (n : Int) (hpu : ∀ p b, pu = some (p, b) → PuAt H p (b - n) ∧ p ∉ S) (us : List V) (ss : List Sl)
    (hu : (us = [] ∧ ss = []) ∨ ∃ p b, pu = some (p, b) ∧ us = [.ref p] ∧ ss = [.pu]) (hN : (us ++ vs).length ≤ N.length) :
    Rel ⟨H, fun a => ∃ b, pu = some (a, b), pu, ok, none, noReg⟩ ⟨ss ++ ds.map Sl.fz ++ List.replicate (N.length - (us ++ vs).length) .jk, [], n⟩ [] (L2.start N (us ++ vs)) H := by
  have jks : ∀ (k : Nat) {C : Cn} {Z : Reg}, Ents C Z H [] (List.replicate k none) (List.replicate k .jk) := fun k => by
    induction k with
    | zero => exact .nil
    | succ k ih => exact .cons (S := []) (.jk _) ih
  refine ⟨fun a => (∃ o, H a = some o) ∧ ∀ p b, pu = some (p, b) → a ≠ p, [], [], ⟨fun a o e m => ⟨.inl ⟨⟨o, e⟩, fun p b q z => m ⟨b, z ▸ q⟩⟩, e⟩, ?_, .nil, List.nodup_nil, fun a m => (nomatch m), fun p b q => ⟨(hpu p b q).1, fun z => z.elim (fun z => z.2 p b q rfl) id, fun m => (nomatch m)⟩, fun a z => z.elim (fun z => z.1) False.elim, fun _ _ z => z, fun k i π v e => by simp at e⟩⟩
  have tr := Reps.tr (Z := noReg) _ _ _ r
  have fz := Trs.fzs (C := ⟨H, fun a => ∃ b, pu = some (a, b), pu, ok, none, noReg⟩) (Z := fun a => (∃ o, H a = some o) ∧ ∀ p b, pu = some (p, b) → a ≠ p) (Trs.freeze (Z' := fun a => (∃ o, H a = some o) ∧ ∀ p b, pu = some (p, b) → a ≠ p) (fun _ z => z.elim) _ _ _ tr fun a m => ⟨by
    obtain ⟨xs, e⟩ := Reps.dom _ _ _ r a m
    exact ⟨_, e⟩, fun p b q z => (hpu p b q).2 (z ▸ m)⟩) rfl
  show Ents _ _ H [] (L2.start N (us ++ vs)) (ss ++ ds.map Sl.fz ++ List.replicate (N.length - (us ++ vs).length) .jk)
  unfold L2.start
  rw [List.map_append]
  have mid := Ents.append fz (jks (N.length - (us ++ vs).length))
  rcases hu with ⟨rfl, rfl⟩ | ⟨p, b, q, rfl, rfl⟩
  · simpa using mid
  · exact .cons (S := []) (.pu q) mid
theorem Rel.outN {C : Cn} {sl tm : List Sl} {s : Sl} {n : Int} {v : V} {Θ : List V} {σ : L2.St} {H : Hp} {G : D → Prop} (R : Rel C ⟨sl, s :: tm, n⟩ (v :: Θ) σ H) (h : rtN G s) (hM : ∀ a, C.M a → ∃ b, C.pu = some (a, b)) : ∃ d, G d ∧ New C.H0 H v d := by
  obtain ⟨Z, S1, S2, X⟩ := R
  obtain ⟨A, B, en, X1, f⟩ := RelX.popF (ss := [s]) (us := [v]) X rfl
  obtain ⟨A', e1, rfl⟩ : ∃ A', Ent C Z H A' (some v) s ∧ A = A' := by
    cases en with
    | cons e1 e2 =>
      cases e2
      exact ⟨_, e1, by simp⟩
  have new : ∀ a ∈ A, C.H0 a = none := fun a m => by
    cases q : C.H0 a with
    | none => rfl
    | some o =>
      exfalso
      by_cases hm : C.M a
      · obtain ⟨b, eb⟩ := hM a hm
        exact (f.ok a m).2.1 a b eb rfl
      · exact (f.ok a m).1 (X1.fr a o q hm).1
  cases e1 with
  | jk v => cases h
  | al v i π => cases h
  | pu q => cases h
  | io t q => cases h
  | dc _ _ => cases h
  | dt _ _ => cases h
  | sh _ _ => cases h
  | xv _ _ => cases h
  | ho _ _ _ => cases h
  | xw _ => cases h
  | sp q t => cases h
  | fz t =>
    obtain ⟨hn, hG⟩ := h
    exact ⟨_, hG, [], Tr.repO _ _ _ (Tr.nolist (Z' := noReg) _ _ _ t hn).2, List.nodup_nil, fun a m => nomatch m⟩
  | ow t => exact ⟨_, h, A, Tr.repO _ _ _ t, (List.nodup_append.mp f.nd).1, new⟩
section
variable {P : Program} {w : World} {mg : Str → Option Value} {base : Heap} {kl : Nat} {f : Addr} {fd : FuncData} {ps : List Str}
/-- a def that changes nothing, by the values of its body -/
theorem okT {x qual : Str} {st : Stmt} {N : List Str} {W : Tw} {kb : KS} (F : Fun K x qual st f fd) (S : FnScope N ps (defScope st)) (hN : ps.length ≤ N.length) (har : ∀ ds G, W ds G → ds.length = ps.length)
    (hb : ∀ (cdv : Value) (A : Around) (outer : List Env) (s : Shared) (H : Hp) (E : XK), Bare (A.deeper (envOfC qual (defScope st) s.heap.objs.size f cdv)) → Room kl (A.deeper (envOfC qual (defScope st) s.heap.objs.size f cdv)) → ∃ t, PSs (cxOf CX0 P w K mg base N qual (defScope st) f cdv A outer s H E).nox (defBody st) t ∧ ∀ (C : Cn) (xc : XC C), SoS xc t kb)
    (val : ∀ ds G, W ds G → kb ⟨ds.map Sl.fz ++ List.replicate (N.length - ps.length) .jk, [], 0⟩ (edT G)) : FnG P w K mg base CX0 (kl + 1) f fd ps (spT W) := by
  refine okG F S (fun vs H Q E h => ?_) (fun cdv A outer s H vs Q E hg hr h => ?_)
  · obtain ⟨S, ds, Gq, r, hw, _⟩ := h
    rw [r.length]
    exact har _ _ hw
  · obtain ⟨t, hp, so⟩ := hb cdv A outer s H E hg hr
    obtain ⟨S, ds, Gq, r, hw, hk⟩ := h
    have el := r.length
    have ea := har _ _ hw
    refine ⟨t, hp, so ⟨H, fun a => ∃ b, (none : Option (Addr × Int)) = some (a, b), none, fun _ _ z => (nomatch z), none, noReg⟩ (noXC _) _ [] _ H _ (edT Gq) (by simpa using Rel.start (N := N) r none (fun _ _ z => nomatch z) 0 (fun _ _ z => nomatch z) [] [] (.inl ⟨rfl, rfl⟩) (by simp; omega)) (by rw [el, ea]; exact val ds Gq hw) ⟨fun γ' σ' H' hn R => ?_, fun s γ' v Θ' σ' H' hr R => ?_, fun _ _ _ z _ => z.elim, fun _ _ _ z _ => z.elim⟩⟩
    · obtain ⟨Z, S1, S2, X⟩ := R
      exact hk _ _ _ hn (fun a o e => (X.fr a o e (fun ⟨b, z⟩ => nomatch z)).2) ⟨[], .non, List.nodup_nil, fun a m => nomatch m⟩
    · obtain ⟨d, hG, nw⟩ := R.outN hr (fun a m => m)
      obtain ⟨Z, S1, S2, X⟩ := R
      exact hk _ _ _ hG (fun a o e => (X.fr a o e (fun ⟨b, z⟩ => nomatch z)).2) nw
/-- a def that draws from the purse, its first argument -/
theorem okP {x qual : Str} {st : Stmt} {N : List Str} {W : Tw} {kb : KS} {c : Int} (F : Fun K x qual st f fd) (S : FnScope N ps (defScope st)) (hN : ps.length ≤ N.length) (har : ∀ ds G, W ds G → ds.length + 1 = ps.length) (hc : 0 ≤ c)
    (hb : ∀ (cdv : Value) (A : Around) (outer : List Env) (s : Shared) (H : Hp) (E : XK), Bare (A.deeper (envOfC qual (defScope st) s.heap.objs.size f cdv)) → Room kl (A.deeper (envOfC qual (defScope st) s.heap.objs.size f cdv)) → ∃ t, PSs (cxOf CX0 P w K mg base N qual (defScope st) f cdv A outer s H E).nox (defBody st) t ∧ ∀ (C : Cn) (xc : XC C), SoS xc t kb)
    (val : ∀ ds G, W ds G → kb ⟨.pu :: (ds.map Sl.fz ++ List.replicate (N.length - ps.length) .jk), [], c⟩ (edP G)) : FnG P w K mg base CX0 (kl + 1) f fd ps (spP c W) := by
  refine okG F S (fun vs H Q E h => ?_) (fun cdv A outer s H vs Q E hg hr h => ?_)
  · obtain ⟨p, b, vs', S, ds, Gq, rfl, _, _, r, _, hw, _⟩ := h
    rw [List.length_cons, r.length]
    exact har _ _ hw
  · obtain ⟨t, hp, so⟩ := hb cdv A outer s H E hg hr
    obtain ⟨p, b, vs', S, ds, Gq, rfl, hpu, hb, r, np, hw, hk⟩ := h
    have el := r.length
    have ea := har _ _ hw
    have ok : ∀ q b', (some (p, b + c) : Option (Addr × Int)) = some (q, b') → b' ≤ 2 ^ 100 := fun q b' z => by cases z; omega
    have e0 : b + c - c = b := by omega
    refine ⟨t, hp, so ⟨H, fun a => ∃ b', (some (p, b + c) : Option (Addr × Int)) = some (a, b'), some (p, b + c), ok, none, noReg⟩ (noXC _) _ [] _ H _ (edP Gq) (Rel.start (N := N) r (some (p, b + c)) ok c (fun q b' z => by cases z; exact ⟨e0.symm ▸ hpu, np⟩) [.ref p] [.pu] (.inr ⟨p, b + c, rfl, rfl, rfl⟩) (by simp; omega)) ?_ ⟨fun γ' σ' H' hn R => ?_, fun s γ' v Θ' σ' H' hr R => ?_, fun _ _ _ z _ => z.elim, fun _ _ _ z _ => z.elim⟩⟩
    · have e1 : ([V.ref p] ++ vs').length = ps.length := by simp; omega
      rw [e1]
      exact val ds Gq hw
    · obtain ⟨Z, S1, S2, X⟩ := R
      exact hk _ _ _ hn.2 (fun a o e ne => (X.fr a o e (fun ⟨b, z⟩ => by cases z; exact ne rfl)).2) ((X.pu p _ rfl).1.le (by have := hn.1; omega)) ⟨[], .non, List.nodup_nil, fun a m => nomatch m⟩
    · obtain ⟨d, hG, nw⟩ := R.outN hr.2 (fun a m => m)
      obtain ⟨Z, S1, S2, X⟩ := R
      exact hk _ _ _ hG (fun a o e ne => (X.fr a o e (fun ⟨b, z⟩ => by cases z; exact ne rfl)).2) ((X.pu p _ rfl).1.le (by have := hr.1; dsimp only; omega)) nw
end
abbrev TwI := List D → (D → D → Prop) → Prop
def spI (W : TwI) : Sp := fun vs H Q _ => ∃ v0 vs' S T d0 ds G, vs = v0 :: vs' ∧ Rep H S v0 d0 ∧ S.Nodup ∧ Reps H T vs' ds ∧ (∀ a ∈ T, a ∉ S) ∧ W (d0 :: ds) G ∧
  ∀ d e v H', G d e → (∀ a o, H a = some o → a ∉ S → H' a = some o) → (∃ S1 S2, Rep H' S1 v0 e ∧ Rep H' S2 v d ∧ (S1 ++ S2).Nodup ∧ ∀ a ∈ S1 ++ S2, a ∈ S ∨ H a = none) → Q v H'
def ownF (s : Option Sl) : Option (Sl × D) := match s with
  | some (.ow true d) => some (.ow true d, d)
  | some (.io d) => some (.io d, d)
  | _ => none
def kCallI (W : TwI) (n : Nat) (ka : KE) : KE := fun γ q => ka γ fun γ1 => (datN γ1.sl n γ1.tm).elim False fun x => match x.2 with
  | .al i [] :: r => (nolists x.1 = true ∧ noAl i r = true) ∧ (ownF (γ1.sl[i]?)).elim False fun s => W (s.2 :: x.1) fun d e => q ⟨γ1.sl.set i (reS s.1 true e), own d :: r, γ1.n⟩
  | _ => False
def ioD (γ : VSt) (f : D → Prop) : Prop := match γ.sl[0]? with
  | some (Sl.io e) => f e
  | _ => False
theorem ioD_inv {γ : VSt} {f : D → Prop} (h : ioD γ f) : ∃ e, γ.sl[0]? = some (.io e) ∧ f e := by
  unfold ioD at h
  split at h
  · rename_i e es
    exact ⟨e, es, h⟩
  · exact h.elim
def edI (G : D → D → Prop) : KEd := ⟨fun γ => ioD γ fun e => G .none e, fun s γ => ioD γ fun e => rtN (fun d => G d e) s, fun _ => False, fun _ => False⟩
section
variable {P : Program} {w : World} {mg : Str → Option Value} {base : Heap} {kl : Nat} {f : Addr} {fd : FuncData} {ps : List Str}
theorem okI {x qual : Str} {st : Stmt} {N : List Str} {W : TwI} {kb : KS} (F : Fun K x qual st f fd) (S : FnScope N ps (defScope st)) (hN : ps.length ≤ N.length) (har : ∀ ds G, W ds G → ds.length = ps.length)
    (hb : ∀ (cdv : Value) (A : Around) (outer : List Env) (s : Shared) (H : Hp) (E : XK), Bare (A.deeper (envOfC qual (defScope st) s.heap.objs.size f cdv)) → Room kl (A.deeper (envOfC qual (defScope st) s.heap.objs.size f cdv)) → ∃ t, PSs (cxOf CX0 P w K mg base N qual (defScope st) f cdv A outer s H E).nox (defBody st) t ∧ ∀ (C : Cn) (xc : XC C), SoS xc t kb)
    (val : ∀ d0 ds G, W (d0 :: ds) G → kb ⟨.io d0 :: (ds.map Sl.fz ++ List.replicate (N.length - ps.length) .jk), [], 0⟩ (edI G)) : FnG P w K mg base CX0 (kl + 1) f fd ps (spI W) := by
  refine okG F S (fun vs H Q E h => ?_) (fun cdv A outer s H vs Q E hg hr h => ?_)
  · obtain ⟨v0, vs', S, T, d0, ds, G, rfl, _, _, r, _, hw, _⟩ := h
    rw [List.length_cons, r.length]
    exact har _ _ hw
  · obtain ⟨t, hp, so⟩ := hb cdv A outer s H E hg hr
    obtain ⟨v0, vs', S0, T, d0, ds, Gq, rfl, r0, nd0, r, dis, hw, hk⟩ := h
    have el := r.length
    have ea := har _ _ hw
    rw [List.length_cons] at ea
    have jks : ∀ (k : Nat) {C : Cn} {Z : Reg}, Ents C Z H [] (List.replicate k none) (List.replicate k .jk) := fun k => by
      induction k with
      | zero => exact .nil
      | succ k ih => exact .cons (S := []) (.jk _) ih
    let C : Cn := ⟨H, fun a => a ∈ S0, none, fun _ _ z => (nomatch z), some v0, noReg⟩
    let Z : Reg := fun a => (∃ o, H a = some o) ∧ a ∉ S0
    have start : RelX C Z (S0 ++ []) [] ⟨.io d0 :: (ds.map Sl.fz ++ List.replicate (N.length - ps.length) .jk), [], 0⟩ [] (L2.start N (v0 :: vs')) H := by
      refine ⟨fun a o e m => ⟨.inl ⟨⟨o, e⟩, m⟩, e⟩, ?_, .nil, by simpa using nd0, fun a m => fun z => z.elim (fun z => z.2 (by simpa using m)) id, fun p b q => (nomatch q), fun a z => z.elim (fun z => z.1) False.elim, fun _ _ z => z, fun k i π v e => by simp at e⟩
      have fz := Trs.fzs (C := C) (Z := Z) (Trs.freeze (Z' := Z) (fun _ z => z.elim) _ _ _ (Reps.tr (Z := noReg) _ _ _ r) fun a m => ⟨by
        obtain ⟨xs, e⟩ := Reps.dom _ _ _ r a m
        exact ⟨_, e⟩, dis a m⟩) rfl
      show Ents C Z H _ (L2.start N (v0 :: vs')) _
      unfold L2.start
      have e1 : N.length - (v0 :: vs').length = N.length - ps.length := by rw [List.length_cons]; omega
      rw [e1, List.map_cons, List.cons_append]
      exact .cons (.io (Rep.tr _ _ _ r0) rfl) (Ents.append fz (jks _))
    -- the end
    have out : ∀ {sl tm : List Sl} {s : Sl} {n : Int} {v : V} {Θ : List V} {σ : L2.St} {H' : Hp} {e : D}, Rel C ⟨sl, s :: tm, n⟩ (v :: Θ) σ H' → sl[0]? = some (.io e) → rtN (fun d => Gq d e) s → Q v H' := fun {sl tm s n v Θ σ H' e} R es hr => by
      obtain ⟨Z2, Sa, Sb0, X0⟩ := R
      obtain ⟨A, Sb, en, X, f⟩ := RelX.popF (ss := [s]) (us := [v]) X0 rfl
      obtain ⟨A', e1, rfl⟩ : ∃ A', Ent C Z2 H' A' (some v) s ∧ A = A' := by
        cases en with
        | cons e1 e2 =>
          cases e2
          exact ⟨_, e1, by simp⟩
      obtain ⟨v1, T0, Rr, ev, ent, pm, _⟩ := X.es.at es
      have org : ∀ a, ¬ C.tz Z2 a → a ∈ S0 ∨ H a = none := fun a nz => by
        cases q : H a with
        | none => exact .inr rfl
        | some o =>
          left
          exact Classical.byContradiction fun hm => nz (X.fr a o q hm).1
      cases ent with
      | io t eio =>
        cases eio
        have res : ∃ d, Gq d e ∧ Rep H' A v d := by
          cases e1 with
          | jk v => cases hr
          | al v i π => cases hr
          | pu q => cases hr
          | io t q => cases hr
          | dc _ _ => cases hr
          | dt _ _ => cases hr
          | sh _ _ => cases hr
          | xv _ _ => cases hr
          | ho _ _ _ => cases hr
          | xw _ => cases hr
          | sp q t => cases hr
          | fz t => exact ⟨_, hr.2, Tr.repO _ _ _ (Tr.nolist (Z' := noReg) _ _ _ t hr.1).2⟩
          | ow t => exact ⟨_, hr, Tr.repO _ _ _ t⟩
        obtain ⟨d, hG, rd⟩ := res
        refine hk d e v H' hG (fun a o eo hm => (X.fr a o eo hm).2) ⟨T0, A, Tr.repO _ _ _ t, rd, ?_, fun a m => ?_⟩
        · refine nodup_cnt.mpr fun x => ?_
          have h1 := nodup_cnt.mp f.nd x
          have h2 := pm.count_eq x
          rw [List.count_append] at h1 h2 ⊢
          rw [List.count_append] at h1
          omega
        · rcases List.mem_append.mp m with m | m
          · exact org a (X.nz a (List.mem_append_left _ (pm.mem_iff.mpr (List.mem_append_left _ m))))
          · exact org a (f.ok a m).1
    refine ⟨t, hp, so C (noXC C) _ [] _ H _ (edI Gq) ⟨Z, _, [], start⟩ (val d0 ds Gq hw) ⟨fun γ' σ' H' hn R => ?_, fun s γ' v Θ' σ' H' hr R => ?_, fun _ _ _ z _ => z.elim, fun _ _ _ z _ => z.elim⟩⟩
    · obtain ⟨sl, tm, n⟩ := γ'
      obtain ⟨e, es, hn⟩ := ioD_inv hn
      exact out (R.push (v := .non) (d := .none) fun Z => .non) es ⟨rfl, hn⟩
    · obtain ⟨sl, tm, n⟩ := γ'
      obtain ⟨e, es, hr⟩ := ioD_inv hr
      exact out R es hr
end
end
end G
namespace G
open PySem PySem.Spec PyProof.Rows L2
variable {C : Cn} {xc : XC C}
section
variable {t t1 t2 ta tb tc : TE} {k k1 k2 ka kb kc ko : KE} {n m : Nat} {c1 c2 : TT} {h1 h2 : KT} {K : PySem.W.Frag}
theorem sr_neD : SoR (rNeD K) (vEqD true) := fun H v1 v2 T1 T2 d1 d2 Q q r1 r2 hf w =>
  ⟨d1, d2, Rep.dp K _ _ _ r1 (nd_shaped hf.1), Rep.dp K _ _ _ r2 (nd_shaped hf.2.1), hf.1, hf.2.1, w _ _ (sca_bl _) (by simpa using hf.2.2)⟩
theorem cutD_to (ds : List D) (k : Nat) : cutD ds none (some (k : Int)) = ds.take k := by
  unfold cutD
  rw [HT.sIx_none, HT.sIx_nat]
  simp
/-- a loop by an invariant on what is done; N: whatever is wanted behind a turn -/
theorem forL_inv {g : KG} {kb : KS} {tm : List Sl} {e : KEd} {β : Type} (l : List β) (f : β → D) (P : List β → VSt → Prop)
    (step : ∀ pre x post γ (N : VSt → Prop), l = pre ++ x :: post → γ.tm = tm → P pre γ → (∀ γ2, γ2.tm = tm → P (pre ++ [x]) γ2 → N γ2) → g ⟨γ.sl, .fz (f x) :: γ.tm, γ.n⟩ fun γ1 => kb γ1 ⟨fun γ2 => γ2.tm = tm ∧ N γ2, e.rt, fun γ2 => γ2.tm = tm ∧ e.nx γ2, fun γ2 => γ2.tm = tm ∧ N γ2⟩)
    (fin : ∀ γ, γ.tm = tm → P l γ → e.nx γ) : ∀ γ, γ.tm = tm → P [] γ → forL g kb tm (l.map f) γ e := by
  have main : ∀ (post pre : List β) (γ : VSt), l = pre ++ post → γ.tm = tm → P pre γ → forL g kb tm (post.map f) γ e := by
    intro post
    induction post with
    | nil =>
      intro pre γ hl ht hp
      rw [List.append_nil] at hl
      subst hl
      exact fin γ ht hp
    | cons x post ih =>
      intro pre γ hl ht hp
      exact step pre x post γ (fun γ2 => forL g kb tm (post.map f) γ2 e) hl ht hp fun γ2 h2 h3 => ih (pre ++ [x]) γ2 (by rw [hl]; simp) h2 h3
  exact fun γ ht h => main l [] γ rfl ht h
/-- a comprehension by an invariant: what is done, what is made, how many draws are left -/
theorem lc_inv {j : Nat} {kt : KT} {ke : KE} {β : Type} {q : VSt → Prop} {sl T : List Sl} (b : Bool) (l : List β) (f : β → D) (P : List β → List D → Int → Prop) (hj : (sl.set j .jk) = sl) (na : noAl j T = true)
    (len : ∀ pre acc n, P pre acc n → acc.length < 10000000)
    (step : ∀ pre x post acc n (Y X : VSt → Prop), l = pre ++ x :: post → P pre acc n → (∀ s c cd n', con s = some (c, cd) → (b && c) = b → P (pre ++ [x]) (acc ++ [cd]) n' → Y ⟨sl.set j (.fz (f x)), s :: .ow b (.list acc) :: T, n'⟩) → (∀ n', P (pre ++ [x]) acc n' → X ⟨sl.set j (.fz (f x)), .ow b (.list acc) :: T, n'⟩) →
      kt ⟨sl.set j (.fz (f x)), .ow b (.list acc) :: T, n⟩ fun c γ1 => γ1.tm = .ow b (.list acc) :: T ∧ if c = true then ke γ1 Y else X γ1)
    (fin : ∀ acc n, P l acc n → q ⟨sl, .ow b (.list acc) :: T, n⟩) : ∀ acc n, P [] acc n → lcL j kt ke (l.map f) ⟨sl, .ow b (.list acc) :: T, n⟩ q := by
  have main : ∀ (post pre : List β) (acc : List D) (n : Int), l = pre ++ post → P pre acc n → lcL j kt ke (post.map f) ⟨sl, .ow b (.list acc) :: T, n⟩ q := by
    intro post
    induction post with
    | nil =>
      intro pre acc n hl hp
      rw [List.append_nil] at hl
      subst hl
      exact fin acc n hp
    | cons x post ih =>
      intro pre acc n hl hp
      have hjj : (sl.set j (.fz (f x))).set j .jk = sl := by rw [List.set_set]; exact hj
      refine ⟨noAl_cons na rfl, step pre x post acc n _ _ hl hp (fun s c cd n' hc hb hP => ?_) (fun n' hP => ?_)⟩
      · show (con s).elim False _
        rw [hc]
        refine ⟨⟨na, rfl, len _ _ _ hp⟩, ?_⟩
        dsimp only
        rw [hjj, hb]
        exact ih (pre ++ [x]) _ n' (by rw [hl]; simp) hP
      · dsimp only
        rw [hjj]
        exact ih (pre ++ [x]) _ n' (by rw [hl]; simp) hP
  exact fun acc n h => main l [] acc n rfl h
theorem edT_rt {G : D → Prop} {s : Sl} {γ : VSt} : (edT G).rt s γ = rtN G s := rfl
theorem edP_rt {G : D → Prop} {s : Sl} {γ : VSt} : (edP G).rt s γ = (0 ≤ γ.n ∧ rtN G s) := rfl
theorem edT_nx {G : D → Prop} {γ : VSt} : (edT G).nx γ = G .none := rfl
theorem edP_nx {G : D → Prop} {γ : VSt} : (edP G).nx γ = (0 ≤ γ.n ∧ G .none) := rfl
theorem rtN_fz {G : D → Prop} {d : D} : rtN G (.fz d) = (nolist d = true ∧ G d) := rfl
theorem rtN_ow {G : D → Prop} {d : D} : rtN G (.ow true d) = G d := rfl
theorem rtN_own {G : D → Prop} {d : D} : rtN G (own d) = G d := by
  unfold own
  cases h : nolist d with
  | true => rw [if_pos rfl, rtN_fz, h]; simp
  | false => rw [if_neg (by simp), rtN_ow]
theorem own_int {i : Int} : own (.int i) = .fz (.int i) := rfl
theorem own_bool {b : Bool} : own (.bool b) = .fz (.bool b) := rfl
theorem own_str {x : Str} : own (.str x) = .fz (.str x) := rfl
theorem own_none : own .none = .fz .none := rfl
theorem own_list {ds : List D} : own (.list ds) = .ow true (.list ds) := rfl
theorem own_tup {ds : List D} : own (.tuple ds) = if nolists ds = true then .fz (.tuple ds) else .ow true (.tuple ds) := rfl
theorem mkS_lt {ds : List D} : mkS true true ds = .ow true (.list ds) := rfl
theorem mkS_lf {ds : List D} : mkS true false ds = .ow false (.list ds) := rfl
theorem mkS_tt {ds : List D} : mkS false true ds = own (.tuple ds) := rfl
theorem mkS_tf {ds : List D} : mkS false false ds = .fz (.tuple ds) := rfl
theorem con_own {d : D} : con (own d) = some (true, d) := by
  unfold own
  cases h : nolist d with
  | true => rw [if_pos rfl]; show some (nolist d, d) = _; rw [h]
  | false => rw [if_neg (by simp)]; rfl
theorem okS_own {d : D} : okS (own d) = true := by
  unfold own
  split <;> rfl
theorem look_own {sl : List Sl} {d : D} : look sl (own d) = some d := by
  unfold own
  split <;> rfl
theorem okS_fz {d : D} : okS (.fz d) = true := rfl
theorem okS_ow {b : Bool} {d : D} : okS (.ow b d) = true := rfl
theorem okS_pu : okS .pu = true := rfl
theorem okS_al {i : Nat} {π : List Nat} : okS (.al i π) = false := rfl
theorem noAl_nil {i : Nat} : noAl i [] = true := rfl
theorem noAl_fz {i : Nat} {d : D} {tm : List Sl} : noAl i (.fz d :: tm) = noAl i tm := by simp [noAl]
theorem noAl_ow {i : Nat} {b : Bool} {d : D} {tm : List Sl} : noAl i (.ow b d :: tm) = noAl i tm := by simp [noAl]
theorem noAl_pu {i : Nat} {tm : List Sl} : noAl i (.pu :: tm) = noAl i tm := by simp [noAl]
theorem noAl_al {i j : Nat} {π : List Nat} {tm : List Sl} : noAl i (.al j π :: tm) = ((j != i) && noAl i tm) := by simp [noAl]
theorem noAl_own {i : Nat} {d : D} {tm : List Sl} : noAl i (own d :: tm) = noAl i tm := by
  unfold own
  split <;> simp [noAl]
theorem con_fz {d : D} : con (.fz d) = some (nolist d, d) := rfl
theorem con_ow {b : Bool} {d : D} : con (.ow b d) = some (b, d) := rfl
theorem look_fz {sl : List Sl} {d : D} : look sl (.fz d) = some d := rfl
theorem look_ow {sl : List Sl} {b : Bool} {d : D} : look sl (.ow b d) = some d := rfl
theorem look_al {sl : List Sl} {i : Nat} {π : List Nat} : look sl (.al i π) = (sl[i]?).bind fun s => (datS s).bind fun d => atP d π := rfl
theorem datS_fz {d : D} : datS (.fz d) = some d := rfl
theorem datS_ow {b : Bool} {d : D} : datS (.ow b d) = some d := rfl
theorem datS_own {d : D} : datS (own d) = some d := by
  unfold own
  split <;> rfl
theorem subS_fz {d e : D} {k : Nat} : subS (.fz e) k d = .fz d := rfl
theorem subS_ow {d e : D} {k : Nat} : subS (.ow true e) k d = own d := rfl
theorem subS_of {d e : D} {k : Nat} : subS (.ow false e) k d = .fz d := rfl
theorem subS_al {d : D} {i k : Nat} {π : List Nat} : subS (.al i π) k d = if nolist d = true then .fz d else .al i (π ++ [k]) := rfl
theorem ixD_0 {d : D} {ds : List D} {f : Nat → D → Prop} : ixD (d :: ds) 0 f = f 0 d := by
  unfold ixD ixN
  simp
theorem ixD_1 {d e : D} {ds : List D} {f : Nat → D → Prop} : ixD (d :: e :: ds) 1 f = f 1 e := by
  unfold ixD ixN
  simp
  rw [if_pos (by omega)]
  exact Iff.rfl
theorem ixD_2 {d e g : D} {ds : List D} {f : Nat → D → Prop} : ixD (d :: e :: g :: ds) 2 f = f 2 g := by
  unfold ixD ixN
  simp
  rw [if_pos (by omega)]
  exact Iff.rfl
theorem ixD_any {ds : List D} {i : Int} {f : Nat → D → Prop} (h0 : 0 ≤ i) (h1 : i < ds.length) (h : ∀ x, ds[i.toNat]? = some x → f i.toNat x) : ixD ds i f := by
  unfold ixD
  have e1 : ixN ds.length i = some i.toNat := by
    unfold ixN
    rw [if_pos h0, if_pos h1]
  have e2 : ds[i.toNat]? = some ds[i.toNat] := List.getElem?_eq_getElem (by omega)
  rw [e1]
  show (ds[i.toNat]?).elim False (f i.toNat)
  rw [e2]
  exact h _ e2
theorem look_mkL {sl : List Sl} {b : Bool} {ds : List D} : look sl (mkS true b ds) = some (.list ds) := by
  cases b <;> rfl
theorem okS_mkL {b : Bool} {ds : List D} : okS (mkS true b ds) = true := by
  cases b <;> rfl
end
end G
namespace G
open PySem PySem.Spec PyProof.Rows L2
variable {C : Cn} {xc : XC C}
section
variable {t t1 t2 ta tb tc : TE} {k k1 k2 ka kb kc ko : KE} {n m : Nat} {K : PySem.W.Frag}
/-- the tree that is given -/
def giv : Sl → Option D
  | .ow true d => some d
  | .fz d => if nolist d = true then some d else none
  | _ => none
def kCallV (W : Tw) (n : Nat) (ka : KE) : KE := fun γ q => ka γ fun γ1 => match γ1.tm with
  | s :: tm => (giv s).elim False fun d0 => (datN γ1.sl n tm).elim False fun x => W (x.1 ++ [d0]) fun d => q ⟨γ1.sl, own d :: x.2, γ1.n⟩
  | _ => False
end
end G
namespace G
open PySem PySem.Spec PyProof.Rows L2
variable {C : Cn} {xc : XC C}
section
variable {t t1 t2 ta tb tc : TE} {k k1 k2 ka kb kc ko : KE} {n m : Nat} {K : PySem.W.Frag}
/-- how many bits -/
def vBits : D → (D → Prop) → Prop := fun d q => match d with | .int i => q (.int (Builtin.Int.intBits i : Nat)) | _ => False
/-- range(a, b, -1) -/
def rgD (a b : Int) : List Int := (List.range (a - b).toNat).map fun i => a - (i : Nat)
def kRngD (ka kb kc : KE) : KI := fun γ q => ka γ fun γ1 => kb γ1 fun γ2 => kc γ2 fun γ3 => popI γ3 fun c γ4 => popI γ4 fun j γ5 => popI γ5 fun i γ6 => (c = -1 ∧ -1000000000000 ≤ i ∧ i ≤ 1000000000000 ∧ -1000000000000 ≤ j ∧ j ≤ 1000000000000) ∧ q ((rgD i j).map PyData.int) γ6 ∧ γ6.tm = γ.tm
/-- the last item, all but the last one -/
theorem cutD_last (ds : List D) : cutD ds (some (-1)) none = ds.drop (ds.length - 1) := by
  unfold cutD
  have e1 : HT.sIx ds.length 0 (some (-1)) = ds.length - 1 := by
    show (if (-1 : Int) < 0 then ((-1 : Int) + (ds.length : Int)).toNat else min (-1 : Int).toNat ds.length) = _
    rw [if_pos (by decide)]
    omega
  rw [e1, HT.sIx_none]
  exact List.take_of_length_le (by rw [List.length_drop]; exact Nat.le_refl _)
theorem cutD_init (ds : List D) : cutD ds none (some (-1)) = ds.dropLast := by
  unfold cutD
  have e1 : HT.sIx ds.length ds.length (some (-1)) = ds.length - 1 := by
    show (if (-1 : Int) < 0 then ((-1 : Int) + (ds.length : Int)).toNat else min (-1 : Int).toNat ds.length) = _
    rw [if_pos (by decide)]
    omega
  rw [e1, HT.sIx_none, List.drop_zero, List.dropLast_eq_take]
  congr 1
theorem cutD_lastI (ns : List Int) : cutD (ns.map PyData.int) (some (-1)) none = (ns.drop (ns.length - 1)).map PyData.int := by
  rw [cutD_last, List.length_map, List.map_drop]
theorem cutD_initI (ns : List Int) : cutD (ns.map PyData.int) none (some (-1)) = ns.dropLast.map PyData.int := by
  rw [cutD_init, List.map_dropLast]
/-- in a list of ints -/
theorem inV_intsD (t : Int) (ns : List Int) : inV (.int t) ((ns.map PyData.int).map vOf) = decide (t ∈ ns) := by
  have : (ns.map PyData.int).map vOf = ns.map V.int := by
    rw [List.map_map]
    rfl
  rw [this, inV_ints]
theorem allflat_ints (ns : List Int) : (ns.map PyData.int).all flatD = true := by
  rw [List.all_map, List.all_eq_true]
  intro x _
  rfl
theorem reS_io {e d : D} {b : Bool} : reS (.io e) b d = .io d := rfl
theorem reS_ow {e d : D} {c b : Bool} : reS (.ow c e) b d = .ow b d := rfl
theorem putS_set {sl : List Sl} {i : Nat} {b : Bool} {d : D} : putS sl i b d = sl.set i (reS ((sl[i]?).getD .jk) b d) := rfl
theorem datS_io {d : D} : datS (.io d) = some d := rfl
theorem ownF_ow {d : D} : ownF (some (.ow true d)) = some (.ow true d, d) := rfl
theorem ownF_io {d : D} : ownF (some (.io d)) = some (.io d, d) := rfl
theorem edI_rt {G : D → D → Prop} {s : Sl} {γ : VSt} : (edI G).rt s γ = ioD γ fun e => rtN (fun d => G d e) s := rfl
theorem edI_nx {G : D → D → Prop} {γ : VSt} : (edI G).nx γ = ioD γ fun e => G .none e := rfl
theorem ioD_c {e : D} {sl tm : List Sl} {n : Int} {f : D → Prop} : ioD ⟨.io e :: sl, tm, n⟩ f = f e := rfl
theorem giv_ow {d : D} : giv (.ow true d) = some d := rfl
theorem giv_fz {d : D} : giv (.fz d) = if nolist d = true then some d else none := rfl
theorem giv_own {d : D} : giv (own d) = some d := by
  unfold own
  cases h : nolist d with
  | true => rw [if_pos rfl]; show (if nolist d = true then some d else none) = _; rw [h]; rfl
  | false => rw [if_neg (by simp)]; rfl
theorem nolists_app : ∀ (a b : List D), nolists (a ++ b) = (nolists a && nolists b)
  | [], b => by simp [nolists]
  | d :: a, b => by simp [nolists, nolists_app a b, Bool.and_assoc]
def kLit (d : D) : KE := fun γ q => q ⟨γ.sl, own d :: γ.tm, γ.n⟩
def kLits (ds : List D) : KE := fun γ q => q ⟨γ.sl, (ds.map own).reverse ++ γ.tm, γ.n⟩
theorem so_lit_c {v : V} {d : D} (h : Sca v d) (hn : nolist d = true) : SoE xc (tC v) (kLit d) := fun γ Θ σ H Q q R hk w => by
  unfold kLit at hk
  have e : own d = .fz d := if_pos hn
  rw [e] at hk
  exact w _ v H hk (R.push fun Z => h H Z)
theorem so_lits_nil : SoA xc 0 tNil (kLits []) := fun γ Θ σ H Q q R hk w => w γ [] H rfl hk R
theorem so_lits_cons {ts : TA} {d : D} {ds : List D} (h : SoE xc t (kLit d)) (hs : SoA xc n ts (kLits ds)) : SoA xc (n + 1) (tCons t ts) (kLits (d :: ds)) := fun γ Θ σ H Q q R hk w => by
  refine so_cons h hs γ Θ σ H Q q R ?_ w
  show q ⟨γ.sl, (ds.map own).reverse ++ own d :: γ.tm, γ.n⟩
  have e : (((d :: ds).map own).reverse ++ γ.tm : List Sl) = (ds.map own).reverse ++ own d :: γ.tm := by simp
  rw [← e]
  exact hk
theorem popC_own (ds : List D) (tm : List Sl) : popC ds.length ((ds.map own).reverse ++ tm) = some ((true, ds), tm) := by
  have main : ∀ (es : List D), popC es.length ((es.map own) ++ tm) = some ((true, es.reverse), tm) := by
    intro es
    induction es with
    | nil => rfl
    | cons e es ih =>
      show popC (es.length + 1) (own e :: (es.map own ++ tm)) = _
      simp only [popC, con_own, Option.bind_some, ih]
      simp
  have := main ds.reverse
  rw [List.length_reverse, List.map_reverse, List.reverse_reverse] at this
  exact this
theorem so_lit_lst {ts : TA} {ds : List D} (h : SoA xc ds.length ts (kLits ds)) (hn : ds.length ≤ 10000000 := by decide) : SoE xc (tLst ts) (kLit (.list ds)) := fun γ Θ σ H Q q R hk w => by
  refine so_lst h hn γ Θ σ H Q q R ?_ w
  show (popC ds.length ((ds.map own).reverse ++ γ.tm)).elim False _
  rw [popC_own]
  exact hk
theorem so_lit_tup {ts : TA} {ds : List D} (h : SoA xc ds.length ts (kLits ds)) (hn : ds.length ≤ 10000000 := by decide) : SoE xc (tTup ts) (kLit (.tuple ds)) := fun γ Θ σ H Q q R hk w => by
  refine so_tup h hn γ Θ σ H Q q R ?_ w
  show (popC ds.length ((ds.map own).reverse ++ γ.tm)).elim False _
  rw [popC_own]
  exact hk
end
end G
namespace G
open PySem PySem.Spec PyProof.Rows L2
variable {C : Cn} {xc : XC C}
section
variable {κ : Type} [DecidableEq κ]
def valM {α : Type} (m : List (κ × α)) (k : κ) : Option α := (m.find? fun kv => decide (kv.1 = k)).map (·.2)
def putM {α : Type} (m : List (κ × α)) (k : κ) (d : α) : List (κ × α) := if (m.any fun kv => decide (kv.1 = k)) = true then m.map (fun kv => if kv.1 = k then (kv.1, d) else kv) else m ++ [(k, d)]
variable {α : Type} {m : List (κ × α)} {k j : κ} {d : α}
theorem valM_nil : valM ([] : List (κ × α)) k = none := rfl
theorem valM_cons {p : κ × α} : valM (p :: m) k = if p.1 = k then some p.2 else valM m k := by
  unfold valM
  rw [List.find?_cons]
  by_cases h : p.1 = k
  · simp [h]
  · simp [h]
theorem any_valM : (m.any fun kv => decide (kv.1 = k)) = (valM m k).isSome := by
  induction m with
  | nil => rfl
  | cons p m ih =>
    rw [List.any_cons, ih, valM_cons]
    by_cases h : p.1 = k
    · simp [h]
    · simp [h]
theorem valM_app (h : valM m k = none) : valM (m ++ [(k, d)]) j = if k = j then some d else valM m j := by
  induction m with
  | nil => rw [List.nil_append, valM_cons]
  | cons p m ih =>
    rw [valM_cons] at h
    rw [List.cons_append, valM_cons, valM_cons]
    split at h
    · cases h
    · rename_i hp
      rw [ih h]
      by_cases hj : k = j
      · subst hj
        simp [hp]
      · simp [hj]
theorem valM_map : valM (m.map fun kv => if kv.1 = k then (kv.1, d) else kv) j = if k = j then (valM m j).map (fun _ => d) else valM m j := by
  induction m with
  | nil =>
    show none = _
    split <;> rfl
  | cons p m ih =>
    rw [List.map_cons, valM_cons, valM_cons, ih]
    by_cases hp : p.1 = k
    · by_cases hj : k = j
      · simp [hp, hj]
      · simp [hp, hj]
    · by_cases hj : k = j
      · subst hj
        simp [hp]
      · simp [hp, hj]
theorem valM_put : valM (putM m k d) j = if k = j then some d else valM m j := by
  unfold putM
  rw [any_valM]
  cases h : valM m k with
  | none => exact valM_app h
  | some x =>
    refine valM_map.trans ?_
    by_cases hj : k = j
    · subst hj
      simp [h]
    · simp [hj]
theorem putM_new (h : valM m k = none) : putM m k d = m ++ [(k, d)] := by
  unfold putM
  rw [any_valM, h]
  rfl
theorem valM_none_mem : valM m k = none ↔ ∀ p ∈ m, p.1 ≠ k := by
  induction m with
  | nil => simp [valM_nil]
  | cons p m ih =>
    rw [valM_cons]
    by_cases hp : p.1 = k
    · simp [hp]
    · simp [hp, ih]
end
section
variable {κ : Type} [DecidableEq κ] {H : Hp} {Z : Reg} {kvs : List (κ × V)} {m : List (κ × D)} {k : κ} {v : V} {d : D}
theorem DVs.length (h : DVs H Z kvs m) : kvs.length = m.length := by
  induction h with
  | nil => rfl
  | cons _ _ ih => rw [List.length_cons, List.length_cons, ih]
theorem DVs.val (h : DVs H Z kvs m) (k : κ) : (valV kvs k = none ∧ valM m k = none) ∨ ∃ v d, valV kvs k = some v ∧ valM m k = some d ∧ Tr H Z [] v d := by
  induction h with
  | nil => exact .inl ⟨rfl, rfl⟩
  | @cons k' v d kvs m t _ ih =>
    by_cases hk : k' = k
    · exact .inr ⟨v, d, valV_pos hk, by rw [valM_cons, if_pos hk], t⟩
    · rw [valV_neg hk, valM_cons, if_neg hk]
      exact ih
theorem DVs.app (h : DVs H Z kvs m) (t : Tr H Z [] v d) : DVs H Z (kvs ++ [(k, v)]) (m ++ [(k, d)]) := by
  induction h with
  | nil => exact .cons t .nil
  | cons t' _ ih => exact .cons t' ih
theorem DVs.map (h : DVs H Z kvs m) (t : Tr H Z [] v d) : DVs H Z (kvs.map fun kv => if kv.1 = k then (kv.1, v) else kv) (m.map fun kv => if kv.1 = k then (kv.1, d) else kv) := by
  induction h with
  | nil => exact .nil
  | @cons k' v' d' kvs m t' _ ih =>
    rw [List.map_cons, List.map_cons]
    by_cases hk : k' = k
    · simp only [hk, if_true]
      exact .cons t ih
    · simp only [hk, if_false]
      exact .cons t' ih
theorem DVs.put (h : DVs H Z kvs m) (t : Tr H Z [] v d) : DVs H Z (putK kvs k v) (putM m k d) := by
  unfold putK putM
  rw [valV_any, any_valM]
  rcases h.val k with ⟨e1, e2⟩ | ⟨v', d', e1, e2, _⟩
  · rw [e1, e2]
    exact h.app t
  · rw [e1, e2]
    exact h.map t
end
def keyD : D → Option Key
  | .int i => some (.inl i)
  | .str x => some (.inr x)
  | _ => none
def keysD : List D → Option (List Key)
  | [] => some []
  | d :: ds => (keyD d).bind fun k => (keysD ds).map (k :: ·)
section
variable {H : Hp} {Z : Reg} {S : List Addr}
theorem key_of {v : V} {y : D} {k : Key} (t : Tr H Z S v y) (e : keyD y = some k) : v = kV k := by
  cases t with
  | int i => cases e; rfl
  | str x => cases e; rfl
  | non => cases e
  | bl b => cases e
  | lst h t => cases e
  | lstZ z h t => cases e
  | tup h t => cases e
  | box h t => cases e
  | boxZ z h t => cases e
theorem keys_of : ∀ {ys : List D} {vs : List V} {S : List Addr} {ks : List Key}, Trs H Z S vs ys → keysD ys = some ks → vs = ks.map kV
  | [], _, _, ks, h, e => by
    cases h
    cases e
    rfl
  | y :: ys, _, _, ks, h, e => by
    cases h with
    | cons t ts =>
      unfold keysD at e
      cases h1 : keyD y with
      | none => rw [h1] at e; cases e
      | some k =>
        rw [h1] at e
        cases h2 : keysD ys with
        | none => rw [h2] at e; cases e
        | some ks' =>
          rw [h2] at e
          cases e
          rw [List.map_cons, key_of t h1, keys_of ts h2]
end
/-- the pairs of a dict that is a tree -/
def boxM : D → Option (List (Key × D))
  | .dict [(.list ys, .list ds)] => if ys.length = ds.length then (keysD ys).map fun ks => ks.zip ds else none
  | _ => none
theorem keysD_dOf : ∀ ks : List Key, keysD (ks.map dOf) = some ks
  | [] => rfl
  | .inl i :: ks => by rw [List.map_cons]; simp only [keysD, dOf, keyD, Option.bind_some, keysD_dOf ks, Option.map_some]
  | .inr x :: ks => by rw [List.map_cons]; simp only [keysD, dOf, keyD, Option.bind_some, keysD_dOf ks, Option.map_some]
theorem boxM_dictD (m : List (Key × D)) : boxM (dictD m) = some m := by
  show (if _ then _ else _) = _
  rw [if_pos (by simp), show (m.map fun kv => dOf kv.1) = (m.map (·.1)).map dOf by rw [List.map_map]; rfl, keysD_dOf]
  simp only [Option.map_some]
  congr 1
  induction m with
  | nil => rfl
  | cons x xs ih => simp [ih]
theorem Trs.consE {H : Hp} {Z : Reg} {v : V} {vs : List V} {d : D} {ds : List D} (h : Trs H Z [] (v :: vs) (d :: ds)) : Tr H Z [] v d ∧ Trs H Z [] vs ds := by
  generalize hS : ([] : List Addr) = S0 at h
  cases h with
  | @cons S T _ _ _ _ t ts =>
    obtain ⟨h1, h2⟩ := List.append_eq_nil_iff.mp hS.symm
    subst h1 h2
    exact ⟨t, ts⟩
theorem boxM_tr {H : Hp} {Z : Reg} {v : V} {d : D} {m : List (Key × D)} (t : Tr H Z [] v d) (e : boxM d = some m) : ∃ a kvs, v = .ref a ∧ H a = some (.dK kvs) ∧ DVs H Z kvs m := by
  cases t with
  | @boxZ a t vs ds hz b ts =>
    cases b with
    | ins _ _ => cases e
    | @dK ks vs e1 l1 =>
      simp only [boxM, List.length_map] at e
      split at e
      rotate_left
      · cases e
      rename_i hl
      rw [keysD_dOf] at e
      simp only [Option.map_some, Option.some.injEq] at e
      subst e
      refine ⟨a, _, rfl, e1, ?_⟩
      clear e1
      induction ks generalizing vs ds with
      | nil => exact .nil
      | cons k ks ih =>
        match vs, ds, ts, l1, hl with
        | v :: vs, d :: ds, ts, l1, hl =>
          obtain ⟨t, ts⟩ := ts.consE
          exact .cons t (ih ts (by simpa using l1) (by simpa using hl))
  | _ => cases e
/-- what a dict says of a key -/
def dgS (s : Sl) (y : D) : Option (Option D) := match s with
  | .dc m => (keyD y).map fun k => valM m k
  | .dt m => match y with
    | .tuple ys => (keysD ys).map fun ks => valM m ks
    | _ => none
  | .fz d => (boxM d).bind fun m => (keyD y).map fun k => valM m k
  | _ => none
/-- the dict behind d[y] = d -/
def dpS (s : Sl) (y d : D) : Option Sl := match s with
  | .dc m => (keyD y).map fun k => .dc (putM m k d)
  | .dt m => match y with
    | .tuple ys => (keysD ys).map fun ks => .dt (putM m ks d)
    | _ => none
  | _ => none
def dlS : Sl → Nat
  | .dc m => m.length
  | .dt m => m.length
  | _ => 0
def isDc : Option Sl → Prop
  | some (.fz d) => (boxM d).isSome = true
  | some (.dc _) => True
  | some (.dt _) => True
  | _ => False
section
variable {C : Cn} {Z : Reg} {S1 S2 : List Addr} {γ : VSt} {Θ : List V} {σ : L2.St} {H H' : Hp} {sl tm : List Sl} {n n' : Int} {v : V} {s : Sl} {y d : D} {i : Nat}
theorem Rel.isDc (R : Rel C γ Θ σ H) (h : isDc γ.sl[i]?) : ∃ a, σ[i]? = some (some (.ref a)) := by
  obtain ⟨Z, S1, S2, X⟩ := R
  cases e : γ.sl[i]? with
  | none => rw [e] at h; exact h.elim
  | some s =>
    rw [e] at h
    obtain ⟨v, T, R, ev, en, _⟩ := X.es.at e
    cases en with
    | dc e t => exact ⟨_, ev⟩
    | dt e t => exact ⟨_, ev⟩
    | @fz v d t =>
      obtain ⟨m, em⟩ := Option.isSome_iff_exists.mp h
      obtain ⟨a, kvs, rfl, _⟩ := boxM_tr t em
      exact ⟨_, ev⟩
    | _ => exact h.elim
theorem Rel.dget {r : Option D} (R : Rel C ⟨sl, .fz y :: tm, n⟩ (v :: Θ) σ H) (e : sl[i]? = some s) (h : dgS s y = some r) : ∃ a o, σ[i]? = some (some (.ref a)) ∧ DGet H a v o ∧ o.isSome = r.isSome ∧ Rel C ⟨sl, tm, n⟩ Θ σ H ∧ ∀ d, r = some d → ∃ u, o = some u ∧ Rel C ⟨sl, .fz d :: tm, n⟩ (u :: Θ) σ H := by
  have R0 := R.pop
  obtain ⟨Z, S1, S2, X⟩ := R
  have et := X.et
  dsimp only at et
  obtain ⟨T, t⟩ : ∃ T, Tr H Z T v y := by
    cases et with
    | cons e1 e2 =>
      cases e1 with
      | fz t => exact ⟨_, t⟩
  obtain ⟨Z2, A1, A2, X2⟩ := R0
  obtain ⟨w, T2, Rr, ev, en, _⟩ := X2.es.at e
  have fin : ∀ {o : Option V}, ((o = none ∧ r = none) ∨ ∃ u d, o = some u ∧ r = some d ∧ Tr H Z2 [] u d) → o.isSome = r.isSome ∧ Rel C ⟨sl, tm, n⟩ Θ σ H ∧ ∀ d, r = some d → ∃ u, o = some u ∧ Rel C ⟨sl, .fz d :: tm, n⟩ (u :: Θ) σ H := fun {o} q => by
    refine ⟨?_, ⟨_, _, _, X2⟩, fun d ed => ?_⟩
    · rcases q with ⟨rfl, rfl⟩ | ⟨u, d, rfl, rfl, _⟩ <;> rfl
    · rcases q with ⟨rfl, rfl⟩ | ⟨u, d', rfl, rfl, t⟩
      · cases ed
      · cases ed
        exact ⟨u, rfl, Z2, _, _, X2.pushE (Z' := Z2) (.fz t) List.nodup_nil (fun a m => nomatch m) (fun i π z => nomatch z)⟩
  cases en with
  | @dc a kvs m ha dv =>
    cases hk : keyD y with
    | none => simp only [dgS, hk] at h; cases h
    | some k =>
      simp only [dgS, hk, Option.map_some, Option.some.injEq] at h
      subst h
      have ek := key_of t hk
      subst ek
      exact ⟨a, valV kvs k, ev, .inl ⟨kvs, k, .inl ha, rfl, rfl⟩, fin (dv.val k)⟩
  | @dt a kvs m ha dv =>
    cases t with
    | @tup b vs _ ys hb ts =>
      cases hk : keysD ys with
      | none => simp only [dgS, hk] at h; cases h
      | some ks =>
        simp only [dgS, hk, Option.map_some, Option.some.injEq] at h
        subst h
        have ek := keys_of ts hk
        subst ek
        exact ⟨a, valV kvs ks, ev, .inr ⟨kvs, ks, b, .inl ha, rfl, hb, rfl⟩, fin (dv.val ks)⟩
    | _ => cases h
  | @fz u d tu =>
    cases em : boxM d with
    | none => simp only [dgS, em] at h; cases h
    | some m =>
      cases hk : keyD y with
      | none => simp only [dgS, em, hk, Option.bind_some, Option.map_none] at h; cases h
      | some k =>
        simp only [dgS, em, hk, Option.bind_some, Option.map_some, Option.some.injEq] at h
        subst h
        obtain ⟨a, kvs, rfl, ha, dv⟩ := boxM_tr tu em
        have ek := key_of t hk
        subst ek
        exact ⟨a, valV kvs k, ev, .inl ⟨kvs, k, .inl ha, rfl, rfl⟩, fin (dv.val k)⟩
  | _ => cases h
/-- a dict is written -/
theorem RelX.dcSet {a : Addr} {o o' : HO} (X : RelX C Z S1 S2 ⟨sl, tm, n⟩ Θ σ H) (e : sl[i]? = some s) (ev : σ[i]? = some (some (.ref a))) (en : ∀ T, Ent C Z H T (some (.ref a)) s → T = [a]) (ha : H a = some o) (no : ∀ vs, o ≠ .tup vs ∧ o ≠ .lst vs) (na : noAl i tm = true) (s' : Sl)
    (en' : Ent C Z (upd H a o') [a] (some (.ref a)) s') : Rel C ⟨sl.set i s', tm, n⟩ Θ σ (upd H a o') := by
  obtain ⟨v, T, Rr, ev2, en1, pm, k⟩ := X.es.at e
  have ev3 : v = some (.ref a) := by rw [ev] at ev2; cases ev2; rfl
  subst ev3
  have eT := en _ en1
  subst eT
  have ndS := (List.nodup_append.mp X.nd).1
  have aS : a ∈ S1 := pm.mem_iff.mpr (by simp)
  have kne : ∀ x, x ≠ a → ∀ o, H x = some o → upd H a o' x = some o := fun x hx o e => by rw [upd_ne hx]; exact e
  have kt : ∀ t vs, H t = some (.tup vs) → upd H a o' t = some (.tup vs) := fun t vs et => kne t (fun z => by subst z; rw [ha] at et; cases et; exact (no _).1 rfl) _ et
  have zne : ∀ x, C.tz Z x → x ≠ a := fun x z q => X.nz a (List.mem_append_left _ aS) (q ▸ z)
  have kz0 : ∀ x, C.tz Z x → ∀ o, H x = some o → upd H a o' x = some o := fun x z => kne x (zne x z)
  have kz : ∀ x, Z x → ∀ o, H x = some o → upd H a o' x = some o := fun x z => kz0 x (.inl z)
  have rne : ∀ x ∈ Rr, x ≠ a := fun x m q => by
    have := pm.nodup_iff.mp ndS
    subst q
    exact (List.nodup_append.mp this).2.2 x (by simp) x m rfl
  have s2ne : ∀ x ∈ S2, x ≠ a := fun x m q => (List.nodup_append.mp X.nd).2.2 a aS x m q.symm
  obtain ⟨S', es', pm'⟩ := k (upd H a o') Z [a] (some (.ref a)) s' kt (fun _ z => z) kz (fun x m => kne x (rne x m)) en'
  have eσ : σ.set i (some (.ref a)) = σ := by
    refine List.ext_getElem? fun j => ?_
    by_cases hj : i = j
    · subst hj
      rw [List.getElem?_set_self (List.getElem?_eq_some_iff.mp ev).1, ev]
    · rw [List.getElem?_set_ne hj]
  rw [eσ] at es'
  have pmS : (S' ++ S2).Perm (S1 ++ S2) := List.Perm.append_right S2 (pm'.trans pm.symm)
  refine ⟨Z, S', S2, fun x ox ex mx => ⟨(X.fr x ox ex mx).1, kz0 x (X.fr x ox ex mx).1 _ (X.fr x ox ex mx).2⟩, es', X.et.mono kt (fun _ z => z) kz (fun x m => kne x (s2ne x m)), pmS.nodup_iff.mpr X.nd, fun x m => X.nz x (pmS.mem_iff.mp m), fun p b q => ⟨?_, (X.pu p b q).2.1, fun m => (X.pu p b q).2.2 (pmS.mem_iff.mp m)⟩, fun x z => ?_, X.dj, fun j i' π v e' ev' => ?_⟩
  · exact (X.pu p b q).1.mono (kne p fun z => (X.pu p b q).2.2 (by rw [z]; exact List.mem_append_left _ aS))
  · obtain ⟨ox, ex⟩ := X.ex x z
    exact ⟨ox, kz0 x z _ ex⟩
  · obtain ⟨s0, d', e1, w', g1, g2, g3, g4, wk⟩ := X.al j i' π v e' ev'
    have hj : i ≠ i' := al_set na e'
    refine ⟨s0, d', e1, w', (List.getElem?_set_ne hj).trans g1, g2, g3, g4, ?_⟩
    rw [show (⟨sl, tm, n⟩ : VSt).sl = sl from rfl] at g1
    obtain ⟨S3, es3, pm3⟩ := k H Z [] (some (.ref a)) .jk (fun _ _ h => h) (fun _ z => z) (fun _ _ _ h => h) (fun _ _ _ h => h) (.jk _)
    rw [eσ] at es3
    obtain ⟨v0, T0, R0, ev0, en0, pm0, k0⟩ := es3.at ((List.getElem?_set_ne hj).trans g1)
    obtain ⟨w2, Tw, rfl, t0, sbw⟩ := en0.tr g2
    have : w2 = w' := by rw [g4] at ev0; cases ev0; rfl
    subst this
    refine (Tr.part t0 g3 wk).2 _ kt fun x q => kne x ?_
    rcases q with q | q
    · exact zne x (.inl q)
    · exact rne x (by simpa using pm3.mem_iff.mp (pm0.mem_iff.mpr (List.mem_append_left _ (sbw x q))))
theorem Rel.dput {u : V} {Θ : List V} {s' : Sl} (R : Rel C ⟨sl, .fz y :: .fz d :: tm, n⟩ (v :: u :: Θ) σ H) (e : sl[i]? = some s) (h : dpS s y d = some s') (hl : dlS s < 10000000) (na : noAl i tm = true) : ∃ a H', σ[i]? = some (some (.ref a)) ∧ DPut H a v u H' ∧ Rel C ⟨sl.set i s', tm, n⟩ Θ σ H' := by
  obtain ⟨Z0, A1, A2, X0⟩ := R
  have et0 := X0.et
  dsimp only at et0
  obtain ⟨T0, t⟩ : ∃ T, Tr H Z0 T v y := by
    cases et0 with
    | cons e1 e2 =>
      cases e1 with
      | fz t => exact ⟨_, t⟩
  have R1 := (Rel.pop ⟨Z0, A1, A2, X0⟩ : Rel C ⟨sl, .fz d :: tm, n⟩ (u :: Θ) σ H)
  obtain ⟨Z, B1, B2, X1⟩ := R1
  obtain ⟨fr, es, et, nd, nz, pu, ex, dj, al⟩ := X1
  dsimp only at es et al pu
  cases et with
  | @cons S T _ _ _ _ e1 e2 =>
    cases e1 with
    | fz tu =>
      have X2 : RelX C Z B1 T ⟨sl, tm, n⟩ Θ σ H := ⟨fr, es, e2, by simpa using nd, fun a m => nz a (by simpa using m), fun p b q => ⟨(pu p b q).1, (pu p b q).2.1, fun m => (pu p b q).2.2 (by simpa using m)⟩, ex, dj, fun k j π u e ev => al (k + 1) j π u (by simpa using e) (by simpa using ev)⟩
      obtain ⟨w, T2, Rr, ev, en, pm, _⟩ := es.at e
      cases en with
      | @dc a kvs m ha dv =>
        cases hk : keyD y with
        | none => simp only [dpS, hk] at h; cases h
        | some k =>
          simp only [dpS, hk, Option.map_some, Option.some.injEq] at h
          subst h
          have ek := key_of t hk
          subst ek
          have hlen : kvs.length < sizeLine := by rw [dv.length]; exact szlt (Nat.le_of_lt hl)
          have aS : a ∈ B1 := pm.mem_iff.mpr (by simp)
          have kt : ∀ t vs, H t = some (.tup vs) → upd H a (.dK (putK kvs k u)) t = some (.tup vs) := fun t vs et => by
            rw [upd_ne (show t ≠ a from fun z => by subst z; rw [ha] at et; cases et)]
            exact et
          have kz : ∀ x, Z x → ∀ o, H x = some o → upd H a (.dK (putK kvs k u)) x = some o := fun x z o e => by
            rw [upd_ne (show x ≠ a from fun q => X2.nz a (List.mem_append_left _ aS) (.inl (q ▸ z)))]
            exact e
          exact ⟨a, _, ev, .inl ⟨kvs, k, ha, rfl, hlen, rfl⟩, X2.dcSet e ev (fun T q => by cases q; rfl) ha (fun vs => ⟨(fun z => nomatch z), (fun z => nomatch z)⟩) na _ (.dc upd_same ((dv.put tu).mono kt (fun _ z => z) kz))⟩
      | @dt a kvs m ha dv =>
        cases t with
        | @tup b vs _ ys hb ts =>
          cases hk : keysD ys with
          | none => simp only [dpS, hk] at h; cases h
          | some ks =>
            simp only [dpS, hk, Option.map_some, Option.some.injEq] at h
            subst h
            have ek := keys_of ts hk
            subst ek
            have hlen : kvs.length < sizeLine := by rw [dv.length]; exact szlt (Nat.le_of_lt hl)
            have aS : a ∈ B1 := pm.mem_iff.mpr (by simp)
            have kt : ∀ t vs, H t = some (.tup vs) → upd H a (.dT (putK kvs ks u)) t = some (.tup vs) := fun t vs et => by
              rw [upd_ne (show t ≠ a from fun z => by subst z; rw [ha] at et; cases et)]
              exact et
            have kz : ∀ x, Z x → ∀ o, H x = some o → upd H a (.dT (putK kvs ks u)) x = some o := fun x z o e => by
              rw [upd_ne (show x ≠ a from fun q => X2.nz a (List.mem_append_left _ aS) (.inl (q ▸ z)))]
              exact e
            exact ⟨a, _, ev, .inr ⟨kvs, ks, b, ha, rfl, hb, hlen, rfl⟩, X2.dcSet e ev (fun T q => by cases q; rfl) ha (fun vs => ⟨(fun z => nomatch z), (fun z => nomatch z)⟩) na _ (.dt upd_same ((dv.put tu).mono kt (fun _ z => z) kz))⟩
        | _ => cases h
      | _ => cases h
theorem Rel.dnew {p : Addr} {o : HO} (R : Rel C ⟨sl, tm, n⟩ Θ σ H) (hp : H p = none) (en : ∀ Z, Ent C Z (upd H p o) [p] (some (.ref p)) s) (na : ∀ i π, s ≠ .al i π) : Rel C ⟨sl, s :: tm, n⟩ (.ref p :: Θ) σ (upd H p o) := by
  have np : ∀ a, (∃ o, H a = some o) → a ≠ p := fun a ⟨o, e⟩ z => by rw [z, hp] at e; cases e
  obtain ⟨Z, S1, S2, X⟩ := R
  have sm := same_upd (o := o) hp
  have h1 : RelX C Z S1 S2 ⟨sl, tm, n⟩ Θ σ (upd H p o) := by
    refine ⟨fun a o e m => ⟨(X.fr a o e m).1, sm a o (X.fr a o e m).2⟩, X.es.mono (fun t vs e => sm t _ e) (fun _ z => z) (fun a _ o e => sm a o e) (fun a _ o e => sm a o e), X.et.mono (fun t vs e => sm t _ e) (fun _ z => z) (fun a _ o e => sm a o e) (fun a _ o e => sm a o e), X.nd, X.nz, fun q b e => ⟨(X.pu q b e).1.mono (sm q), (X.pu q b e).2⟩, fun a z => ?_, X.dj, fun k j π u e ev => ?_⟩
    · obtain ⟨o, e⟩ := X.ex a z
      exact ⟨o, sm a o e⟩
    · obtain ⟨s, d', e', w, g1, g2, g3, g4, wk⟩ := X.al k j π u e ev
      obtain ⟨w', T', ew, t, sub⟩ := X.slot g1 g2
      rw [g4] at ew
      cases ew
      exact ⟨s, d', e', w, g1, g2, g3, g4, (Tr.part t g3 wk).2 _ (fun t vs e => sm t _ e) fun a _ o e => sm a o e⟩
  refine ⟨Z, S1, _, h1.pushE (Z' := Z) (en Z) (by simp) (fun a m => ?_) na⟩
  cases List.mem_singleton.mp m
  refine ⟨fun q => ?_, fun z => np _ (X.ex _ z) rfl, fun q b e z => ?_⟩
  · rcases List.mem_append.mp q with q | q
    · exact np _ (X.es.dom _ q) rfl
    · exact np _ (X.et.dom _ q) rfl
  · obtain ⟨x, y, w, e2, _⟩ := (X.pu q b e).1
    exact np _ ⟨_, e2⟩ z.symm
end
section
variable {t ta tb : TE} {k ka kb : KE}
def kDNew : KE := fun γ q => q ⟨γ.sl, .dc [] :: γ.tm, γ.n⟩
def kDNewT : KE := fun γ q => q ⟨γ.sl, .dt [] :: γ.tm, γ.n⟩
theorem so_dnew : SoE xc tDNewK kDNew := fun γ Θ σ H Q q R hk w => fun p hp => w _ _ _ hk (R.dnew hp (fun Z => .dc upd_same .nil) fun i π z => nomatch z)
theorem okS_dc {m : List (Key × D)} : okS (.dc m) = true := rfl
theorem okS_dt {m : List (List Key × D)} : okS (.dt m) = true := rfl
theorem noAl_dc {i : Nat} {m : List (Key × D)} {tm : List Sl} : noAl i (.dc m :: tm) = noAl i tm := by simp [noAl]
theorem noAl_dt {i : Nat} {m : List (List Key × D)} {tm : List Sl} : noAl i (.dt m :: tm) = noAl i tm := by simp [noAl]
def topK (γ : VSt) (q : D → VSt → Prop) : Prop := match γ.tm with
  | .fz y :: tm => q y ⟨γ.sl, tm, γ.n⟩
  | _ => False
/-- d[y] -/
def kDGet (i : Nat) (ky : KE) : KE := fun γ q => isDc γ.sl[i]? ∧ ky γ fun γ1 => topK γ1 fun y γ2 => (γ2.sl[i]?).elim False fun s => (dgS s y).elim False fun r => ∃ d, r = some d ∧ q ⟨γ2.sl, .fz d :: γ2.tm, γ2.n⟩
theorem so_dget {i : Nat} (h : SoE xc t k) : SoE xc (tDGet (tVar i) t) (kDGet i k) := fun γ Θ σ H Q q R hk w => by
  obtain ⟨hd, hk⟩ := hk
  obtain ⟨a, ea⟩ := R.isDc hd
  refine ⟨_, ea, h γ Θ σ H _ _ R hk fun γ1 v H1 hk1 R1 => ?_⟩
  obtain ⟨sl, tm, n⟩ := γ1
  unfold topK at hk1
  dsimp only at hk1
  split at hk1
  · rename_i y tm
    obtain ⟨s, es, hk2⟩ := elimF hk1
    obtain ⟨r, ed, d, er, hq⟩ := elimF hk2
    obtain ⟨a', o, e1, g, _, _, up⟩ := R1.dget es ed
    obtain ⟨u, rfl, R2⟩ := up d er
    rw [ea] at e1
    cases e1
    exact ⟨a, u, rfl, g, w _ _ _ hq R2⟩
  · exact hk1.elim
/-- y in d -/
def kDIn (neg : Bool) (ky : KE) (i : Nat) : KE := fun γ q => ky γ fun γ1 => topK γ1 fun y γ2 => (γ2.sl[i]?).elim False fun s => (dgS s y).elim False fun r => q ⟨γ2.sl, .fz (.bool (neg != r.isSome)) :: γ2.tm, γ2.n⟩
theorem din_core {C : Cn} {γ1 : VSt} {v : V} {Θ : List V} {σ : L2.St} {H1 : Hp} {i : Nat} {neg : Bool} {q : VSt → Prop} (R1 : Rel C γ1 (v :: Θ) σ H1) (hk1 : topK γ1 fun y γ2 => (γ2.sl[i]?).elim False fun s => (dgS s y).elim False fun r => q ⟨γ2.sl, .fz (.bool (neg != r.isSome)) :: γ2.tm, γ2.n⟩) :
    ∃ a o γ2, σ[i]? = some (some (.ref a)) ∧ DGet H1 a v o ∧ q γ2 ∧ Rel C γ2 (.bl (neg != o.isSome) :: Θ) σ H1 := by
  obtain ⟨sl, tm, n⟩ := γ1
  unfold topK at hk1
  dsimp only at hk1
  split at hk1
  · rename_i y tm
    obtain ⟨s, es, hk2⟩ := elimF hk1
    obtain ⟨r, er, hq⟩ := elimF hk2
    obtain ⟨a, o, e1, g, eo, R2, _⟩ := R1.dget es er
    rw [← eo] at hq
    exact ⟨a, o, _, e1, g, hq, R2.push fun Z => .bl _⟩
  · exact hk1.elim
theorem so_din {i : Nat} (h : SoE xc t k) : SoE xc (tDIn t (tVar i)) (kDIn false k i) := fun γ Θ σ H Q q R hk w => h γ Θ σ H _ _ R hk fun γ1 v H1 hk1 R1 => by
  obtain ⟨a, o, γ2, e1, g, hq, R2⟩ := din_core R1 hk1
  refine ⟨_, e1, a, o, rfl, g, w _ _ _ hq ?_⟩
  simpa using R2
theorem so_dnotin {i : Nat} (h : SoE xc t k) : SoE xc (tDNotIn t (tVar i)) (kDIn true k i) := fun γ Θ σ H Q q R hk w => h γ Θ σ H _ _ R hk fun γ1 v H1 hk1 R1 => by
  obtain ⟨a, o, γ2, e1, g, hq, R2⟩ := din_core R1 hk1
  refine ⟨_, e1, a, o, rfl, g, w _ _ _ hq ?_⟩
  have : (true != o.isSome) = !o.isSome := by cases o <;> rfl
  rw [← this]
  exact R2
/-- d[y] = v -/
def kDPut (i : Nat) (kv ky : KE) : KS := fun γ e => kv γ fun γ1 => match γ1.tm with
  | .fz d :: _ => isDc γ1.sl[i]? ∧ ky γ1 fun γ2 => match γ2.tm with
    | .fz y :: .fz d :: tm => (γ2.sl[i]?).elim False fun s => (dpS s y d).elim False fun s' => if noAl i tm = true then dlS s < 10000000 ∧ e.nx ⟨γ2.sl.set i s', tm, γ2.n⟩ else False
    | _ => False
  | _ => False
theorem so_dput {i : Nat} (hv : SoE xc ta ka) (hy : SoE xc tb kb) : SoS xc (sDPut (tVar i) tb ta) (kDPut i ka kb) := fun γ Θ σ H De e R hk w => hv γ Θ σ H _ _ R hk fun γ1 u H1 hk1 R1 => by
  obtain ⟨sl, tm, n⟩ := γ1
  dsimp only at hk1
  split at hk1
  · obtain ⟨hd, hk1⟩ := hk1
    obtain ⟨a, ea⟩ := R1.isDc hd
    refine ⟨_, ea, hy _ _ σ H1 _ _ R1 hk1 fun γ2 v H2 hk2 R2 => ?_⟩
    obtain ⟨sl, tm, n⟩ := γ2
    dsimp only at hk2
    split at hk2
    · rename_i y d tm
      obtain ⟨s, es, hk3⟩ := elimF hk2
      obtain ⟨s', es', hk4⟩ := elimF hk3
      split at hk4
      rotate_left
      · exact hk4.elim
      rename_i na
      obtain ⟨hl, hq⟩ := hk4
      obtain ⟨a', H3, e1, dp, R3⟩ := R2.dput es es' hl na
      rw [ea] at e1
      cases e1
      exact ⟨a, H3, rfl, dp, w.nx _ _ _ hq R3⟩
    · exact hk2.elim
  · exact hk1.elim
/-- a, b, c = x, y, z -/
def kPar3 (i j l : Nat) (ka : KE) : KS := fun γ e => ka γ fun γ1 => match γ1.tm with
  | s3 :: s2 :: s1 :: tm => (okS s3 = true ∧ okS s2 = true ∧ okS s1 = true ∧ noAl i tm = true ∧ noAl j tm = true ∧ noAl l tm = true) ∧ e.nx ⟨((γ1.sl.set i s1).set j s2).set l s3, tm, γ1.n⟩
  | _ => False
theorem noAl_ok {s : Sl} {tm : List Sl} {i : Nat} (h : okS s = true) (na : noAl i tm = true) : noAl i (s :: tm) = true := by
  unfold noAl at na ⊢
  rw [List.all_cons, na, Bool.and_true]
  cases s <;> first | rfl | cases h
theorem so_par3 {i j l : Nat} {ts : TA} (hij : i ≠ j) (hil : i ≠ l) (hjl : j ≠ l) (a : SoA xc 3 ts ka) : SoS xc (tPar3 i j l ts) (kPar3 i j l ka) := fun γ Θ σ H De e R hk w => a γ Θ σ H _ _ R hk fun γ1 vs H1 el hk1 R1 => by
  obtain ⟨sl, tm, n⟩ := γ1
  dsimp only at hk1
  match vs, el with
  | [v, u, x], _ =>
    split at hk1
    · rename_i s3 s2 s1 tm
      obtain ⟨⟨q1, q2, q3, q4, q5, q6⟩, hq⟩ := hk1
      have R2 : Rel C ⟨sl, s3 :: s2 :: s1 :: tm, n⟩ (x :: u :: v :: Θ) σ H1 := R1
      have R3 := ((R2.set (i := l) (okS_ne q1) (noAl_ok q2 (noAl_ok q3 q6))).set (i := j) (okS_ne q2) (noAl_ok q3 q5)).set (i := i) (okS_ne q3) q4
      have e1 : ∀ {α : Type} (L : List α) (a b c : α), ((L.set l a).set j b).set i c = ((L.set i c).set j b).set l a := fun L a b c => by
        rw [List.set_comm _ _ (Ne.symm hjl), List.set_comm _ _ (Ne.symm hil), List.set_comm _ _ (Ne.symm hij)]
      rw [e1, e1] at R3
      exact ⟨v, u, x, rfl, w.nx _ _ _ hq R3⟩
    · exact hk1.elim
end
end G
namespace G
open PySem PySem.Spec PyProof.Rows L2
variable {C : Cn} {xc : XC C}
section
variable {ts : TA} {ka : KE} {n : Nat}
/-- the name i, read at depth j of the stack, is given away there -/
def kSink (j i : Nat) (ka : KE) : KE := fun γ q => ka γ fun γ1 => match γ1.sl[i]? with
  | some (.ow b d) => γ1.tm[j]? = some (.al i []) ∧ noAl i (γ1.tm.set j .jk) = true ∧ q ⟨γ1.sl.set i .jk, γ1.tm.set j (.ow b d), γ1.n⟩
  | some (.fz d) => γ1.tm[j]? = some (.fz d) ∧ q γ1
  | _ => False
end
end G
namespace G
open PySem PySem.Spec PyProof.Rows L2
variable {C : Cn} {xc : XC C}
/-- a dict's entries, whatever its keys are -/
def DSz (h : Heap) (a : Addr) (n : Nat) : Prop := ∃ o es ep, h.get? a = some o ∧ o.ExactDict ∧ o.data = .dict es ep ∧ es.size = n
section
variable {prog : Program} {w : World} {A : Around} {E : Value → Shared → Prop} {s : Shared} {a : Addr} {n : Nat}
theorem DSz.ty (m : DSz s.heap a n) : s.TypeIs (.ref a) "dict" :=
  let ⟨o, _, _, e1, e2, _⟩ := m
  ⟨o, e1, e2.1⟩
end
section
variable {C : Cn} {Z : Reg} {S1 S2 : List Addr} {γ : VSt} {Θ : List V} {σ : L2.St} {H : Hp} {i : Nat}
def kLenD (i : Nat) : KE := fun γ q => match γ.sl[i]? with
  | some (.dc m) => q ⟨γ.sl, .fz (.int m.length) :: γ.tm, γ.n⟩
  | some (.dt m) => q ⟨γ.sl, .fz (.int m.length) :: γ.tm, γ.n⟩
  | _ => False
end
end G
namespace G
open PySem PySem.Spec PyProof.Rows L2
variable {C : Cn} {xc : XC C}
section
variable {C : Cn} {sl tm : List Sl} {n : Int} {v : V} {Θ : List V} {σ : L2.St} {H : Hp} {ds : List D}
/-- a whole list that is given away becomes a tuple -/
theorem Rel.tupO (R : Rel C ⟨sl, .ow true (.list ds) :: tm, n⟩ (v :: Θ) σ H) : ∃ a vs, v = .ref a ∧ H a = some (.lst vs) ∧ ∀ p, H p = none → Rel C ⟨sl, own (.tuple ds) :: tm, n⟩ (.ref p :: Θ) σ (upd H p (.tup vs)) := by
  have ⟨Z, S1, S2, X⟩ := R
  obtain ⟨A, B, es, r, f⟩ := RelX.popF (ss := [.ow true (.list ds)]) (us := [v]) X rfl
  cases es with
  | cons e1 e2 =>
    cases e2
    cases e1 with
    | ow t =>
      cases t with
      | @lst a vs S' _ ha ts =>
        refine ⟨a, vs, rfl, ha, fun p hp => ?_⟩
        have sm := same_upd (o := .tup vs) hp
        obtain ⟨Z', S1', S2', X'⟩ := R.same sm
        obtain ⟨A', B', es', r', f'⟩ := RelX.popF (ss := [.ow true (.list ds)]) (us := [.ref a]) X' rfl
        cases es' with
        | cons e1 e2 =>
          cases e2
          cases e1 with
          | ow t' =>
            cases t' with
            | @lst _ vs' S'' _ ha' ts' =>
              have := sm _ _ ha
              rw [ha'] at this
              cases this
              have en : Ent C Z' (upd H p (.tup vs)) S'' (some (.ref p)) (.ow true (.tuple ds)) := .ow (.tup upd_same ts')
              have R2 := r'.pushF f' (A' := S'') (Dr := [a]) (by simpa using (List.perm_append_comm (l₁ := [a]) (l₂ := S''))) en (fun i π z => nomatch z)
              unfold own
              cases hn : nolist (.tuple ds) with
              | false => exact ⟨_, _, _, R2⟩
              | true =>
                rw [nolist] at hn
                have q := Trs.nolist (Z' := Z') _ _ _ ts' hn
                exact ⟨_, _, _, r'.pushF f' (A' := []) (Dr := [a] ++ S'') (by simp) (.fz (.tup upd_same q.2)) (fun i π z => nomatch z)⟩
            | lstZ h0 _ _ => exact h0.elim
      | lstZ h0 _ _ => exact h0.elim
theorem Rel.tupS {Z : Reg} {S1 S2 : List Addr} {us : List V} {p : Addr} (h : RelX C Z S1 S2 ⟨sl, tm, n⟩ Θ σ H) (t : Trs H Z [] us ds) (hp : H p = none) : Rel C ⟨sl, .fz (.tuple ds) :: tm, n⟩ (.ref p :: Θ) σ (upd H p (.tup us)) := by
  have sm := same_upd (o := .tup us) hp
  have R1 : Rel C ⟨sl, .fz (.list []) :: tm, n⟩ (.ref p :: Θ) σ H → False → False := fun _ z => z
  have h1 : RelX C Z S1 S2 ⟨sl, tm, n⟩ Θ σ (upd H p (.tup us)) := by
    refine ⟨fun a o e m => ⟨(h.fr a o e m).1, sm a o (h.fr a o e m).2⟩, h.es.mono (fun t vs e => sm t _ e) (fun _ z => z) (fun a _ o e => sm a o e) (fun a _ o e => sm a o e), h.et.mono (fun t vs e => sm t _ e) (fun _ z => z) (fun a _ o e => sm a o e) (fun a _ o e => sm a o e), h.nd, h.nz, fun q b e => ⟨(h.pu q b e).1.mono (sm q), (h.pu q b e).2⟩, fun a z => ?_, h.dj, fun k j π u e ev => ?_⟩
    · obtain ⟨o, e⟩ := h.ex a z
      exact ⟨o, sm a o e⟩
    · obtain ⟨s, d', e', w, g1, g2, g3, g4, wk⟩ := h.al k j π u e ev
      obtain ⟨w', T', ew, t, sub⟩ := h.slot g1 g2
      rw [g4] at ew
      cases ew
      exact ⟨s, d', e', w, g1, g2, g3, g4, (Tr.part t g3 wk).2 _ (fun t vs e => sm t _ e) fun a _ o e => sm a o e⟩
  have t' : Trs (upd H p (.tup us)) Z [] us ds := Trs.mono (fun t vs e => sm t _ e) (fun _ z => z) (fun a _ o e => sm a o e) _ _ _ t fun a m => nomatch m
  exact ⟨_, _, _, h1.pushE (Z' := Z) (.fz (.tup upd_same t')) List.nodup_nil (fun a m => nomatch m) (fun i π z => nomatch z)⟩
end
section
variable {K : PySem.W.Frag} {ka : KE}
def kTupOf (ka : KE) : KE := fun γ q => ka γ fun γ1 => match γ1.tm with
  | .ow true (.list ds) :: tm => q ⟨γ1.sl, own (.tuple ds) :: tm, γ1.n⟩
  | s :: tm => (shr γ1.sl s true).elim False fun ds => q ⟨γ1.sl, .fz (.tuple ds) :: tm, γ1.n⟩
  | _ => False
theorem so_tupOf {ts : TA} (h : SoA xc 1 ts ka) : SoE xc (tCB (fun xs H Q => ∃ p ys, xs = [.ref p] ∧ ((SqL K H p ys ∧ ∀ l, H l = none → Q (.ref l) (upd H l (.tup ys))) ∨ (SqT K H p ys ∧ Q (.ref p) H))) ts) (kTupOf ka) := fun γ Θ σ H Q q R hk w => h γ Θ σ H _ _ R hk fun γ1 vs H1 el hk1 R1 => by
  match vs, el, R1 with
  | [v], _, R1 =>
    obtain ⟨sl, tm, j⟩ := γ1
    dsimp only at hk1
    split at hk1
    · rename_i ds tm
      obtain ⟨a, us, rfl, ha, k⟩ := Rel.tupO R1
      exact ⟨a, us, rfl, .inl ⟨SqL.of ha, fun p hp => w _ _ _ hk1 (k p hp)⟩⟩
    · rename_i s tm _
      obtain ⟨ds, e, hq⟩ := elimF hk1
      obtain ⟨a, us, Z, S1, S2, rfl, ha, X, ts⟩ := Rel.shr R1 (l := true) e
      exact ⟨a, us, rfl, .inl ⟨SqL.of ha, fun p hp => w _ _ _ hq (Rel.tupS X ts hp)⟩⟩
    · exact hk1.elim
end
end G
namespace G
open PySem PySem.Spec PyProof.Rows L2
variable {C : Cn} {xc : XC C}
abbrev tame (d : D) : Prop := SeqAt.shaped d = true ∧ d.depth ≤ 60
def vInD (neg : Bool) : D → D → (D → Prop) → Prop := fun d1 d2 q => match d2 with
  | .list es => tame d1 ∧ PyData.canLayAll0 es = true ∧ q (.bool (neg ^^ es.any fun e => PyData.eqv e d1))
  | .tuple es => tame d1 ∧ PyData.canLayAll0 es = true ∧ q (.bool (neg ^^ es.any fun e => PyData.eqv e d1))
  | _ => False
def vIdxD : List D → (D → Prop) → Prop := fun ds q => match ds with
  | [.list es, d] => ∃ j : Nat, tame d ∧ PyData.canLayAll0 es = true ∧ (∃ e, es[j]? = some e ∧ PyData.eqv e d = true) ∧ (∀ (m : Nat) (e : D), m < j → es[m]? = some e → PyData.eqv e d = false) ∧ j < 10000000 ∧ q (.int (j : Nat))
  | _ => False
end G
namespace G
open PySem PySem.Spec PyProof.Rows L2
variable {C : Cn} {xc : XC C}
theorem vals_ints : ∀ {ns : List Int} {us : List Value}, Vals (ns.map V.int) us → IntsAre us ns
  | [], _, h => by cases h; exact .nil
  | n :: ns, _, h => by
    cases h with
    | cons r t =>
      obtain ⟨k, rfl⟩ := r
      exact .cons n k (vals_ints t)
section
variable {K : PySem.W.Frag} {t : TE} {k : KE}
/-- len(set(..)) of numbers -/
def kLenSet (ke : KE) : KE := fun γ q => ke γ fun γ1 => (datN γ1.sl 1 γ1.tm).elim False fun x => match x.1 with
  | [.list es] => (intsOf es).elim False fun ns => ns.length ≤ 4000 ∧ ∀ out : List Int, out.Nodup → (∀ k, k ∈ out ↔ k ∈ ns) → q ⟨γ1.sl, .fz (.int (out.length : Nat)) :: x.2, γ1.n⟩
  | _ => False
end
section
variable {ta tb : TE} {ka kb : KE}
/-- a list of numbers, so many times -/
def kRepN (ka kb : KE) : KE := fun γ q => ka γ fun γ1 => kb γ1 fun γ2 => match γ2.tm with
  | .fz (.int j) :: s :: tm => (shr γ2.sl s true).elim False fun ds => (intsOf ds).elim False fun ns => (-1000000 ≤ j ∧ j ≤ 1000000 ∧ ns.length ≤ 1) ∧ q ⟨γ2.sl, .ow true (dI (List.replicate j.toNat ns).flatten) :: tm, γ2.n⟩
  | _ => False
end
end G
namespace G
open PySem PySem.Spec PyProof.Rows L2
variable {C : Cn} {xc : XC C}
/-- m by place, the others by name: i tells which of all these values is the parameter's -/
def gKwM (m : Nat) (ix : List Nat) (us ws : List Value) : List Value := if us.length = m then ix.filterMap fun i => (us ++ ws)[i]? else []
def gKwMV (m : Nat) (ix : List Nat) (vs zs : List V) : List V := if vs.length = m then ix.filterMap fun i => (vs ++ zs)[i]? else []
theorem vals_app {vs zs : List V} {us ws : List Value} (r : Vals vs us) (rz : Vals zs ws) : Vals (vs ++ zs) (us ++ ws) := by
  induction r with
  | nil => exact rz
  | cons h _ ih => exact .cons h ih
theorem kb_ofM {K : PySem.W.Frag} {fd : FuncData} {ps ks : List Str} {m : Nat} {ix : List Nat} (h0 : 0 < ps.length) (h : ∀ us ws : List Value, us.length = m → (ix.filterMap fun i => (us ++ ws)[i]?).length = ps.length → bindArgs fd ⟨us, ks.zip ws⟩ = pure (ps.zip (ix.filterMap fun i => (us ++ ws)[i]?))) : KBinds K fd ps ks (gKwM m ix) (gKwMV m ix) := by
  refine ⟨fun s us ws _ hl => ?_, fun {vs us zs ws} r rz => ?_⟩
  · unfold gKwM at hl ⊢
    split at hl
    · rename_i e
      rw [if_pos e]
      exact .of_eq (h us ws e hl)
    · change ([] : List Value).length = ps.length at hl
      simp at hl
      omega
  · unfold gKwM gKwMV
    have el := r.length
    by_cases e : vs.length = m
    · rw [if_pos e, if_pos (by omega)]
      exact vals_pick (vals_app r rz) ix
    · rw [if_neg e, if_neg (by omega)]
      exact .nil
def kCallTM (W : Tw) (ix : List Nat) (n : Nat) (ka kb : KE) : KE := fun γ q => ka γ fun γ1 => kb γ1 fun γ2 => (datN γ2.sl n γ2.tm).elim False fun x => W (ix.filterMap fun i => x.1[i]?) fun d => q ⟨γ2.sl, own d :: x.2, γ2.n⟩
end G
namespace G
open PySem PySem.Spec PyProof.Rows L2
variable {C : Cn} {xc : XC C}
section
variable {ka : KE}
def kDivmod (ka : KE) : KE := fun γ q => ka γ fun γ1 => (datN γ1.sl 2 γ1.tm).elim False fun x => match x.1 with
  | [.int i, .int j] => CDiv i j ∧ q ⟨γ1.sl, .fz (.tuple [.int (i / j), .int (i % j)]) :: x.2, γ1.n⟩
  | _ => False
end
end G
namespace G
open PySem PySem.Spec PyProof.Rows L2 PySem.W
variable {C : Cn} {xc : XC C}
section
variable {K : PySem.W.Frag} {ts tk : TA} {ka kb : KE}
def kMaxDef (ka kb : KE) : KE := fun γ q => ka γ fun γ1 => kb γ1 fun γ2 => (datN γ2.sl 2 γ2.tm).elim False fun x => match x.1 with
  | [.list es, .int i] => (intsOf es).elim False fun ns => (ns = [] → q ⟨γ2.sl, .fz (.int i) :: x.2, γ2.n⟩) ∧ ∀ m, m ∈ ns → (∀ y, y ∈ ns → y ≤ m) → q ⟨γ2.sl, .fz (.int m) :: x.2, γ2.n⟩
  | _ => False
/-- repr([..]) of things that go on to be held -/
def kReprL (n : Nat) (ka : KE) : KE := fun γ q => ka γ fun γ1 => (datN γ1.sl n γ1.tm).elim False fun x => vRepr [.list x.1] fun d => q ⟨γ1.sl, .fz d :: x.2, γ1.n⟩
end
end G
namespace G
open PySem PySem.Spec PyProof.Rows L2
variable {C : Cn} {xc : XC C}
def lcL2 (i j : Nat) (kt : KT) (ke : KE) : List D → VSt → (VSt → Prop) → Prop
  | [], γ, q => q γ
  | .tuple [d1, d2] :: ds, γ, q => (noAl i γ.tm = true ∧ noAl j γ.tm = true) ∧ kt ⟨(γ.sl.set i (.fz d1)).set j (.fz d2), γ.tm, γ.n⟩ fun b γ1 => γ1.tm = γ.tm ∧ if b = true then ke γ1 fun γ2 => match γ2.tm with
      | s :: .ow b0 (.list es) :: tm => (con s).elim False fun c => ((noAl i tm = true ∧ noAl j tm = true) ∧ tm = γ.tm.tail ∧ es.length < 10000000) ∧ lcL2 i j kt ke ds ⟨(γ2.sl.set j .jk).set i .jk, .ow (b0 && c.1) (.list (es ++ [c.2])) :: tm, γ2.n⟩ q
      | _ => False
    else lcL2 i j kt ke ds ⟨(γ1.sl.set j .jk).set i .jk, γ1.tm, γ1.n⟩ q
  | _ :: _, _, _ => False
def kLc2 (ki : KI) (i j : Nat) (kt : KT) (ke : KE) : KE := fun γ q => ki γ fun ds γ1 => (noAl i γ1.tm = true ∧ noAl j γ1.tm = true) ∧ lcL2 i j kt ke ds ⟨(γ1.sl.set j .jk).set i .jk, .ow true (.list []) :: γ1.tm, γ1.n⟩ fun γ2 => match γ2.tm with
  | s :: tm => (okS s = true ∧ tm = γ1.tm) ∧ q ⟨γ2.sl, s :: γ.tm, γ2.n⟩
  | _ => False
theorem set4 {α : Type} (σ : List α) {i j : Nat} (h : i ≠ j) (n x y : α) : (((((σ.set j n).set i n).set i x).set j y).set j n).set i n = (σ.set j n).set i n := by
  have k : ∀ l : List α, (((l.set i x).set j y).set j n).set i n = (l.set j n).set i n := fun l => by rw [List.set_set, List.set_comm x n h, List.set_set]
  rw [k, List.set_comm (l := σ.set j n) n n h, List.set_set, List.set_set]
theorem set_jk2 (sl : List Sl) {i j : Nat} (h : i ≠ j) : (((sl.set j .jk).set i .jk)[i]? = some .jk ∨ ((sl.set j .jk).set i .jk)[i]? = none) ∧ (((sl.set j .jk).set i .jk)[j]? = some .jk ∨ ((sl.set j .jk).set i .jk)[j]? = none) := by
  refine ⟨set_jk _ _, ?_⟩
  rw [List.getElem?_set_ne h]
  exact set_jk _ _
theorem so_lc2 {K : PySem.W.Frag} {wi : TI} {ki : KI} {i j : Nat} {tt : TT} {kt : KT} {te : TE} {ke : KE} (hij : i ≠ j) (hi : SoI xc wi ki) (ht : SoT xc tt kt) (he : SoE xc te ke) : SoE xc (tLc wi (gTup K 2 (gCons (gName i) (gCons (gName j) gNil))) tt te [i, j]) (kLc2 ki i j kt ke) := fun γ Θ σ H Q q R hk w => hi γ Θ σ H _ _ R hk fun J ds γ1 Ψ H1 hq hp hJ R1 => by
  obtain ⟨⟨na, nb⟩, hq⟩ := hq
  obtain ⟨sl1, tm1, n1⟩ := γ1
  dsimp only at hq na nb hJ
  intro D hD
  have R2 := ((R1.jk (i := j) nb none).jk (i := i) na none).ints hD []
  refine ⟨fun k m H' => m = ds.length - k ∧ k ≤ ds.length ∧ ∃ sl b es n, lcL2 i j kt ke (ds.drop k) ⟨sl, .ow b (.list es) :: tm1, n⟩ (fun γ2 => match γ2.tm with | s :: tm => (okS s = true ∧ tm = tm1) ∧ q ⟨γ2.sl, s :: γ.tm, γ2.n⟩ | _ => False) ∧ ((sl[i]? = some .jk ∨ sl[i]? = none) ∧ (sl[j]? = some .jk ∨ sl[j]? = none)) ∧ Rel C ⟨sl, .ow b (.list es) :: tm1, n⟩ (.ref D :: Ψ) ((σ.set j none).set i none) H', ⟨ds.length, rfl, Nat.zero_le _, _, true, [], n1, by simpa using hq, set_jk2 _ hij, R2⟩, ?_⟩
  rintro k m H' ⟨rfl, hi, sl, b, es, n, hf, hjk, R'⟩
  obtain ⟨j1, j2⟩ := hJ [.ow b (.list es)] [.ref D] k sl n _ H' rfl R'
  by_cases hlt : k < ds.length
  · right
    have e2 : ds.drop k = ds[k] :: ds.drop (k + 1) := List.drop_eq_getElem_cons hlt
    obtain ⟨g, y⟩ := j1 ds[k] (List.getElem?_eq_getElem hlt)
    rw [e2] at hf
    generalize ds[k] = dk at hf y
    match dk, hf, y with
    | .tuple [d1, d2], hf, y =>
      obtain ⟨⟨na1, nb1⟩, hf⟩ := hf
      have na2 : noAl i (.ow b (.list es) :: tm1) = true := na1
      have nb2 : noAl j (.ow b (.list es) :: tm1) = true := nb1
      refine ⟨g, fun H2 => ∃ sl b es n, lcL2 i j kt ke (ds.drop (k + 1)) ⟨sl, .ow b (.list es) :: tm1, n⟩ (fun γ2 => match γ2.tm with | s :: tm => (okS s = true ∧ tm = tm1) ∧ q ⟨γ2.sl, s :: γ.tm, γ2.n⟩ | _ => False) ∧ ((sl[i]? = some .jk ∨ sl[i]? = none) ∧ (sl[j]? = some .jk ∨ sl[j]? = none)) ∧ Rel C ⟨sl, .ow b (.list es) :: tm1, n⟩ (.ref D :: Ψ) ((σ.set j none).set i none) H2, fun H2 h2 => ⟨ds.length - (k + 1), by omega, rfl, hlt, h2⟩, fun x H3 hy => ?_⟩
      obtain ⟨a, vs, rfl, ha, el, R3⟩ := (y x H3 hy).unpack (ss := [.fz d1, .fz d2]) rfl
      match vs, el with
      | [v1, v2], _ =>
        refine ⟨a, [v1, v2], rfl, SqT.of ha, rfl, v1, [v2], rfl, v2, [], rfl, rfl, set4 σ hij none (some v1) (some v2), ?_⟩
        have R4 : Rel C ⟨(sl.set i (.fz d1)).set j (.fz d2), .ow b (.list es) :: tm1, n⟩ (.ref D :: Ψ) ((((σ.set j none).set i none).set i (some v1)).set j (some v2)) H3 :=
          (R3.set (i := i) (s := .fz d1) (tm := .fz d2 :: .ow b (.list es) :: tm1) (fun i π z => nomatch z) (noAl_cons na2 rfl)).set (fun i π z => nomatch z) nb2
        refine ht _ _ _ H3 _ _ R4 hf fun c γ2 H4 hk4 R4 => ?_
        obtain ⟨et, hk4⟩ := hk4
        obtain ⟨sl2, tm2, n2⟩ := γ2
        dsimp only at et
        subst et
        have back : ∀ {sl : List Sl} {tm : List Sl} {n : Int} {Θ : List V} {H : Hp}, noAl i tm = true → noAl j tm = true → Rel C ⟨sl, tm, n⟩ Θ ((((σ.set j none).set i none).set i (some v1)).set j (some v2)) H → Rel C ⟨(sl.set j .jk).set i .jk, tm, n⟩ Θ ((σ.set j none).set i none) H := fun ha hb R => by
          have := (R.jk (i := j) hb none).jk (i := i) ha none
          rw [set4 σ hij] at this
          exact this
        cases c with
        | false =>
          rw [if_neg (by simp)] at hk4 ⊢
          exact ⟨_, _, _, _, hk4, set_jk2 _ hij, back na2 nb2 R4⟩
        | true =>
          rw [if_pos rfl] at hk4 ⊢
          refine he _ _ _ H4 _ _ R4 hk4 fun γ5 y5 H5 hk5 R5 => ?_
          obtain ⟨sl5, tm5, n5⟩ := γ5
          dsimp only at hk5
          split at hk5
          · rename_i s b0 es0 tm
            obtain ⟨⟨cb, cd⟩, ec, ⟨⟨na5, nb5⟩, et5, hl⟩, hk6⟩ := elimF hk5
            simp only [List.tail_cons] at et5
            subst et5
            obtain ⟨a, vs, ea, ha, el, R6⟩ := R5.grow ec
            cases ea
            exact ⟨vs, ha, szlt (by omega), _, _, _, _, hk6, set_jk2 _ hij, back (noAl_cons na5 rfl) (noAl_cons nb5 rfl) R6⟩
          · exact hk5.elim
  · left
    have e0 : k = ds.length := by omega
    refine ⟨j2 (by omega), ?_⟩
    rw [e0, List.drop_length] at hf
    obtain ⟨⟨h1, _⟩, hq⟩ := hf
    have R3 := (R'.jkσ hjk.1 (noAl_cons na rfl) rfl).jkσ hjk.2 (noAl_cons nb rfl) rfl
    have R4 := hp [.ow b (.list es)] [.ref D] _ _ _ _ rfl (fun s m i π => by
      simp only [List.mem_singleton] at m
      subst m
      exact fun z => nomatch z) R3
    exact w _ _ _ hq R4
theorem set_back {α : Type} (sl : List α) {i j : Nat} (h : i ≠ j) (n x y : α) : ((((sl.set i x).set j y).set j n).set i n) = (sl.set j n).set i n := by
  rw [List.set_set, List.set_comm x n h, List.set_set]
/-- a comprehension with two names by an invariant -/
theorem lc2_inv {i j : Nat} {kt : KT} {ke : KE} {β : Type} {q : VSt → Prop} {sl T : List Sl} (hij : i ≠ j) (b : Bool) (l : List β) (f g : β → D) (P : List β → List D → Int → Prop) (hj : (sl.set j .jk).set i .jk = sl) (na : noAl i T = true) (nb : noAl j T = true)
    (len : ∀ pre acc n, P pre acc n → acc.length < 10000000)
    (step : ∀ pre x post acc n (Y X : VSt → Prop), l = pre ++ x :: post → P pre acc n → (∀ s c cd n', con s = some (c, cd) → (b && c) = b → P (pre ++ [x]) (acc ++ [cd]) n' → Y ⟨(sl.set i (.fz (f x))).set j (.fz (g x)), s :: .ow b (.list acc) :: T, n'⟩) → (∀ n', P (pre ++ [x]) acc n' → X ⟨(sl.set i (.fz (f x))).set j (.fz (g x)), .ow b (.list acc) :: T, n'⟩) →
      kt ⟨(sl.set i (.fz (f x))).set j (.fz (g x)), .ow b (.list acc) :: T, n⟩ fun c γ1 => γ1.tm = .ow b (.list acc) :: T ∧ if c = true then ke γ1 Y else X γ1)
    (fin : ∀ acc n, P l acc n → q ⟨sl, .ow b (.list acc) :: T, n⟩) : ∀ acc n, P [] acc n → lcL2 i j kt ke (l.map fun x => .tuple [f x, g x]) ⟨sl, .ow b (.list acc) :: T, n⟩ q := by
  have main : ∀ (post pre : List β) (acc : List D) (n : Int), l = pre ++ post → P pre acc n → lcL2 i j kt ke (post.map fun x => .tuple [f x, g x]) ⟨sl, .ow b (.list acc) :: T, n⟩ q := by
    intro post
    induction post with
    | nil =>
      intro pre acc n hl hp
      rw [List.append_nil] at hl
      subst hl
      exact fin acc n hp
    | cons x post ih =>
      intro pre acc n hl hp
      have hjj : (((sl.set i (.fz (f x))).set j (.fz (g x))).set j .jk).set i .jk = sl := by rw [set_back sl hij]; exact hj
      refine ⟨⟨noAl_cons na rfl, noAl_cons nb rfl⟩, step pre x post acc n _ _ hl hp (fun s c cd n' hc hb hP => ?_) (fun n' hP => ?_)⟩
      · show (con s).elim False _
        rw [hc]
        refine ⟨⟨⟨na, nb⟩, rfl, len _ _ _ hp⟩, ?_⟩
        dsimp only
        rw [hjj, hb]
        exact ih (pre ++ [x]) _ n' (by rw [hl]; simp) hP
      · dsimp only
        rw [hjj]
        exact ih (pre ++ [x]) _ n' (by rw [hl]; simp) hP
  exact fun acc n h => main l [] acc n rfl h
end G
namespace G
open PySem PySem.Spec PyProof.Rows L2
variable {C : Cn} {xc : XC C}
def chgS : Sl → List Nat → Option (D × (D → Sl))
  | .ow true (.tuple ds), [k] => (ds[k]?).map fun d => (d, fun e => .ow true (.tuple (ds.set k e)))
  | .ow true (.list ds), [k] => (ds[k]?).map fun d => (d, fun e => .ow true (.list (ds.set k e)))
  | .sh d, [k] => if k < 3 then some (d, fun e => .sh e) else none
  | _, _ => none
section
variable {C : Cn} {Z : Reg} {H : Hp} {T0 : List Addr} {w0 v : V} {s : Sl} {d : D} {g : D → Sl} {π : List Nat}
theorem Ent.uniq {A B : List Addr} (h : Ent C Z H A (some w0) s) (k : Ent C Z H B (some w0) s) (e : chgS s π = some (d, g)) : A = B := by
  cases h with
  | ow t => cases k with
    | ow t' => exact repU _ _ _ _ (Tr.repO _ _ _ t) (Tr.repO _ _ _ t')
  | @sh a u S d0 ha t => cases k with
    | @sh _ u' S' _ ha' t' =>
      rw [ha] at ha'
      cases ha'
      exact repU _ _ _ _ (Tr.repO _ _ _ t) (Tr.repO _ _ _ t')
  | jk _ => cases e
  | fz _ => cases e
  | sp _ _ => cases e
  | al _ _ _ => cases e
  | pu _ => cases e
  | io _ _ => cases e
  | dc _ _ => cases e
  | dt _ _ => cases e
  | xv _ _ => cases e
  | ho _ _ _ => cases e
  | xw _ => cases e
def kCallIA (W : TwI) (n : Nat) (ka : KE) : KE := fun γ q => ka γ fun γ1 => (datN γ1.sl n γ1.tm).elim False fun x => match x.2 with
  | .al i π :: r => (nolists x.1 = true ∧ noAl i r = true) ∧ ((γ1.sl[i]?).bind fun s => chgS s π).elim False fun s => W (s.1 :: x.1) fun d e => q ⟨γ1.sl.set i (s.2 e), own d :: r, γ1.n⟩
  | _ => False
end
def itL : Sl → Option (List Sl)
  | .fz (.list ds) => some (ds.map .fz)
  | .ow true (.list ds) => some (ds.map own)
  | _ => none
def kgUnl (n : Nat) (a : KG) : KG := fun γ q => match γ.tm with
  | s :: tm => (itL s).elim False fun ss => ss.length = n ∧ a ⟨γ.sl, ss ++ tm, γ.n⟩ q
  | _ => False
/-- a, b = thrice(purse, frozen, owned) -/
def kThr (ka : KE) (i j : Nat) : KS := fun γ e => ka γ fun γ1 => match γ1.tm with
  | .ow true (.tuple gs) :: .fz (.tuple ts) :: .pu :: r => (1 ≤ γ1.n ∧ ts.length = 3 ∧ gs.length = 3 ∧ i ≠ j ∧ noAl i r = true ∧ noAl j r = true) ∧
      e.nx ⟨(γ1.sl.set i (.fz (.tuple ts))).set j (.ow true (.tuple gs)), r, γ1.n - 1⟩ ∧
      e.nx ⟨(γ1.sl.set i (.fz (.tuple [ts.getD 1 .none, ts.getD 1 .none, ts.getD 1 .none]))).set j (.sh (gs.getD 1 .none)), r, γ1.n - 1⟩
  | _ => False
/-- what is made is frozen -/
def kFz (ke : KE) : KE := fun γ q => ke γ fun γ1 => match γ1.tm with
  | .fz d :: r => q ⟨γ1.sl, .fz d :: r, γ1.n⟩
  | .ow _ d :: r => q ⟨γ1.sl, .fz d :: r, γ1.n⟩
  | _ => False
theorem so_fz {t : TE} {k : KE} (h : SoE xc t k) : SoE xc t (kFz k) := fun γ Θ σ H Q q R hk w => h γ Θ σ H _ _ R hk fun γ1 v H1 hk1 R1 => by
  obtain ⟨sl, tm, n⟩ := γ1
  dsimp only at hk1
  split at hk1
  · exact w _ _ _ hk1 R1
  · exact w _ _ _ hk1 R1.frzT
  · exact hk1.elim
def kCallW (ka : KE) : KE := fun γ q => ka γ fun γ1 => match γ1.tm with
  | .fz d2 :: .fz (.tuple [.int n, .list es]) :: r => (intsOf es).elim False fun gs => (n ≤ 6 ∧ gs.length ≤ 8 → q ⟨γ1.sl, .fz (dE (n, gs)) :: r, γ1.n⟩) ∧ (¬ (n ≤ 6 ∧ gs.length ≤ 8) → q ⟨γ1.sl, .fz d2 :: r, γ1.n⟩)
  | _ => False
theorem datS_sh {d : D} : datS (.sh d) = some (.tuple [d, d, d]) := rfl
theorem chg_sh {d : D} {k : Nat} : chgS (.sh d) [k] = if k < 3 then some (d, fun e => .sh e) else none := rfl
theorem chg_tup {ds : List D} {k : Nat} : chgS (.ow true (.tuple ds)) [k] = (ds[k]?).map fun d => (d, fun e => .ow true (.tuple (ds.set k e))) := rfl
theorem chg_lst {ds : List D} {k : Nat} : chgS (.ow true (.list ds)) [k] = (ds[k]?).map fun d => (d, fun e => .ow true (.list (ds.set k e))) := rfl
end G
namespace G
open PySem PySem.Spec PyProof.Rows L2
variable {C : Cn} {xc : XC C}
section
variable {C : Cn} {Z : Reg} {S1 S2 : List Addr} {σ : L2.St} {H : Hp} {sl tm : List Sl} {n : Int} {v : V} {Θ : List V} {d : D}
/-- an owned tree on the stack is given away: all else stays -/
theorem Rel.eat (h : Rel C ⟨sl, .ow true d :: tm, n⟩ (v :: Θ) σ H) : ∃ S, Rep H S v d ∧ S.Nodup ∧ ∀ H', (∀ a o, H a = some o → a ∉ S → H' a = some o) → Rel C ⟨sl, tm, n⟩ Θ σ H' := by
  obtain ⟨Z, S1, S2, h⟩ := h
  obtain ⟨A, B, es, X, f⟩ := RelX.popF (ss := [.ow true d]) (us := [v]) h rfl
  obtain ⟨A', en, rfl⟩ : ∃ A', Ent C Z H A' (some v) (.ow true d) ∧ A = A' := by
    cases es with
    | cons e1 e2 =>
      cases e2
      exact ⟨_, e1, by simp⟩
  cases en with
  | ow t =>
    have nd := List.nodup_append.mp f.nd
    refine ⟨A, Tr.repO _ _ _ t, nd.1, fun H' fr => ?_⟩
    have kt : ∀ t vs, H t = some (.tup vs) → H' t = some (.tup vs) := fun t' vs e => fr t' _ e fun m => by
      obtain ⟨xs, e2, nt⟩ := Tr.domN _ _ _ t t' m
      rw [e] at e2
      cases e2
      exact nt
    have kz0 : ∀ a, C.tz Z a → ∀ o, H a = some o → H' a = some o := fun a z o e => fr a o e fun m => (f.ok a m).1 z
    have kz : ∀ a, Z a → ∀ o, H a = some o → H' a = some o := fun a z => kz0 a (.inl z)
    have ks : ∀ a ∈ S1 ++ B, ∀ o, H a = some o → H' a = some o := fun a m o e => fr a o e fun m' => nd.2.2 a m' a m rfl
    refine ⟨Z, S1, B, fun a o e m => ⟨(X.fr a o e m).1, kz0 a (X.fr a o e m).1 o (X.fr a o e m).2⟩, X.es.mono kt (fun _ z => z) kz fun a m => ks a (List.mem_append_left _ m), X.et.mono kt (fun _ z => z) kz fun a m => ks a (List.mem_append_right _ m), X.nd, X.nz, fun p b q => ⟨(X.pu p b q).1.mono fun o e => fr p o e fun m => (f.ok p m).2.1 p b q rfl, (X.pu p b q).2⟩, fun a z => ?_, X.dj, fun j i π v' e ev => ?_⟩
    · obtain ⟨o, e⟩ := X.ex a z
      exact ⟨o, kz0 a z o e⟩
    · obtain ⟨s, d', e', w, e1, e2, e3, e4, wk⟩ := X.al j i π v' e ev
      obtain ⟨w', T', ew, t', sub⟩ := X.slot e1 e2
      rw [e4] at ew
      cases ew
      exact ⟨s, d', e', w, e1, e2, e3, e4, (Tr.part t' e3 wk).2 H' kt fun a z => z.elim (kz a) fun m => ks a (List.mem_append_left _ (sub a m))⟩
end
end G
namespace G
open PySem PySem.Spec PyProof.Rows L2
variable {C : Cn} {xc : XC C}
def vLenS : List D → (D → Prop) → Prop := fun ds q => match ds with
  | [.str z] => z.length ≤ 10000000 ∧ q (.int z.length)
  | _ => False
theorem sc_lenS : SoC 1 (fun xs H Q => ∃ z, xs = [.str z] ∧ z.length ≤ sizeLine ∧ Q (.int z.length) H) vLenS := fun H vs T ds Q q r el hf w => by
  unfold vLenS at hf
  split at hf
  · obtain ⟨v, T', rfl, r1⟩ := r.c1
    cases r1
    exact ⟨_, rfl, szle hf.1, w _ _ (sca_int _) hf.2⟩
  · exact hf.elim
def vCatS : D → D → (D → Prop) → Prop := fun d1 d2 q => match d1, d2 with
  | .str a, .str b => a.length + b.length ≤ 10000000 ∧ q (.str (a ++ b))
  | _, _ => False
theorem sr_catS : SoR (fun x y H Q => ∃ i j, x = .str i ∧ y = .str j ∧ i.length + j.length ≤ sizeLine ∧ Q (.str (i ++ j)) H) vCatS := fun H v1 v2 T1 T2 d1 d2 Q q r1 r2 hf w => by
  unfold vCatS at hf
  split at hf
  · cases r1
    cases r2
    exact ⟨_, _, rfl, rfl, szle hf.1, w _ _ (sca_str _) hf.2⟩
  · exact hf.elim
/-- a sign of a text -/
def vIxS : D → D → (D → Prop) → Prop := fun d1 d2 q => match d1, d2 with
  | .str z, .int i => z.length ≤ 10000000 ∧ (atI z.cps.toList i).elim False fun c => q (.str ⟨#[c]⟩)
  | _, _ => False
theorem sr_ixS : SoR rIxS vIxS := fun H v1 v2 T1 T2 d1 d2 Q q r1 r2 hf w => by
  unfold vIxS at hf
  split at hf
  · cases r1
    cases r2
    obtain ⟨c, e, hq⟩ := elimF hf.2
    exact ⟨_, _, c, rfl, rfl, szle hf.1, e, w _ _ (sca_str _) hq⟩
  · exact hf.elim
theorem vIxS_any {z : Str} {i : Int} {q : D → Prop} (h0 : 0 ≤ i) (h1 : i < z.length) (hz : z.length ≤ 10000000) (h : ∀ c ∈ z.cps.toList, q (.str ⟨#[c]⟩)) : vIxS (.str z) (.int i) q := by
  have hl : z.length = z.cps.toList.length := by simp [Str.length]
  obtain ⟨k, rfl⟩ : ∃ k : Nat, i = k := ⟨i.toNat, by omega⟩
  have hk : k < z.cps.toList.length := by omega
  refine ⟨hz, ?_⟩
  rw [atI_nat (List.getElem?_eq_getElem hk)]
  exact h _ (List.getElem_mem hk)
/-- texts out of data -/
def strsOf : List D → Option (List Str)
  | [] => some []
  | .str s :: ds => (strsOf ds).bind fun r => some (s :: r)
  | _ :: _ => none
theorem strsOf_map (ss : List Str) : strsOf (ss.map PyData.str) = some ss := by
  induction ss with
  | nil => rfl
  | cons n ns ih => simp [strsOf, ih]
theorem strsOf_eq : ∀ {ds : List D} {ns : List Str}, strsOf ds = some ns → ds = ns.map PyData.str
  | [], ns, h => by simp only [strsOf, Option.some.injEq] at h; subst h; rfl
  | d :: ds, ns, h => by
    cases d with
    | str i =>
      simp only [strsOf] at h
      cases e : strsOf ds with
      | none => rw [e] at h; cases h
      | some r =>
        rw [e] at h
        simp only [Option.bind_some, Option.some.injEq] at h
        subst h
        rw [strsOf_eq e]
        rfl
    | _ => cases h
theorem Reps.strsInv {H : Hp} : ∀ {ss : List Str} {vs : List V} {T : List Addr}, Reps H T vs (ss.map PyData.str) → vs = ss.map V.str
  | [], _, _, h => by cases h; rfl
  | s :: ss, _, _, h => by
    cases h with
    | cons h1 h2 =>
      cases h1
      rw [Reps.strsInv h2]
      rfl
abbrev rJoin (K : PySem.W.Frag) : V → List V → Hp → VK → Prop := fun x xs H Q => ∃ a p, ∃ ys : List Str, x = .str a ∧ xs = [.ref p] ∧ (SqL K H p (ys.map V.str) ∨ SqT K H p (ys.map V.str)) ∧
    (ys.map (·.length)).sum + ys.length * a.length ≤ 16777216 ∧ Q (.str (Txt.join a ys)) H
/-- a.join(a list of texts) -/
def kJoin (a : Str) (ke : KE) : KE := fun γ q => ke γ fun γ1 => (datN γ1.sl 1 γ1.tm).elim False fun x => match x.1 with
  | [.list ds] => (strsOf ds).elim False fun ys => (ys.map (·.length)).sum + ys.length * a.length ≤ 16777216 ∧ q ⟨γ1.sl, .fz (.str (Txt.join a ys)) :: x.2, γ1.n⟩
  | _ => False
theorem so_join {K : PySem.W.Frag} {a : Str} {t : TE} {ke : KE} (h : SoE xc t ke) : SoE xc (tM1 (rJoin K) (tC (.str a)) t) (kJoin a ke) := fun γ Θ σ H Q q R hk w => ⟨⟨a, rfl⟩, h γ Θ σ H _ _ R hk fun γ1 v H1 hk1 R1 => by
  obtain ⟨⟨ds0, rr⟩, e, hf⟩ := elimF hk1
  obtain ⟨R3, T, rp, _⟩ := Rel.pops (vs := [v]) (Θ := Θ) (by simpa using R1) rfl e
  dsimp only at hf
  split at hf
  · rename_i ds
    obtain ⟨ys, ey, hl, hq⟩ := elimF hf
    obtain rfl := strsOf_eq ey
    cases rp with
    | cons r1 r2 =>
      cases r2
      cases r1 with
      | @lst p vs S _ hp rs =>
        rw [rs.strsInv] at hp
        exact ⟨a, p, ys, rfl, rfl, .inl (SqL.of hp), hl, w _ _ H1 hq (R3.push fun Z => .str _)⟩
  · exact hf.elim⟩
theorem strOk_iff {s : Str} : PyData.strOk s = true ↔ ∀ c ∈ s.cps.toList, c < 0x110000 := by
  unfold PyData.strOk
  rw [Array.all_eq_true]
  refine ⟨fun h c hc => ?_, fun h i hi => ?_⟩
  · obtain ⟨i, hi, rfl⟩ := List.getElem_of_mem hc
    simpa using h i (by simpa using hi)
  · exact decide_eq_true (h _ (by simp))
end G
namespace G
open PySem PySem.Spec PyProof.Rows L2
theorem FnG.imp {P : Program} {w : World} {K : PySem.W.Frag} {mg : Str → Option Value} {base : Heap} {CX : CXT} {k : Nat} {f : Addr} {fd : FuncData} {ps : List Str} {sp sp' : Sp} (F : FnG P w K mg base CX k f fd ps sp) (h : ∀ vs H Q E, sp' vs H Q E → sp vs H Q E) : FnG P w K mg base CX k f fd ps sp' :=
  ⟨fun vs H Q E q => F.len vs H Q E (h _ _ _ _ q), fun A o s H args us vs Q E hg hr e0 bt r q => F.run A o s H args us vs Q E hg hr e0 bt r (h _ _ _ _ q)⟩
end G
namespace G
open PySem PySem.Spec PyProof.Rows L2
variable {C : Cn} {xc : XC C}
section
variable {Z : Reg} {S1 S2 : List Addr} {Θ : List V} {σ : L2.St} {H H' : Hp} {sl tm : List Sl} {n n' : Int} {v : V} {s : Sl} {d : D} {i : Nat}
/-- the heap grows: the same regions -/
theorem RelX.heapX (h0 : RelX C Z S1 S2 ⟨sl, tm, n⟩ Θ σ H) (k : ∀ a o, H a = some o → (∀ p b, C.pu = some (p, b) → a ≠ p) → H' a = some o) (kp : ∀ p b, C.pu = some (p, b) → PuAt H' p (b - n')) : RelX C Z S1 S2 ⟨sl, tm, n'⟩ Θ σ H' := by
  have kt : ∀ t vs, H t = some (.tup vs) → H' t = some (.tup vs) := fun t vs e => k t _ e fun p b q z => by
    subst z
    obtain ⟨x, y, z, e2, _⟩ := (h0.pu t b q).1
    rw [e] at e2
    cases e2
  have kz0 : ∀ a, C.tz Z a → ∀ o, H a = some o → H' a = some o := fun a z o e => k a o e fun p b q y => (h0.pu p b q).2.1 (y ▸ z)
  have kz : ∀ a, Z a → ∀ o, H a = some o → H' a = some o := fun a z => kz0 a (.inl z)
  have ks : ∀ a ∈ S1 ++ S2, ∀ o, H a = some o → H' a = some o := fun a m o e => k a o e fun p b q y => (h0.pu p b q).2.2 (y ▸ m)
  exact ⟨fun a o e m => ⟨(h0.fr a o e m).1, kz0 a (h0.fr a o e m).1 o (h0.fr a o e m).2⟩, h0.es.mono kt (fun _ z => z) kz fun a m => ks a (List.mem_append_left _ m), h0.et.mono kt (fun _ z => z) kz fun a m => ks a (List.mem_append_right _ m), h0.nd, h0.nz, fun p b q => ⟨kp p b q, (h0.pu p b q).2⟩, fun a z => by
      obtain ⟨o, e⟩ := h0.ex a z
      exact ⟨o, kz0 a z o e⟩, h0.dj, fun j i π v e ev => by
      obtain ⟨s, d', e', w, e1, e2, e3, e4, wk⟩ := h0.al j i π v e ev
      obtain ⟨w', T', ew, t, sub⟩ := h0.slot e1 e2
      rw [e4] at ew
      cases ew
      exact ⟨s, d', e', w, e1, e2, e3, e4, (Tr.part t e3 wk).2 H' kt fun a z => z.elim (kz a) fun m => ks a (List.mem_append_left _ (sub a m))⟩⟩
theorem RelX.sameX (h0 : RelX C Z S1 S2 ⟨sl, tm, n⟩ Θ σ H) (k : Same H H') : RelX C Z S1 S2 ⟨sl, tm, n⟩ Θ σ H' :=
  h0.heapX (fun a o e _ => k a o e) fun p b q => (h0.pu p b q).1.mono (k p)
/-- what is new lies nowhere -/
theorem RelX.fresh (h0 : RelX C Z S1 S2 ⟨sl, tm, n⟩ Θ σ H) {a : Addr} (e : H a = none) : a ∉ S1 ++ S2 ∧ ¬ C.tz Z a ∧ ∀ p b, C.pu = some (p, b) → a ≠ p := by
  refine ⟨fun z => ?_, fun z => ?_, fun p b q z => ?_⟩
  · rcases List.mem_append.mp z with z | z
    · obtain ⟨xs, e1⟩ := h0.es.dom a z
      rw [e] at e1
      cases e1
    · obtain ⟨xs, e1⟩ := h0.et.dom a z
      rw [e] at e1
      cases e1
  · obtain ⟨o, e1⟩ := h0.ex a z
    rw [e] at e1
    cases e1
  · obtain ⟨x, y, w, e1, _⟩ := (h0.pu p b q).1
    rw [← z, e] at e1
    cases e1
end
abbrev TwX := List D → (D → Prop) → (Addr → D → Prop) → Prop
abbrev XH := Addr → D → VSt → Prop
section
variable {ts : TA} {ka : KE} {n : Nat} {W : Tw} {WX : TwX} {X : List D → Addr → D → Prop} {ix : List Nat}
/-- any arguments -/
def kCallX (x : XH) (W : TwX) (n : Nat) (ka : KE) : KE := fun γ q => ka γ fun γ1 => (datN γ1.sl n γ1.tm).elim False fun y => W y.1 (fun d => q ⟨γ1.sl, own d :: y.2, γ1.n⟩) fun c d => x c d ⟨γ1.sl, y.2, γ1.n⟩
def kCallXK (x : XH) (W : TwX) (ix : List Nat) (n : Nat) (ka : KE) : KE := fun γ q => ka γ fun γ1 => (datN γ1.sl n γ1.tm).elim False fun y => W (ix.filterMap fun i => y.1[i]?) (fun d => q ⟨γ1.sl, own d :: y.2, γ1.n⟩) fun c d => x c d ⟨γ1.sl, y.2, γ1.n⟩
def kRaise (x : XH) (c : Addr) (ka : KE) : KS := fun γ _ => ka γ fun γ1 => match γ1.tm with
  | .ow true d :: tm => nolist d = false ∧ x c d ⟨γ1.sl, tm, γ1.n⟩
  | .fz d :: tm => nolist d = true ∧ x c d ⟨γ1.sl, tm, γ1.n⟩
  | _ => False
end
def hdE (i : Nat) (e : KEd) : KEd := ⟨fun γ => noAl i γ.tm = true ∧ e.nx ⟨γ.sl.set i .jk, γ.tm, γ.n⟩, e.rt, fun γ => noAl i γ.tm = true ∧ e.bk ⟨γ.sl.set i .jk, γ.tm, γ.n⟩, fun γ => noAl i γ.tm = true ∧ e.ct ⟨γ.sl.set i .jk, γ.tm, γ.n⟩⟩
def hdX (K : PySem.W.Frag) (i : Nat) (e : KEd) : List (Value × (Addr → Addr → Addr → KS)) → XH
  | [] => fun _ _ _ => False
  | (c, h) :: r => fun cls d γ => ∃ b, PySem.W.exmOne K (.ref cls) c = some b ∧ (b = true → noAl i γ.tm = true ∧ ∀ a dd, h a cls dd ⟨γ.sl.set i (.xv a dd d), [], γ.n⟩ (hdE i e)) ∧ (b = false → hdX K i e r cls d γ)
def kTry (K : PySem.W.Frag) (i : Nat) (kb : XH → KS) (hs : List (Value × (Addr → Addr → Addr → KS))) : KS := fun γ e => γ.tm = [] ∧ kb (hdX K i e hs) γ e
/-- e.value in a clause: taken out -/
def kXval (c a dd : Addr) (cls : Addr) (i : Nat) : KE := fun γ q => cls = c ∧ noAl i γ.tm = true ∧ match γ.sl[i]? with
  | some (.xv a' dd' d) => (a' = a ∧ dd' = dd) ∧ q ⟨γ.sl.set i (.xw a dd), own d :: γ.tm, γ.n⟩
  | _ => False
end G
namespace G
open PySem PySem.Spec PyProof.Rows L2
variable {C : Cn} {xc : XC C}
section
variable {t ta tb : TE} {ko ka kb : KE}
def rIns : V → List V → Hp → VK → Prop := fun x vs H Q => ∃ (l : Addr) (xs : List V) (i : Int) (y : V), x = .ref l ∧ vs = [.int i, y] ∧ H l = some (.lst xs) ∧ xs.length < sizeLine ∧ 0 ≤ i ∧ i < 2 ^ 63 ∧
    Q .non (upd H l (.lst (xs.take i.toNat ++ [y] ++ xs.drop i.toNat)))
def kIns (ko ki ke : KE) : KE := fun γ q => ko γ fun γ1 => isLst γ1 ∧ ki γ1 fun γ2 => ke γ2 fun γ3 => match γ3.tm with
  | .fz (.int y) :: .fz (.int k) :: .al i π :: tm => noAl i tm = true ∧ wrL γ3.sl i π fun b d es => ((b = true ∨ π = []) ∧ ioOk γ3.sl i b) ∧ (nolists es = true ∧ es.length < 10000000 ∧ 0 ≤ k ∧ k < 10000000) ∧ q ⟨putS γ3.sl i b (setP d π (.list (es.take k.toNat ++ [.int y] ++ es.drop k.toNat))), .fz .none :: tm, γ3.n⟩
  | _ => False
end
end G
namespace PySem
open Sem (wp)
open AutoSeq1 (wpAny_loadPart')
open PySem.W (KdxIt kdx_alive)
section
variable {prog : Program} {w : World} {A : Around} {E : Value → Shared → Prop} {s : Shared}
/-- a zip, whatever became of the tuple that it gave out -/
def ZipAny (h : Heap) (z TI TO : Addr) : Prop := IsZip h z TI TO .none ∨ ∃ (T : Addr) (f : Bool), IsZipHeld h z TI TO T f
theorem ZipAny.at {h h' : Heap} {z TI TO : Addr} (x : ZipAny h z TI TO) (k : ∀ o, h.get? z = some o → h'.get? z = some o) : ZipAny h' z TI TO := by
  rcases x with x | ⟨T, f, x⟩
  · exact .inl (k _ x)
  · exact .inr ⟨T, f, k _ x⟩
end
end PySem
namespace L2
open PySem PySem.Spec PyProof.Rows
end L2
namespace G
open PySem PySem.Spec PyProof.Rows L2
variable {C : Cn} {xc : XC C}
section
variable {K : PySem.W.Frag} {ta tb : TE} {ka kb : KE}
def kEz (ka kb : KE) : KI := fun γ q => kZip ka kb γ fun ds γ1 => q (enumD 0 ds) γ1
end
end G
namespace G
open PySem PySem.Spec PyProof.Rows L2
variable {C : Cn} {xc : XC C}
def vSumT : List D → (D → Prop) → Prop := fun ds q => match ds with
  | [.tuple es] => (intsOf es).elim False fun ns => q (.int ns.sum)
  | _ => False
end G
namespace G
open PySem PySem.Spec PyProof.Rows L2
variable {C : Cn} {xc : XC C}
/-- tuple(xs) of a name whose list stays its own -/
def kTupV (i : Nat) : KE := fun γ q => match γ.sl[i]? with
  | some (.ow false (.list ds)) => q ⟨γ.sl, .fz (.tuple ds) :: γ.tm, γ.n⟩
  | _ => False
end G
namespace G
open PySem PySem.Spec PyProof.Rows L2
def vMaxL : List D → (D → Prop) → Prop := fun ds q => match ds with
  | [.list es] => (intsOf es).elim False fun ns => 0 < ns.length ∧ ∀ m, m ∈ ns → (∀ y, y ∈ ns → y ≤ m) → q (.int m)
  | _ => False
end G
namespace G
open PySem PySem.Spec PyProof.Rows L2
variable {C : Cn} {xc : XC C}
section
variable {K : PySem.W.Frag}
/-- xs[k] of names: the item goes out of the list -/
def kIxTake (r k : Nat) : KE := fun γ q => match γ.sl[r]?, γ.sl[k]? with
  | some (.ow true (.list ds)), some (.fz (.int i)) => (noAl r γ.tm = true ∧ 0 ≤ i ∧ i < ds.length) ∧ (ds[i.toNat]?).elim False fun d => q ⟨γ.sl.set r (.ho ds i.toNat), own d :: γ.tm, γ.n⟩
  | _, _ => False
/-- xs[k] = e of names: the place that was left is filled -/
def kgFill (r k : Nat) : KG := fun γ q => match γ.tm, γ.sl[r]?, γ.sl[k]? with
  | s :: tm, some (.ho ds i), some (.fz (.int j)) => (con s).elim False fun c => (c.1 = true ∧ noAl r (s :: tm) = true ∧ j = (i : Int) ∧ i < ds.length) ∧ q ⟨γ.sl.set r (.ow true (.list (ds.set i c.2))), tm, γ.n⟩
  | _, _, _ => False
/-- list(t) of a whole tuple that is given away -/
def kListMv (ka : KE) : KE := fun γ q => ka γ fun γ1 => match γ1.tm with
  | .ow true (.tuple ds) :: tm => q ⟨γ1.sl, .ow true (.list ds) :: tm, γ1.n⟩
  | _ => False
end
end G
namespace G
open PySem PySem.Spec PyProof.Rows L2
/-- a tree whose lists are new or of these -/
def ShN (S : List Addr) (H H' : Hp) (v : V) (d : D) : Prop := ∃ L, Rep H' L v d ∧ ∀ a ∈ L, a ∈ S ∨ H a = none
/-- a def that changes nothing; its result may share -/
def spS (W : Tw) : Sp := fun vs H Q _ => ∃ S ds G, Reps H S vs ds ∧ W ds G ∧ ∀ d v H', G d → Same H H' → ShN S H H' v d → Q v H'
def spPS (c : Int) (W : Tw) : Sp := fun vs H Q _ => ∃ p b vs' S ds G, vs = .ref p :: vs' ∧ PuAt H p b ∧ b + c ≤ 2 ^ 100 ∧ Reps H S vs' ds ∧ p ∉ S ∧ W ds G ∧ ∀ d v H', G d → (∀ a o, H a = some o → a ≠ p → H' a = some o) → PuAt H' p (b + c) → ShN S H H' v d → Q v H'
section
variable {C : Cn} {Z : Reg} {S1 S2 A : List Addr} {γ : VSt} {Θ : List V} {σ : L2.St} {H H' : Hp} {sl tm : List Sl} {n n' : Int} {v : V} {s : Sl} {d : D} {i : Nat}
/-- the region grows by cells that lie nowhere -/
theorem RelX.growN (h : RelX C Z S1 S2 γ Θ σ H) (N : Reg) (f : ∀ a, N a → Z a ∨ (a ∉ S1 ++ S2 ∧ ¬ C.tz Z a ∧ ∀ p b, C.pu = some (p, b) → a ≠ p)) (ex : ∀ a, N a → ∃ o, H a = some o) : RelX C (fun a => Z a ∨ N a) S1 S2 γ Θ σ H := by
  refine ⟨fun a o e m => ⟨(h.fr a o e m).1.imp .inl id, (h.fr a o e m).2⟩, h.es.mono (fun _ _ h => h) (fun _ z => .inl z) (fun _ _ _ h => h) (fun _ _ _ h => h), h.et.mono (fun _ _ h => h) (fun _ z => .inl z) (fun _ _ _ h => h) (fun _ _ _ h => h), h.nd, fun a m => ?_, fun p b q => ⟨(h.pu p b q).1, ?_, (h.pu p b q).2.2⟩, fun a z => ?_, fun a z => z.elim (h.dj a) fun m => ?_, h.al⟩
  · rintro ((z | z) | z)
    · exact h.nz a m (.inl z)
    · rcases f a z with z | z
      · exact h.nz a m (.inl z)
      · exact z.1 m
    · exact h.nz a m (.inr z)
  · rintro ((z | z) | z)
    · exact (h.pu p b q).2.1 (.inl z)
    · rcases f p z with z | z
      · exact (h.pu p b q).2.1 (.inl z)
      · exact z.2.2 p b q rfl
    · exact (h.pu p b q).2.1 (.inr z)
  · rcases z with (z | z) | z
    · exact h.ex a (.inl z)
    · exact ex a z
    · exact h.ex a (.inr z)
  · rcases f a m with z | z
    · exact h.dj a z
    · exact fun q => z.2.1 (.inr q)
/-- a tree of frozen and of new cells on the stack -/
theorem RelX.pushS {L : List Addr} (h : RelX C Z S1 S2 ⟨sl, tm, n⟩ Θ σ H) (r : Rep H L v d) (f : ∀ a ∈ L, Z a ∨ (a ∉ S1 ++ S2 ∧ ¬ C.tz Z a ∧ ∀ p b, C.pu = some (p, b) → a ≠ p)) : Rel C ⟨sl, .fz d :: tm, n⟩ (v :: Θ) σ H := by
  have t : Tr H noReg L v d := Rep.tr _ _ _ r
  have g := h.growN (fun a => a ∈ L) f fun a m => by
    obtain ⟨xs, e⟩ := Tr.dom _ _ _ t a m
    exact ⟨_, e⟩
  exact ⟨_, S1, _, g.pushE (Z' := Z) (.fz (Tr.freeze (Z' := fun a => Z a ∨ a ∈ L) (fun _ z => z.elim) _ _ _ t fun a m => .inr m)) List.nodup_nil (fun a m => nomatch m) (fun i π z => nomatch z)⟩
/-- a temp that may be frozen -/
def fzD : Sl → Option D
  | .fz d => some d
  | .ow _ d => some d
  | _ => none
def fzA : Nat → List Sl → Option (List D × List Sl)
  | 0, tm => some ([], tm)
  | _ + 1, [] => none
  | n + 1, s :: tm => (fzD s).bind fun d => (fzA n tm).bind fun x => some (x.1 ++ [d], x.2)
theorem RelX.popZ (h : RelX C Z S1 S2 ⟨sl, s :: tm, n⟩ (v :: Θ) σ H) (e : fzD s = some d) : ∃ Z' B, (∀ a, Z a → Z' a) ∧ RelX C Z' S1 B ⟨sl, tm, n⟩ Θ σ H ∧ ∃ T, Rep H T v d ∧ ∀ a ∈ T, Z' a := by
  obtain ⟨A, B, en, X, f⟩ := RelX.popF (ss := [s]) (us := [v]) h rfl
  obtain ⟨A', e1, rfl⟩ : ∃ A', Ent C Z H A' (some v) s ∧ A = A' := by
    cases en with
    | cons e1 e2 =>
      cases e2
      exact ⟨_, e1, by simp⟩
  have t : Tr H Z A v d := by
    cases e1 with
    | fz t => cases e; exact t
    | ow t => cases e; exact t.weak fun _ z => z.elim
    | sp q t => cases e; exact .lst q t
    | _ => cases e
  obtain ⟨T, r, sub⟩ := Tr.rep _ _ _ t
  exact ⟨_, B, fun _ z => .inl z, X.growF f, T, r, fun a m => (sub a m).symm⟩
theorem RelX.popsZ : ∀ {k : Nat} {tm r : List Sl} {S2 : List Addr} {Z : Reg} {ds : List D} {vs Θ : List V}, RelX C Z S1 S2 ⟨sl, tm, n⟩ (vs.reverse ++ Θ) σ H → vs.length = k → fzA k tm = some (ds, r) →
    ∃ Z' B, (∀ a, Z a → Z' a) ∧ RelX C Z' S1 B ⟨sl, r, n⟩ Θ σ H ∧ ∃ T, Reps H T vs ds ∧ ∀ a ∈ T, Z' a
  | 0, tm, r, S2, Z, ds, vs, Θ, R, el, e => by
    simp only [fzA, Option.some.injEq, Prod.mk.injEq] at e
    obtain ⟨rfl, rfl⟩ := e
    match vs, el with
    | [], _ => exact ⟨Z, S2, fun _ z => z, R, [], .nil, fun _ z => nomatch z⟩
  | k + 1, [], _, _, _, _, _, _, _, _, e => by cases e
  | k + 1, s :: tm, r, S2, Z, ds, vs, Θ, R, el, e => by
    simp only [fzA] at e
    cases e1 : fzD s with
    | none => rw [e1] at e; cases e
    | some d =>
      cases e2 : fzA k tm with
      | none => rw [e1, e2] at e; cases e
      | some x =>
        rw [e1, e2] at e
        simp only [Option.bind_some, Option.some.injEq, Prod.mk.injEq] at e
        obtain ⟨rfl, rfl⟩ := e
        have hne : vs ≠ [] := fun z => by rw [z] at el; cases el
        obtain ⟨us, v, rfl⟩ : ∃ us v, vs = us ++ [v] := ⟨_, _, (List.dropLast_concat_getLast hne).symm⟩
        rw [List.reverse_append] at R
        have R' : RelX C Z S1 S2 ⟨sl, s :: tm, n⟩ (v :: (us.reverse ++ Θ)) σ H := R
        obtain ⟨Z1, B1, z1, X1, T1, r1, t1⟩ := R'.popZ e1
        obtain ⟨Z2, B2, z2, X2, T2, r2, t2⟩ := RelX.popsZ (k := k) (ds := x.1) (r := x.2) (vs := us) X1 (by simpa using el) e2
        refine ⟨Z2, B2, fun a z => z2 a (z1 a z), X2, T2 ++ (T1 ++ []), r2.append (.cons r1 .nil), fun a m => ?_⟩
        rcases List.mem_append.mp m with m | m
        · exact t2 a m
        · exact z2 a (t1 a (by simpa using m))
end
section
variable {C : Cn} {xc : XC C} {k n : Nat} {ka kb : KE}
def kCallS (W : Tw) (n : Nat) (ka : KE) : KE := fun γ q => ka γ fun γ1 => (fzA n γ1.tm).elim False fun x => W x.1 fun d => q ⟨γ1.sl, .fz d :: x.2, γ1.n⟩
theorem so_callS {W : Tw} {ts : TA} (h : SoA xc n ts ka) : SoE xc (tCall (spS W) [] E0 ts) (kCallS W n ka) := fun γ Θ σ H Q q R hk w => h γ Θ σ H _ _ R hk fun γ1 vs H1 el hk1 R1 => by
  obtain ⟨⟨ds, rr⟩, e, hf⟩ := elimF hk1
  obtain ⟨Z, S1, S2, X⟩ := R1
  obtain ⟨Z', B, _, X2, T, rp, tz⟩ := X.popsZ el e
  rw [List.append_nil]
  refine ⟨T, ds, _, rp, hf, fun d v H' hq sm sh => w _ v H' hq ?_⟩
  obtain ⟨L, r, fl⟩ := sh
  refine (X2.sameX sm).pushS r fun a m => ?_
  rcases fl a m with z | z
  · exact .inl (tz a z)
  · exact .inr (X2.fresh z)
def kCallSK (W : Tw) (ix : List Nat) (n : Nat) (ka : KE) : KE := fun γ q => ka γ fun γ1 => (fzA n γ1.tm).elim False fun x => W (ix.filterMap fun i => x.1[i]?) fun d => q ⟨γ1.sl, .fz d :: x.2, γ1.n⟩
def kCallPS (c : Int) (W : Tw) (n : Nat) (ka : KE) : KE := fun γ q => ka γ fun γ1 => (fzA n γ1.tm).elim False fun x => match x.2 with
  | .pu :: r => (0 ≤ c ∧ c ≤ γ1.n) ∧ W x.1 fun d => q ⟨γ1.sl, .fz d :: r, γ1.n - c⟩
  | _ => False
theorem so_callPS {c : Int} {W : Tw} {ts : TA} (h : SoA xc (n + 1) ts ka) : SoE xc (tCall (spPS c W) [] E0 ts) (kCallPS c W n ka) := fun γ Θ σ H Q q R hk w => h γ Θ σ H _ _ R hk fun γ1 vs H1 el hk1 R1 => by
  obtain ⟨⟨ds, rr⟩, e, hf⟩ := elimF hk1
  match vs, el with
  | v :: vs, el =>
    rw [List.reverse_cons, List.append_assoc] at R1
    obtain ⟨Z, S1, S2, X⟩ := R1
    obtain ⟨Z', B, _, X2, T, rp, tz⟩ := X.popsZ (Θ := [v] ++ Θ) (by simpa using el) e
    dsimp only at hf
    split at hf
    · rename_i r
      obtain ⟨⟨c0, c1⟩, hw⟩ := hf
      have X3 : RelX C Z' S1 B ⟨γ1.sl, .pu :: r, γ1.n⟩ (v :: Θ) σ H1 := X2
      obtain ⟨A, B2, es, X4, f⟩ := RelX.popF (ss := [.pu]) (us := [v]) X3 rfl
      have pv : ∃ p b, C.pu = some (p, b) ∧ v = .ref p := by
        cases es with
        | cons e1 e2 =>
          cases e1 with
          | pu q => exact ⟨_, _, q, rfl⟩
      obtain ⟨p, b, epu, rfl⟩ := pv
      have bok := C.ok p b epu
      rw [List.append_nil]
      refine ⟨p, b - γ1.n, vs, T, ds, _, rfl, (X4.pu p b epu).1, by omega, rp, fun m => (X4.pu p b epu).2.1 (.inl (tz p m)), hw, fun d v' H' hq sm pu' sh => w _ v' H' hq ?_⟩
      obtain ⟨L, r', fl⟩ := sh
      have X5 := X4.heapX (H' := H') (n' := γ1.n - c) (fun a o e ne => sm a o e (ne p b epu)) (fun q b' eq => by
        rw [epu] at eq
        cases eq
        have : b - (γ1.n - c) = b - γ1.n + c := by omega
        rw [this]
        exact pu')
      refine X5.pushS r' fun a m => ?_
      rcases fl a m with z | z
      · exact .inl (tz a z)
      · exact .inr (X4.fresh z)
    · exact hf.elim
end
/-- the end of a def whose result may share -/
def rtS (G : D → Prop) : Sl → Prop
  | .fz d => G d
  | .ow _ d => G d
  | _ => False
def edS (G : D → Prop) : KEd := ⟨fun _ => G .none, fun s _ => rtS G s, fun _ => False, fun _ => False⟩
def edPS (G : D → Prop) : KEd := ⟨fun γ => 0 ≤ γ.n ∧ G .none, fun s γ => 0 ≤ γ.n ∧ rtS G s, fun _ => False, fun _ => False⟩
abbrev cnS (H : Hp) (S : List Addr) (pu : Option (Addr × Int)) (ok : ∀ p b, pu = some (p, b) → b ≤ 2 ^ 100) : Cn := ⟨H, fun a => ∃ b, pu = some (a, b), pu, ok, none, fun a => (∃ o, H a = some o) ∧ a ∉ S ∧ ∀ p b, pu = some (p, b) → a ≠ p⟩
theorem Rel.startS {H : Hp} {S : List Addr} {vs : List V} {ds : List D} {N : List Str} (r : Reps H S vs ds) (pu : Option (Addr × Int)) (ok : ∀ p b, pu = some (p, b) → b ≤ 2 ^ 100) (n : Int) (hpu : ∀ p b, pu = some (p, b) → PuAt H p (b - n) ∧ p ∉ S) (us : List V) (ss : List Sl)
    (hu : (us = [] ∧ ss = []) ∨ ∃ p b, pu = some (p, b) ∧ us = [.ref p] ∧ ss = [.pu]) (hN : (us ++ vs).length ≤ N.length) :
    Rel (cnS H S pu ok) ⟨ss ++ ds.map Sl.fz ++ List.replicate (N.length - (us ++ vs).length) .jk, [], n⟩ [] (L2.start N (us ++ vs)) H := by
  have jks : ∀ (k : Nat) {C : Cn} {Z : Reg}, Ents C Z H [] (List.replicate k none) (List.replicate k .jk) := fun k => by
    induction k with
    | zero => exact .nil
    | succ k ih => exact .cons (S := []) (.jk _) ih
  have tr := Reps.tr (Z := noReg) _ _ _ r
  have dom : ∀ a ∈ S, ∃ o, H a = some o := fun a m => by
    obtain ⟨xs, e⟩ := Reps.dom _ _ _ r a m
    exact ⟨_, e⟩
  refine ⟨fun a => a ∈ S, [], [], ⟨fun a o e m => ⟨?_, e⟩, ?_, .nil, List.nodup_nil, fun a m => (nomatch m), fun p b q => ⟨(hpu p b q).1, fun z => z.elim (hpu p b q).2 fun z => z.2.2 p b q rfl, fun m => (nomatch m)⟩, fun a z => z.elim (dom a) fun z => z.1, fun a z q => q.2.1 z, fun k i π v e => by simp at e⟩⟩
  · by_cases hm : a ∈ S
    · exact .inl hm
    · exact .inr ⟨⟨o, e⟩, hm, fun p b q z => m ⟨b, z ▸ q⟩⟩
  have fz := Trs.fzs (C := cnS H S pu ok) (Z := fun a => a ∈ S) (Trs.freeze (Z' := fun a => a ∈ S) (fun _ z => z.elim) _ _ _ tr fun a m => m) rfl
  show Ents _ _ H [] (L2.start N (us ++ vs)) (ss ++ ds.map Sl.fz ++ List.replicate (N.length - (us ++ vs).length) .jk)
  unfold L2.start
  rw [List.map_append]
  have mid := Ents.append fz (jks (N.length - (us ++ vs).length))
  rcases hu with ⟨rfl, rfl⟩ | ⟨p, b, q, rfl, rfl⟩
  · simpa using mid
  · exact .cons (S := []) (.pu q) mid
theorem Rel.outS {H0 : Hp} {S : List Addr} {pu : Option (Addr × Int)} {ok : ∀ p b, pu = some (p, b) → b ≤ 2 ^ 100} {sl tm : List Sl} {s : Sl} {n : Int} {v : V} {Θ : List V} {σ : L2.St} {H : Hp} {G : D → Prop} (R : Rel (cnS H0 S pu ok) ⟨sl, s :: tm, n⟩ (v :: Θ) σ H) (h : rtS G s) : ∃ d, G d ∧ ShN S H0 H v d := by
  obtain ⟨Z, S1, S2, X⟩ := R
  have go : ∀ d, fzD s = some d → G d → ∃ d, G d ∧ ShN S H0 H v d := fun d e g => by
    obtain ⟨Z', B, _, X', T, r, tz⟩ := X.popZ e
    refine ⟨d, g, T, r, fun a m => ?_⟩
    by_cases hs : a ∈ S
    · exact .inl hs
    · right
      cases q : H0 a with
      | none => rfl
      | some o =>
        exfalso
        refine X'.dj a (tz a m) ⟨⟨o, q⟩, hs, fun p b e z => (X'.pu p b e).2.1 (.inl (z ▸ tz a m))⟩
  cases s with
  | fz d => exact go d rfl h
  | ow b d => exact go d rfl h
  | _ => exact h.elim
section
variable {K : PySem.W.Frag} {P : Program} {w : World} {mg : Str → Option Value} {base : Heap} {kl : Nat} {f : Addr} {fd : FuncData} {ps : List Str}
theorem okSh {x qual : Str} {st : Stmt} {N : List Str} {W : Tw} {kb : KS} (F : Fun K x qual st f fd) (S : FnScope N ps (defScope st)) (hN : ps.length ≤ N.length) (har : ∀ ds G, W ds G → ds.length = ps.length)
    (hb : ∀ (cdv : Value) (A : Around) (outer : List Env) (s : Shared) (H : Hp) (E : XK), Bare (A.deeper (envOfC qual (defScope st) s.heap.objs.size f cdv)) → Room kl (A.deeper (envOfC qual (defScope st) s.heap.objs.size f cdv)) → ∃ t, PSs (cxOf CX0 P w K mg base N qual (defScope st) f cdv A outer s H E).nox (defBody st) t ∧ ∀ (C : Cn) (xc : XC C), SoS xc t kb)
    (val : ∀ ds G, W ds G → kb ⟨ds.map Sl.fz ++ List.replicate (N.length - ps.length) .jk, [], 0⟩ (edS G)) : FnG P w K mg base CX0 (kl + 1) f fd ps (spS W) := by
  refine okG F S (fun vs H Q E h => ?_) (fun cdv A outer s H vs Q E hg hr h => ?_)
  · obtain ⟨S, ds, Gq, r, hw, _⟩ := h
    rw [r.length]
    exact har _ _ hw
  · obtain ⟨t, hp, so⟩ := hb cdv A outer s H E hg hr
    obtain ⟨S, ds, Gq, r, hw, hk⟩ := h
    have el := r.length
    have ea := har _ _ hw
    have sm : ∀ {Z S1 S2 γ Θ σ H'}, RelX (cnS H S none fun _ _ z => (nomatch z)) Z S1 S2 γ Θ σ H' → Same H H' := fun X a o e => (X.fr a o e (fun ⟨b, z⟩ => nomatch z)).2
    refine ⟨t, hp, so (cnS H S none fun _ _ z => (nomatch z)) (noXC _) _ [] _ H _ (edS Gq) (by simpa using Rel.startS (N := N) r none (fun _ _ z => nomatch z) 0 (fun _ _ z => nomatch z) [] [] (.inl ⟨rfl, rfl⟩) (by simp; omega)) (by rw [el, ea]; exact val ds Gq hw) ⟨fun γ' σ' H' hn R => ?_, fun s γ' v Θ' σ' H' hr R => ?_, fun _ _ _ z _ => z.elim, fun _ _ _ z _ => z.elim⟩⟩
    · obtain ⟨Z, S1, S2, X⟩ := R
      exact hk _ _ _ hn (sm X) ⟨[], .non, fun a m => nomatch m⟩
    · obtain ⟨d, hG, nw⟩ := R.outS hr
      obtain ⟨Z, S1, S2, X⟩ := R
      exact hk _ _ _ hG (sm X) nw
theorem okPSh {x qual : Str} {st : Stmt} {N : List Str} {W : Tw} {kb : KS} {c : Int} (F : Fun K x qual st f fd) (S : FnScope N ps (defScope st)) (hN : ps.length ≤ N.length) (har : ∀ ds G, W ds G → ds.length + 1 = ps.length) (hc : 0 ≤ c)
    (hb : ∀ (cdv : Value) (A : Around) (outer : List Env) (s : Shared) (H : Hp) (E : XK), Bare (A.deeper (envOfC qual (defScope st) s.heap.objs.size f cdv)) → Room kl (A.deeper (envOfC qual (defScope st) s.heap.objs.size f cdv)) → ∃ t, PSs (cxOf CX0 P w K mg base N qual (defScope st) f cdv A outer s H E).nox (defBody st) t ∧ ∀ (C : Cn) (xc : XC C), SoS xc t kb)
    (val : ∀ ds G, W ds G → kb ⟨.pu :: (ds.map Sl.fz ++ List.replicate (N.length - ps.length) .jk), [], c⟩ (edPS G)) : FnG P w K mg base CX0 (kl + 1) f fd ps (spPS c W) := by
  refine okG F S (fun vs H Q E h => ?_) (fun cdv A outer s H vs Q E hg hr h => ?_)
  · obtain ⟨p, b, vs', S, ds, Gq, rfl, _, _, r, _, hw, _⟩ := h
    rw [List.length_cons, r.length]
    exact har _ _ hw
  · obtain ⟨t, hp, so⟩ := hb cdv A outer s H E hg hr
    obtain ⟨p, b, vs', S, ds, Gq, rfl, hpu, hb, r, np, hw, hk⟩ := h
    have el := r.length
    have ea := har _ _ hw
    have ok : ∀ q b', (some (p, b + c) : Option (Addr × Int)) = some (q, b') → b' ≤ 2 ^ 100 := fun q b' z => by cases z; omega
    have e0 : b + c - c = b := by omega
    refine ⟨t, hp, so (cnS H S (some (p, b + c)) ok) (noXC _) _ [] _ H _ (edPS Gq) (Rel.startS (N := N) r (some (p, b + c)) ok c (fun q b' z => by cases z; exact ⟨e0.symm ▸ hpu, np⟩) [.ref p] [.pu] (.inr ⟨p, b + c, rfl, rfl, rfl⟩) (by simp; omega)) ?_ ⟨fun γ' σ' H' hn R => ?_, fun s γ' v Θ' σ' H' hr R => ?_, fun _ _ _ z _ => z.elim, fun _ _ _ z _ => z.elim⟩⟩
    · have e1 : ([V.ref p] ++ vs').length = ps.length := by simp; omega
      rw [e1]
      exact val ds Gq hw
    · obtain ⟨Z, S1, S2, X⟩ := R
      exact hk _ _ _ hn.2 (fun a o e ne => (X.fr a o e (fun ⟨b, z⟩ => by cases z; exact ne rfl)).2) ((X.pu p _ rfl).1.le (by have := hn.1; omega)) ⟨[], .non, fun a m => nomatch m⟩
    · obtain ⟨d, hG, nw⟩ := R.outS hr.2
      obtain ⟨Z, S1, S2, X⟩ := R
      exact hk _ _ _ hG (fun a o e ne => (X.fr a o e (fun ⟨b, z⟩ => by cases z; exact ne rfl)).2) ((X.pu p _ rfl).1.le (by have := hr.1; dsimp only; omega)) nw
end
end G
namespace PySem
open Sem (wp)
end PySem
namespace G
open PySem PySem.Spec PyProof.Rows L2
def v4I (g : Int → Int → Int → Int → Int) : List D → (D → Prop) → Prop := fun ds q => match ds with
  | [.int i, .int j, .int k, .int l] => q (.int (g i j k l))
  | _ => False
end G
namespace G
open PySem PySem.Spec PyProof.Rows L2
section
variable {P : Program} {w : World} {H : Hp} {h : Heap}
mutual
/-- a tree reads as its data -/
theorem Rep.reads (ok : HOk P w H h) : ∀ (d : D) (S : List Addr) (v : V) (u : Value), Rep H S v d → RelV v u → d.hasDict = false → ∃ as, Reads h u d as
  | .none, _, _, _, r, q, _ => by cases r; cases q; exact ⟨_, .none⟩
  | .bool b, _, _, _, r, q, _ => by cases r; cases q; exact ⟨_, .bool b⟩
  | .int i, _, _, _, r, q, _ => by cases r; obtain ⟨t, rfl⟩ := q; exact ⟨_, .int i t⟩
  | .str x, _, _, _, r, q, _ => by cases r; obtain ⟨t, rfl⟩ := q; exact ⟨_, .str x t⟩
  | .list ds, _, _, _, r, q, nd => by
    cases r with
    | lst e rs =>
      cases q
      obtain ⟨z, its, n, rv, ho⟩ := ok _ _ e
      obtain ⟨as, ra⟩ := Reps.readsA ok ds _ _ its rs rv (by simpa [PyData.hasDict] using nd)
      exact ⟨_, .list ho rfl rfl ra⟩
  | .tuple ds, _, _, _, r, q, nd => by
    cases r with
    | tup e rs =>
      cases q
      obtain ⟨z, its, rv, ob, ho, hc, n, hd⟩ := ok _ _ e
      obtain ⟨as, ra⟩ := Reps.readsA ok ds _ _ its rs rv (by simpa [PyData.hasDict] using nd)
      exact ⟨_, .tuple ho hc hd ra⟩
  | .dict _, _, _, _, _, _, nd => by simp [PyData.hasDict] at nd
theorem Reps.readsA (ok : HOk P w H h) : ∀ (ds : List D) (S : List Addr) (vs : List V) (us : List Value), Reps H S vs ds → Vals vs us → PyData.hasDictAll ds = false → ∃ as, ReadsAll h us ds as
  | [], _, _, _, r, q, _ => by cases r; cases q; exact ⟨_, .nil⟩
  | d :: ds, _, _, _, r, q, nd => by
    have nd' : d.hasDict = false ∧ PyData.hasDictAll ds = false := by simpa [PyData.hasDictAll] using nd
    cases r with
    | cons r1 r2 =>
      cases q with
      | cons q1 q2 =>
        obtain ⟨as, h1⟩ := Rep.reads ok d _ _ _ r1 q1 nd'.1
        obtain ⟨bs, h2⟩ := Reps.readsA ok ds _ _ _ r2 q2 nd'.2
        exact ⟨_, .cons h1 h2⟩
end
end
/-- what may be sorted -/
structure SortOk (ds : List D) : Prop where
  len : ds.length ≤ 10000000
  al : PySem.W.AllAlike ds
  so : PySem.W.Sortable ds
  dp : ∀ d ∈ ds, d.depth ≤ 50
def sortD (ds : List D) : List D := ds.mergeSort (PySem.W.dataLe false id)
section
variable {C : Cn} {xc : XC C} {K : PySem.W.Frag} {ts : TA} {ka kb : KE} {n : Nat}
def kSortD (ka : KE) : KE := fun γ q => ka γ fun γ1 => match γ1.tm with
  | s :: tm => (shr γ1.sl s true).elim False fun ds => SortOk ds ∧ q ⟨γ1.sl, newL (sortD ds) :: tm, γ1.n⟩
  | [] => False
/-- what is given an owned tree, and tells True -/
def kCallE (ka : KE) : KE := fun γ q => ka γ fun γ1 => match γ1.tm with
  | .ow true d :: tm => Sh 20 5000000 d ∧ nl d ≤ 40000 ∧ q ⟨γ1.sl, .fz (.bool true) :: tm, γ1.n⟩
  | _ => False
theorem so_callE (h : SoA xc 1 ts ka) : SoE xc (tCall spEat [] E0 ts) (kCallE ka) := fun γ Θ σ H Q q R hk w => h γ Θ σ H _ _ R hk fun γ1 vs H1 el hk1 R1 => by
  match vs, el, R1 with
  | [v], _, R1 =>
    obtain ⟨sl, tm, j⟩ := γ1
    dsimp only at hk1
    split at hk1
    · rename_i d0 tm
      obtain ⟨sh, hn, hq⟩ := hk1
      obtain ⟨S, rp, nd, kk⟩ := Rel.eat R1
      exact ⟨v, _, S, rfl, rp, nd, sh, hn, fun r H' er fr => by
        subst er
        exact w _ _ H' hq ((kk H' fr).push fun Z => .bl true)⟩
    · exact hk1.elim
end
end G
namespace G
open PySem PySem.Spec PyProof.Rows L2
section
variable {K : PySem.W.Frag} {C : Cn} {xc : XC C}
/-- xs[c] of a name whose spine is owned: a frozen item -/
def kIxF (r : Nat) (c : Int) : KE := fun γ q => match γ.sl[r]? with
  | some (.ow false (.list ds)) => ixD ds c fun _ d => q ⟨γ.sl, .fz d :: γ.tm, γ.n⟩
  | _ => False
/-- o[-1] = e -/
def kgSubN (ko ki : KE) : KG := fun γ q => ko γ fun γ1 => ki γ1 fun γ2 => match γ2.tm with
  | .fz (.int kk) :: .al i π :: s :: tm => (con s).elim False fun c => noAl i tm = true ∧ wrL γ2.sl i π fun b d es => (((b && c.1) = true ∨ π = []) ∧ ioOk γ2.sl i (b && c.1)) ∧ (kk < 0 ∧ 0 ≤ kk + es.length) ∧ q ⟨putS γ2.sl i (b && c.1) (setP d π (.list (es.set (kk + es.length).toNat c.2))), tm, γ2.n⟩
  | _ => False
/-- a list of ints, some times -/
def kRepM (ka kb : KE) : KE := fun γ q => ka γ fun γ1 => kb γ1 fun γ2 => match γ2.tm with
  | .fz (.int j) :: s :: tm => (shr γ2.sl s true).elim False fun ds => (intsOf ds).elim False fun ns => (-1000000 ≤ j ∧ j ≤ 1000 ∧ ns.length ≤ 1000) ∧ q ⟨γ2.sl, .ow true (dI (List.replicate j.toNat ns).flatten) :: tm, γ2.n⟩
  | _ => False
end
end G
namespace G
open PySem PySem.Spec PyProof.Rows L2
end G
namespace G
open PySem PySem.Spec PyProof.Rows L2
variable {C : Cn} {xc : XC C}
theorem Trs.rev {H : Hp} {Z : Reg} : ∀ {ds : List D} {S : List Addr} {vs : List V}, Trs H Z S vs ds → ∃ S', S'.Perm S ∧ Trs H Z S' vs.reverse ds.reverse
  | [], _, _, h => by
    cases h
    exact ⟨_, .refl _, .nil⟩
  | d :: ds, _, _, h => by
    cases h with
    | @cons A B _ _ _ _ h1 h2 =>
      obtain ⟨S', p, q⟩ := Trs.rev h2
      have := Trs.append q (.cons h1 .nil)
      rw [List.append_nil] at this
      rw [List.reverse_cons, List.reverse_cons]
      exact ⟨_, List.perm_append_comm.trans (List.Perm.append_left A p), this⟩
section
variable {t : TE} {ko : KE}
def kClear (ko : KE) : KE := fun γ q => ko γ fun γ1 => isLst γ1 ∧ match γ1.tm with
  | .al i π :: tm => noAl i tm = true ∧ wrL γ1.sl i π fun b d _ => ((b = true ∨ π = []) ∧ ioOk γ1.sl i b) ∧ q ⟨putS γ1.sl i b (setP d π (.list [])), .fz .none :: tm, γ1.n⟩
  | _ => False
def kReverse (ko : KE) : KE := fun γ q => ko γ fun γ1 => isLst γ1 ∧ match γ1.tm with
  | .al i π :: tm => noAl i tm = true ∧ wrL γ1.sl i π fun b d es => ((b = true ∨ π = []) ∧ ioOk γ1.sl i b) ∧ q ⟨putS γ1.sl i b (setP d π (.list es.reverse)), .fz .none :: tm, γ1.n⟩
  | _ => False
theorem so_reverse {K : PySem.W.Frag} (ho : SoE xc t ko) : SoE xc (tBM0 K "list" rReverse t) (kReverse ko) := fun γ Θ σ H Q q R hk w => ho γ Θ σ H _ _ R hk fun γ1 v H1 hk1 R1 =>
  ⟨tyV_of R1 hk1.1, by
    obtain ⟨sl, tm, j⟩ := γ1
    obtain ⟨hL, hk1⟩ := hk1
    dsimp only at hk1
    split at hk1
    · rename_i i π tm
      obtain ⟨na, hw⟩ := hk1
      obtain ⟨s0, b, d, es, e1, hs, eds, e2, ⟨hb, hio⟩, hq⟩ := wrL_inv hw
      rw [putS_eq e1] at hq
      obtain ⟨Z, S1, S2, X⟩ := R1
      obtain ⟨w0, ew, wk⟩ := X.walk (j := 0) rfl rfl
      obtain ⟨A, B, en, X1, f⟩ := RelX.popF (ss := [.al i π]) (us := [v]) X rfl
      obtain ⟨a, vs, T, rfl, ha, ts, aA, aZ, aT, put⟩ := X1.putF f e1 hs na ew wk e2 hb
      obtain ⟨T', pm, ts'⟩ := Trs.rev (ts.upd (us := vs.reverse) ha aZ aT)
      obtain ⟨S1', X2, _⟩ := put vs.reverse es.reverse b T' A (.inl rfl) (ioOk_at hio e1) ts' (List.Perm.append_right A pm.symm)
      have R4 : Rel C ⟨_, tm, j⟩ Θ σ (upd H1 a (.lst vs.reverse)) := ⟨_, _, _, X2⟩
      exact ⟨a, vs, rfl, rfl, ha, w _ _ _ hq (R4.push fun Z => .non)⟩
    · exact hk1.elim⟩
end
end G
namespace G
open PySem PySem.Spec PyProof.Rows L2
variable {C : Cn} {xc : XC C}
section
variable {K : PySem.W.Frag} {ka : KE} {ta : TE}
def kSlT (ka : KE) (lo hi : KO) : KE := fun γ q => ka γ fun γ1 => lo γ1 fun a γ2 => hi γ2 fun b γ3 => match γ3.tm with
  | s :: tm => (shr γ3.sl s false).elim False fun ds => ¬ (HT.sIx ds.length 0 a = 0 ∧ HT.sIx ds.length ds.length b = ds.length) ∧ q ⟨γ3.sl, .fz (.tuple (cutD ds a b)) :: tm, γ3.n⟩
  | _ => False
end
end G
namespace G
open PySem PySem.Spec PyProof.Rows L2
/-- an instance as a tree -/
abbrev objD (C : Addr) (ns : List Str) (ds : List D) : D := .dict [(.tuple (.int C :: ns.map PyData.str), .list ds)]
variable {C : Cn} {xc : XC C}
section
variable {Z : Reg} {S1 S2 : List Addr} {γ : VSt} {Θ : List V} {σ : L2.St} {H H' : Hp} {sl tm : List Sl} {n n' : Int} {v : V} {s : Sl} {d : D} {i : Nat}
theorem Tr.boxAt {S : List Addr} {t : D} {ds : List D} (h : Tr H Z S v (.dict [(t, .list ds)])) : ∃ a vs T, v = .ref a ∧ Bx H a t vs ∧ Trs H Z T vs ds ∧ ∀ x ∈ T, x ∈ S := by
  cases h with
  | box e r => exact ⟨_, _, _, rfl, e, r, fun x m => List.mem_cons_of_mem _ m⟩
  | boxZ _ e r => exact ⟨_, _, _, rfl, e, r, fun x m => m⟩
/-- a box on the stack -/
theorem Rel.boxTop {t : D} {ds : List D} (h : Rel C ⟨sl, s :: tm, n⟩ (v :: Θ) σ H) (lk : look sl s = some (.dict [(t, .list ds)])) : ∃ a vs, v = .ref a ∧ Bx H a t vs ∧ vs.length = ds.length := by
  obtain ⟨Z, S1, S2, h⟩ := h
  obtain ⟨T, t, _⟩ := h.trAt (k := 0) rfl rfl lk
  obtain ⟨a, vs, T', ev, e, ts, _⟩ := t.boxAt
  exact ⟨a, vs, ev, e, ts.length⟩
/-- what stands in a box -/
theorem Rel.field {t : D} {ds : List D} (h : Rel C ⟨sl, s :: tm, n⟩ (v :: Θ) σ H) (hs : ∀ b d, s ≠ .ow b d) (lk : look sl s = some (.dict [(t, .list ds)])) : ∃ a vs, v = .ref a ∧ Bx H a t vs ∧ vs.length = ds.length ∧
    ∀ k d w, ds[k]? = some d → vs[k]? = some w → Rel C ⟨sl, subS s k d :: tm, n⟩ (w :: Θ) σ H := by
  obtain ⟨a, vs, rfl, e, el⟩ := h.boxTop lk
  refine ⟨a, vs, rfl, e, el, fun k x w hx hw => ?_⟩
  cases s with
  | fz d' =>
    cases lk
    show Rel C ⟨sl, .fz x :: tm, n⟩ (w :: Θ) σ H
    obtain ⟨Z, S1, S2, h⟩ := h
    obtain ⟨fr, es, et, nd, nz, pu, ex, dj, al⟩ := h
    dsimp only at es et al pu
    cases et with
    | cons e1 e2 =>
      cases e1 with
      | fz t =>
        obtain ⟨a', us, T', ea, e', ts, sub⟩ := t.boxAt
        cases ea
        obtain ⟨_, rfl⟩ := e.uniq e'
        obtain ⟨T1, R1, t1, pm⟩ := ts.get hx hw
        have e0 : T1 = [] := by
          cases T1 with
          | nil => rfl
          | cons y ys => exact nomatch sub y (pm.mem_iff.mpr (by simp))
        subst e0
        exact ⟨Z, S1, _, fr, es, .cons (S := []) (.fz t1) e2, nd, nz, pu, ex, dj, fun j i' π u e' ev' => by
          cases j with
          | zero => simp at e'
          | succ j => exact al (j + 1) i' π u (by simpa using e') (by simpa using ev')⟩
  | al j π =>
    show Rel C ⟨sl, (if nolist x then .fz x else .al j (π ++ [k])) :: tm, n⟩ (w :: Θ) σ H
    by_cases hn : nolist x = true
    · rw [if_pos hn]
      have : ∃ T Z', Tr H Z' T w x := by
        obtain ⟨Z, S1, S2, h⟩ := h
        obtain ⟨T, t, _⟩ := h.trAt (k := 0) rfl rfl lk
        obtain ⟨a', us, T', ea, e', ts, _⟩ := t.boxAt
        cases ea
        obtain ⟨_, rfl⟩ := e.uniq e'
        obtain ⟨T1, R1, t1, pm⟩ := ts.get hx hw
        exact ⟨_, _, t1⟩
      obtain ⟨T, Z', t⟩ := this
      exact h.pop.push fun Z => (Tr.nolist x T w t hn).2
    · rw [if_neg hn]
      obtain ⟨Z, S1, S2, h⟩ := h
      obtain ⟨fr, es, et, nd, nz, pu, ex, dj, al⟩ := h
      dsimp only at es et al pu
      cases et with
      | cons e1 e2 =>
        cases e1
        refine ⟨Z, S1, _, fr, es, .cons (S := []) (.al w j _) e2, nd, nz, pu, ex, dj, fun m j' π' u e' ev' => ?_⟩
        cases m with
        | succ m => exact al (m + 1) j' π' u (by simpa using e') (by simpa using ev')
        | zero =>
          simp at e' ev'
          obtain ⟨rfl, rfl⟩ := e'
          subst ev'
          obtain ⟨s, d', e1, w', g1, g2, g3, g4, wk⟩ := al 0 j π (.ref a) rfl rfl
          change sl[j]? = some s at g1
          have ee : e1 = .dict [(t, .list ds)] := by
            simp only [look, g1, g2, g3, Option.bind_some, Option.some.injEq] at lk
            exact lk
          subst ee
          exact ⟨s, d', x, w', g1, g2, atP_snoc π d' _ ds k x g3 (.inr (.inr ⟨t, rfl⟩)) hx, g4, wk.snocB rfl e hw⟩
  | ow b d' => exact absurd rfl (hs b d')
  | jk => cases lk
  | dc m => cases lk
  | dt m => cases lk
  | sh m => cases lk
  | xv _ _ m => cases lk
  | ho _ _ => cases lk
  | xw _ _ => cases lk
  | io d' => cases lk
  | pu => cases lk
theorem lookup_zip : ∀ {ns : List Str} {vs : List V} {f : Str} {k : Nat}, ns.length = vs.length → ns.idxOf? f = some k → (ns.zip vs).lookup f = vs[k]?
  | [], _, _, _, _, h => by simp at h
  | _ :: _, [], _, _, l, _ => by simp at l
  | x :: ns, v :: vs, f, k, l, h => by
    rw [List.idxOf?_cons] at h
    rw [List.zip_cons_cons, List.lookup_cons]
    by_cases hx : x = f
    · subst hx
      simp at h
      subst h
      simp
    · have h1 : (x == f) = false := by simpa using hx
      have h2 : (f == x) = false := by simpa using fun z => hx z.symm
      rw [h1] at h
      rw [h2]
      cases q : ns.idxOf? f with
      | none => rw [q] at h; simp at h
      | some j =>
        rw [q] at h
        simp at h
        subst h
        simpa using lookup_zip (vs := vs) (by simpa using l) q
theorem lookup_none : ∀ {ns : List Str} {vs : List V} {f : Str}, f ∉ ns → (ns.zip vs).lookup f = none
  | [], _, _, _ => by simp
  | _ :: _, [], _, _ => by simp
  | x :: ns, v :: vs, f, h => by
    have h1 : (f == x) = false := by simpa using fun z => h (by rw [z]; exact List.mem_cons_self)
    rw [List.zip_cons_cons, List.lookup_cons, h1]
    exact lookup_none fun m => h (List.mem_cons_of_mem _ m)
theorem Bx.obj {a C0 : Addr} {ns : List Str} {vs : List V} (h : Bx H a (.tuple (.int C0 :: ns.map PyData.str)) vs) : ∃ dx, H a = some (.ins C0 dx (ns.zip vs)) ∧ ns.length = vs.length := by
  generalize ht : PyData.tuple (.int C0 :: ns.map PyData.str) = t at h
  cases h with
  | @ins C1 dx ms _ e l =>
    simp only [PyData.tuple.injEq, List.cons.injEq, PyData.int.injEq] at ht
    obtain ⟨h1, h2⟩ := ht
    have h3 : C0 = C1 := Int.ofNat_inj.mp h1
    have h4 : ∀ {a b : List Str}, a.map PyData.str = b.map PyData.str → a = b := fun {a b} h => (List.map_inj_right fun x y z => by injection z).mp h
    have := h4 h2
    subst this h3
    exact ⟨dx, e, l⟩
  | dK _ _ => cases ht
end
/-- an instance of the class -/
def isC (C0 : Addr) : D → Bool
  | .dict [(.tuple (.int c :: _), .list _)] => decide (c = (C0 : Int))
  | _ => false
def isStr (f : Str) : D → Bool
  | .str g => g == f
  | _ => false
/-- which of its fields has the name, and what stands there -/
def fldD (f : Str) : D → Option (Nat × D)
  | .dict [(.tuple (_ :: ns), .list ds)] => (ns.findIdx? (isStr f)).bind fun k => (ds[k]?).map fun d => (k, d)
  | _ => none
def noFld (f : Str) : D → Bool
  | .dict [(.tuple (_ :: ns), .list _)] => (ns.findIdx? (isStr f)).isNone
  | _ => false
def notOw : Sl → Bool
  | .ow _ _ => false
  | _ => true
theorem findIdx_str (f : Str) : ∀ ns : List Str, (ns.map PyData.str).findIdx? (isStr f) = ns.idxOf? f
  | [] => rfl
  | n :: ns => by
    rw [List.map_cons, List.findIdx?_cons, List.idxOf?_cons, findIdx_str f ns]
    rfl
theorem isC_of {C0 : Addr} {H : Hp} {a : Addr} {t : D} {vs : List V} {ds : List D} (b : Bx H a t vs) (h : isC C0 (.dict [(t, .list ds)]) = true) : ∃ ns : List Str, t = .tuple (.int C0 :: ns.map PyData.str) := by
  cases b with
  | @ins C1 dx ns vs e l =>
    have := of_decide_eq_true h
    have e1 : C1 = C0 := Int.ofNat_inj.mp this
    subst e1
    exact ⟨ns, rfl⟩
  | dK e l => exact nomatch h
/-- e.f -/
def kFld (C0 : Addr) (f : Str) (ke : KE) : KE := fun γ q => ke γ fun γ1 => match γ1.tm with
  | s :: tm => (look γ1.sl s).elim False fun d => if isC C0 d && notOw s then (fldD f d).elim False fun kd => q ⟨γ1.sl, subS s kd.1 kd.2 :: tm, γ1.n⟩ else False
  | [] => False
theorem ins_shape {C0 : Addr} {sl tm : List Sl} {s : Sl} {n : Int} {v : V} {Θ : List V} {σ : L2.St} {H : Hp} {d : D} (R : Rel C ⟨sl, s :: tm, n⟩ (v :: Θ) σ H) (lk : look sl s = some d) (h : isC C0 d = true) : ∃ ns ds, d = objD C0 ns ds := by
  obtain ⟨t, ds, rfl⟩ : ∃ t ds, d = .dict [(t, .list ds)] := by
    unfold isC at h
    split at h
    · exact ⟨_, _, rfl⟩
    · exact nomatch h
  obtain ⟨a, vs, _, b, _⟩ := R.boxTop lk
  obtain ⟨ns, rfl⟩ := isC_of b h
  exact ⟨ns, ds, rfl⟩
theorem fldD_obj {C0 : Addr} {f : Str} {ns : List Str} {ds : List D} {k : Nat} {x : D} (h : fldD f (objD C0 ns ds) = some (k, x)) : ns.idxOf? f = some k ∧ ds[k]? = some x := by
  simp only [fldD, findIdx_str] at h
  cases q : ns.idxOf? f with
  | none => rw [q] at h; cases h
  | some j =>
    rw [q] at h
    cases r : ds[j]? with
    | none => simp [r] at h
    | some y =>
      simp only [Option.bind_some, r, Option.map_some, Option.some.injEq, Prod.mk.injEq] at h
      obtain ⟨rfl, rfl⟩ := h
      exact ⟨rfl, r⟩
theorem noFld_obj {C0 : Addr} {f : Str} {ns : List Str} {ds : List D} (h : noFld f (objD C0 ns ds) = true) : f ∉ ns := fun m => by
  simp only [noFld, findIdx_str, Option.isNone_iff_eq_none] at h
  exact (List.idxOf?_eq_none_iff.mp h) m
section
variable {t ta : TE} {ke ko ka : KE} {K : PySem.W.Frag} {C0 : Addr} {f m : Str} {n : Nat} {ts : TA} {W : Tw}
theorem so_fld (hc : Cls K C0) (hn : NoAttr K C0 f) (h : SoE xc t ke) : SoE xc (tFld K t f) (kFld C0 f ke) := fun γ Θ σ H Q q R hk w => h γ Θ σ H _ _ R hk fun γ1 v H1 hk1 R1 => by
  obtain ⟨sl, tm, j⟩ := γ1
  dsimp only at hk1
  split at hk1
  · rename_i s tm
    obtain ⟨d0, lk, hk2⟩ := elimF hk1
    split at hk2
    rotate_left
    · exact hk2.elim
    rename_i hb
    rw [Bool.and_eq_true] at hb
    obtain ⟨⟨k, d⟩, e2, hq⟩ := elimF hk2
    obtain ⟨ns, ds, rfl⟩ := ins_shape R1 lk hb.1
    obtain ⟨hf, hd⟩ := fldD_obj e2
    have hs : ∀ b d, s ≠ .ow b d := fun b d z => by subst z; exact nomatch hb.2
    obtain ⟨a, vs, rfl, b, el, kk⟩ := R1.field hs lk
    obtain ⟨dx, e, l⟩ := b.obj
    have hlt : k < vs.length := by rw [el]; exact (List.getElem?_eq_some_iff.mp hd).1
    have hv : vs[k]? = some vs[k] := List.getElem?_eq_getElem hlt
    exact ⟨a, C0, dx, _, _, rfl, e, hc, hn, (lookup_zip l hf).trans hv, w _ _ _ hq (kk k d _ hd hv)⟩
  · exact hk1.elim
/-- an instance of the class stands on the stack, without a field of the name -/
def isOb (C0 : Addr) (m : Str) (γ : VSt) : Prop := match γ.tm with
  | s :: _ => (look γ.sl s).elim False fun d => (isC C0 d && noFld m d) = true
  | [] => False
theorem ob_of {γ : VSt} {v : V} {Θ : List V} {σ : L2.St} {H : Hp} (R : Rel C γ (v :: Θ) σ H) (h : isOb C0 m γ) : ∃ a dx fs, v = .ref a ∧ H a = some (.ins C0 dx fs) ∧ fs.lookup m = none := by
  obtain ⟨sl, tm, j⟩ := γ
  unfold isOb at h
  dsimp only at h
  split at h
  · rename_i s tm
    obtain ⟨d, lk, hb⟩ := elimF h
    rw [Bool.and_eq_true] at hb
    obtain ⟨ns, ds, rfl⟩ := ins_shape R lk hb.1
    obtain ⟨a, vs, rfl, b, _⟩ := R.boxTop lk
    obtain ⟨dx, e, _⟩ := b.obj
    exact ⟨a, dx, _, rfl, e, lookup_none (noFld_obj hb.2)⟩
  · exact h.elim
/-- o.m(..), a def that changes nothing -/
def kMeth (C0 : Addr) (m : Str) (W : Tw) (n : Nat) (ko ka : KE) : KE := fun γ q => ko γ fun γ1 => isOb C0 m γ1 ∧ ka γ1 fun γ2 => (datN γ2.sl (n + 1) γ2.tm).elim False fun x => W x.1 fun d => q ⟨γ2.sl, own d :: x.2, γ2.n⟩
theorem so_meth (ho : SoE xc t ko) (h : SoA xc n ts ka) : SoE xc (tMeth C0 m (spT W) [] E0 t ts) (kMeth C0 m W n ko ka) := fun γ Θ σ H Q q R hk w => ho γ Θ σ H _ _ R hk fun γ1 v H1 hk1 R1 => by
  obtain ⟨a, dx, fs, rfl, e, l⟩ := ob_of R1 hk1.1
  refine ⟨a, dx, fs, rfl, e, l, h γ1 _ σ H1 _ _ R1 hk1.2 fun γ2 vs H2 el hk2 R2 => ?_⟩
  rw [List.append_nil]
  obtain ⟨⟨ds, rr⟩, e, hf⟩ := elimF hk2
  have R2' : Rel C γ2 ((V.ref a :: vs).reverse ++ Θ) σ H2 := by
    rw [List.reverse_cons, List.append_assoc]
    exact R2
  obtain ⟨R3, T, rp, _⟩ := Rel.pops (vs := V.ref a :: vs) (Θ := Θ) R2' (by simpa using el) e
  exact ⟨T, ds, _, rp, hf, fun d v H' hq sm nw => w _ v H' hq (R3.newR sm nw)⟩
/-- e.f, a property -/
def kProp (C0 : Addr) (f : Str) (W : Tw) (ko : KE) : KE := fun γ q => ko γ fun γ1 => isOb C0 f γ1 ∧ (datN γ1.sl 1 γ1.tm).elim False fun x => W x.1 fun d => q ⟨γ1.sl, own d :: x.2, γ1.n⟩
theorem so_prop (ho : SoE xc t ko) : SoE xc (tProp C0 (spT W) [] E0 t) (kProp C0 f W ko) := fun γ Θ σ H Q q R hk w => ho γ Θ σ H _ _ R hk fun γ1 v H1 hk1 R1 => by
  obtain ⟨a, dx, fs, rfl, e, l⟩ := ob_of R1 hk1.1
  obtain ⟨⟨ds, rr⟩, e1, hf⟩ := elimF hk1.2
  obtain ⟨R3, T, rp, _⟩ := Rel.pops (vs := [V.ref a]) (Θ := Θ) R1 rfl e1
  exact ⟨a, dx, fs, rfl, e, T, ds, _, rp, hf, fun d v H' hq sm nw => w _ v H' hq (R3.newR sm nw)⟩
/-- C(..) -/
def kMake (C0 : Addr) (W : TwI) (n : Nat) (ka : KE) : KE := fun γ q => ka γ fun γ1 => (datN γ1.sl n γ1.tm).elim False fun x => W (objD C0 [] [] :: x.1) fun r e => r = .none ∧ q ⟨γ1.sl, own e :: x.2, γ1.n⟩
theorem so_make {W : TwI} (h : SoA xc n ts ka) : SoE xc (tMake C0 (spI W) [] E0 ts) (kMake C0 W n ka) := fun γ Θ σ H Q q R hk w => h γ Θ σ H _ _ R hk fun γ1 vs H1 el hk1 R1 => by
  intro x dx hx hdx hne
  rw [List.append_nil]
  obtain ⟨⟨ds, rr⟩, e, hf⟩ := elimF hk1
  obtain ⟨R3, T, rp, _⟩ := Rel.pops (Θ := Θ) R1 el e
  have sm : Same H1 (upd (upd H1 dx (.own x)) x (.ins C0 dx [])) := fun b o eo => by
    rw [upd_ne (ne_of_none eo hx), upd_ne (ne_of_none eo hdx)]
    exact eo
  refine ⟨.ref x, vs, [x], T, objD C0 [] [], ds, _, rfl, .box (.ins (ns := []) (vs := []) upd_same rfl) .nil, by simp, Reps.mono (fun t xs e => sm _ _ e) _ _ _ rp (fun a m o e => sm _ _ e), fun a m z => ?_, hf, fun d e2 v' H' hq fr nw => ?_⟩
  · obtain ⟨o, eo⟩ := Reps.dom _ _ _ rp a m
    rw [List.mem_singleton.mp z, hx] at eo
    cases eo
  · obtain ⟨A, B, r1, r2, nd, new⟩ := nw
    obtain ⟨rfl, hq⟩ := hq
    cases r2
    refine ⟨rfl, w _ _ _ hq (R3.newR (fun b o eo => fr b o (sm b o eo) fun z => ?_) ⟨A, r1, (List.nodup_append.mp nd).1, fun a m => ?_⟩)⟩
    · rw [List.mem_singleton.mp z, hx] at eo
      cases eo
    · rcases new a (List.mem_append_left _ m) with z | z
      · rw [List.mem_singleton.mp z]
        exact hx
      · cases q : H1 a with
        | none => rfl
        | some o => rw [sm a o q] at z; cases z
end
end G
namespace G
open PySem PySem.Spec PyProof.Rows L2
variable {C : Cn} {xc : XC C}
def putO (C0 : Addr) (ns : List Str) (ds : List D) (f : Str) (x : D) : D := match ns.idxOf? f with
  | none => objD C0 (ns ++ [f]) (ds ++ [x])
  | some k => objD C0 ns (ds.set k x)
theorem putF_zip (f : Str) (y : V) : ∀ {ns : List Str} {vs : List V}, ns.length = vs.length → putF f y (ns.zip vs) = (match ns.idxOf? f with | none => (ns ++ [f]).zip (vs ++ [y]) | some k => ns.zip (vs.set k y))
  | [], [], _ => rfl
  | [], _ :: _, l => by simp at l
  | _ :: _, [], l => by simp at l
  | x :: ns, v :: vs, l => by
    have ih := putF_zip f y (ns := ns) (vs := vs) (by simpa using l)
    rw [List.zip_cons_cons, putF, List.idxOf?_cons]
    by_cases h : x = f
    · subst h
      simp
    · rw [if_neg h]
      have h1 : (x == f) = false := by simpa using h
      rw [h1, ih]
      cases q : ns.idxOf? f with
      | none => simp
      | some k => simp
section
variable {Z : Reg} {S1 S2 : List Addr} {γ : VSt} {Θ : List V} {σ : L2.St} {H : Hp} {sl tm : List Sl} {n : Int} {y : V} {s s0 : Sl} {cd : D} {i : Nat} {C0 : Addr} {ns : List Str} {ds : List D}
theorem Rel.fldPut (f : Str) (R : Rel C ⟨sl, s :: tm, n⟩ (y :: Θ) σ H) (e : sl[i]? = some s0) (hs : s0 = .ow true (objD C0 ns ds) ∨ s0 = .io (objD C0 ns ds)) (na : noAl i tm = true) (ec : con s = some (true, cd)) :
    ∃ a dx vs, σ[i]? = some (some (.ref a)) ∧ H a = some (.ins C0 dx (ns.zip vs)) ∧ ns.length = vs.length ∧ Rel C ⟨sl.set i (reS s0 true (putO C0 ns ds f cd)), tm, n⟩ Θ σ (upd H a (.ins C0 dx (putF f y (ns.zip vs)))) := by
  obtain ⟨Z, S1, S2, X0⟩ := R
  obtain ⟨A, B, en, X, fl⟩ := RelX.popF (ss := [s]) (us := [y]) X0 rfl
  obtain ⟨e1, eA⟩ : Ent C Z H A (some y) s ∧ True := by
    cases en with
    | cons e1 e2 =>
      cases e2
      exact ⟨by simpa using e1, True.intro⟩
  have ti : Tr H noReg A y cd := e1.con ec
  obtain ⟨v0, T0, Rr, ev, ent, pm, k⟩ := X.es.at e
  have key : ∃ w, v0 = some w ∧ Tr H noReg T0 w (objD C0 ns ds) := by
    rcases hs with rfl | rfl
    · cases ent with
      | ow t => exact ⟨_, rfl, t⟩
    · cases ent with
      | io t _ => exact ⟨_, rfl, t⟩
  obtain ⟨w, rfl, tr⟩ := key
  have key2 : ∃ a vs T, w = .ref a ∧ T0 = a :: T ∧ Bx H a (.tuple (.int C0 :: ns.map PyData.str)) vs ∧ Trs H noReg T vs ds := by
    cases tr with
    | box b ts => exact ⟨_, _, _, rfl, rfl, b, ts⟩
    | boxZ z _ _ => exact z.elim
  obtain ⟨a, vs, T, rfl, rfl, b, ts⟩ := key2
  obtain ⟨dx, ha, l⟩ := b.obj
  refine ⟨a, dx, vs, ev, ha, l, ?_⟩
  obtain ⟨H', hH⟩ : ∃ H', upd H a (.ins C0 dx (putF f y (ns.zip vs))) = H' := ⟨_, rfl⟩
  have hHa : H' a = some (.ins C0 dx (putF f y (ns.zip vs))) := by rw [← hH]; exact upd_same
  have kne : ∀ x, x ≠ a → ∀ o, H x = some o → H' x = some o := fun x q o eo => by
    rw [← hH, upd_ne q]
    exact eo
  rw [hH]
  have cnt : ∀ x, List.count x A + (List.count x [a] + List.count x T + List.count x Rr + List.count x B) ≤ 1 := fun x => by
    have h1 := nodup_cnt.mp fl.nd x
    have h2 := pm.count_eq x
    rw [List.count_append, List.count_append] at h1
    rw [List.count_append, ← List.singleton_append, List.count_append] at h2
    omega
  have ca : List.count a [a] = 1 := by simp
  have out : ∀ {x : Addr} {L : List Addr}, x ∈ L → (∀ z, List.count z L ≤ List.count z A + List.count z T + List.count z Rr + List.count z B) → x ≠ a := fun {x L} m h z => by
    subst z
    have h0 : 0 < List.count x L := List.count_pos_iff.mpr m
    have := h x
    have := cnt x
    omega
  have nA : ∀ x ∈ A, x ≠ a := fun x m => out m fun z => by omega
  have nT : ∀ x ∈ T, x ≠ a := fun x m => out m fun z => by omega
  have nR : ∀ x ∈ Rr, x ≠ a := fun x m => out m fun z => by omega
  have nB : ∀ x ∈ B, x ≠ a := fun x m => out m fun z => by omega
  have aS : a ∈ S1 := pm.mem_iff.mpr (by simp)
  have aZ : ¬ C.tz Z a := X.nz a (List.mem_append_left _ aS)
  have kt : ∀ t xs, H t = some (.tup xs) → H' t = some (.tup xs) := fun t xs et => kne t (fun z => by subst z; rw [ha] at et; cases et) _ et
  have kz0 : ∀ x, C.tz Z x → ∀ o, H x = some o → H' x = some o := fun x z o eo => kne x (fun q => aZ (q ▸ z)) o eo
  have kz : ∀ x, Z x → ∀ o, H x = some o → H' x = some o := fun x z => kz0 x (.inl z)
  have ti' : Tr H' noReg A y cd := Tr.mono kt (fun _ z => z) (fun _ z => z.elim) _ _ _ ti fun x m => kne x (nA x m)
  -- the new instance
  have new : ∃ S3 Dr, Tr H' noReg (a :: S3) (.ref a) (putO C0 ns ds f cd) ∧ (T ++ A).Perm (S3 ++ Dr) := by
    have pz := putF_zip f y l
    unfold putO
    cases q : ns.idxOf? f with
    | none =>
      rw [q] at pz
      dsimp only at pz ⊢
      refine ⟨T ++ (A ++ []), [], .box (.ins (ns := ns ++ [f]) (vs := vs ++ [y]) (by rw [hHa, pz]) (by simp [l])) ?_, by simp⟩
      exact (Trs.mono kt (fun _ z => z) (fun _ z => z.elim) _ _ _ ts fun x m => kne x (nT x m)).append (.cons ti' .nil)
    | some j =>
      rw [q] at pz
      dsimp only at pz ⊢
      by_cases hj : j < ds.length
      · obtain ⟨v1, T1, R1, _, _, pm1, _, kk⟩ := ts.at (List.getElem?_eq_getElem hj)
        obtain ⟨S', t', pm'⟩ := kk H' A y cd kt (fun _ z => z.elim) (fun x m => kne x (nT x (pm1.mem_iff.mpr (List.mem_append_right _ m)))) ti'
        refine ⟨S', T1, .box (.ins (ns := ns) (vs := vs.set j y) (by rw [hHa, pz]) (by simp [l])) t', ?_⟩
        refine (List.Perm.append_right A pm1).trans ?_
        refine List.Perm.trans ?_ (List.Perm.append_right T1 pm').symm
        rw [List.append_assoc]
        refine List.perm_append_comm.trans ?_
        exact List.Perm.append_right T1 List.perm_append_comm
      · have e3 : ds.set j cd = ds := List.set_eq_of_length_le (by omega)
        have e4 : vs.set j y = vs := List.set_eq_of_length_le (by have := ts.length; omega)
        rw [e4] at pz
        rw [e3]
        refine ⟨T, A, .box (.ins (ns := ns) (vs := vs) (by rw [hHa, pz]) l) ?_, .refl _⟩
        exact Trs.mono kt (fun _ z => z) (fun _ z => z.elim) _ _ _ ts fun x m => kne x (nT x m)
  obtain ⟨S3, Dr, tn, pd⟩ := new
  have ent' : Ent C Z H' (a :: S3) (some (.ref a)) (reS s0 true (putO C0 ns ds f cd)) := by
    rcases hs with rfl | rfl
    · exact .ow tn
    · cases ent with
      | io _ q => exact .io tn q
  obtain ⟨S', es', pm'⟩ := k H' Z (a :: S3) (some (.ref a)) _ kt (fun _ z => z) kz (fun x m => kne x (nR x m)) ent'
  have eσ : σ.set i (some (.ref a)) = σ := by
    refine List.ext_getElem? fun j => ?_
    by_cases hj : i = j
    · subst hj
      rw [List.getElem?_set_self (List.getElem?_eq_some_iff.mp ev).1, ev]
    · rw [List.getElem?_set_ne hj]
  rw [eσ] at es'
  have cS : ∀ x, List.count x S' + List.count x Dr = List.count x [a] + List.count x T + List.count x A + List.count x Rr := fun x => by
    have h1 := pm'.count_eq x
    have h2 := pd.count_eq x
    rw [List.count_append, ← List.singleton_append, List.count_append] at h1
    rw [List.count_append, List.count_append] at h2
    omega
  have mem : ∀ x ∈ S', x ∈ A ∨ x ∈ S1 := fun x m => by
    have h0 : 0 < List.count x S' := List.count_pos_iff.mpr m
    have h1 := cS x
    by_cases hA : x ∈ A
    · exact .inl hA
    · have h2 : List.count x A = 0 := List.count_eq_zero.mpr hA
      refine .inr (pm.mem_iff.mpr ?_)
      refine List.count_pos_iff.mp ?_
      rw [List.count_append, ← List.singleton_append, List.count_append]
      omega
  refine ⟨Z, S', B, fun x o eo m => ⟨(X.fr x o eo m).1, kz0 x (X.fr x o eo m).1 o (X.fr x o eo m).2⟩, es', X.et.mono kt (fun _ z => z) kz (fun x m => kne x (nB x m)), nodup_cnt.mpr fun x => ?_, fun x m => ?_, fun p b q => ⟨(X.pu p b q).1.mono (kne p fun z => (X.pu p b q).2.2 (z ▸ List.mem_append_left _ aS)), (X.pu p b q).2.1, fun m => ?_⟩, fun x z => ?_, X.dj, fun j i' π u e' ev' => ?_⟩
  · have := cnt x
    have := cS x
    rw [List.count_append]
    omega
  · rcases List.mem_append.mp m with m | m
    · rcases mem x m with m | m
      · exact (fl.ok x m).1
      · exact X.nz x (List.mem_append_left _ m)
    · exact X.nz x (List.mem_append_right _ m)
  · rcases List.mem_append.mp m with m | m
    · rcases mem p m with m | m
      · exact (fl.ok p m).2.1 p b q rfl
      · exact (X.pu p b q).2.2 (List.mem_append_left _ m)
    · exact (X.pu p b q).2.2 (List.mem_append_right _ m)
  · obtain ⟨o, eo⟩ := X.ex x z
    exact ⟨o, kz0 x z o eo⟩
  · obtain ⟨s2, d2, e3, w2, f1, f2, f3, f4, wk2⟩ := X.al j i' π u e' ev'
    have hj := al_set na e'
    refine ⟨s2, d2, e3, w2, (List.getElem?_set_ne hj).trans f1, f2, f3, f4, ?_⟩
    obtain ⟨S4, es4, pm4⟩ := k H Z [] (some (.ref a)) .jk (fun _ _ h => h) (fun _ z => z) (fun _ _ _ h => h) (fun _ _ _ h => h) (.jk _)
    rw [eσ] at es4
    obtain ⟨v3, T3, R3, ev3, en3, pm3, _⟩ := es4.at ((List.getElem?_set_ne hj).trans f1)
    obtain ⟨w3, Tw, rfl, t3, sb⟩ := en3.tr f2
    have : w3 = w2 := by rw [f4] at ev3; cases ev3; rfl
    subst this
    exact (Tr.part t3 f3 wk2).2 _ kt fun x q => q.elim (kz x) fun q => kne x (nR x (by simpa using pm4.mem_iff.mp (pm3.mem_iff.mpr (List.mem_append_left _ (sb x q)))))
end
/-- the instance with the field written -/
def putOD (f : Str) (x : D) : D → D
  | .dict [(.tuple (c :: ns), .list ds)] => match ns.findIdx? (isStr f) with
    | none => .dict [(.tuple (c :: (ns ++ [.str f])), .list (ds ++ [x]))]
    | some k => .dict [(.tuple (c :: ns), .list (ds.set k x))]
  | d => d
def cntF : D → Nat
  | .dict [(.tuple ns, _)] => ns.length
  | _ => 0
theorem putOD_obj {C0 : Addr} {f : Str} {x : D} {ns : List Str} {ds : List D} : putOD f x (objD C0 ns ds) = putO C0 ns ds f x := by
  unfold putO putOD
  dsimp only
  rw [findIdx_str]
  cases ns.idxOf? f with
  | none => simp [objD]
  | some k => rfl
/-- self.f = e: a name that holds an instance of its own -/
def kFldPut (C0 : Addr) (i : Nat) (f : Str) (kv : KE) : KS := fun γ e => kv γ fun γ1 => match γ1.tm with
  | s :: tm => (con s).elim False fun c => if c.1 && noAl i tm then match γ1.sl[i]? with
    | some (.io d) => if isC C0 d && decide (cntF d < 900) then e.nx ⟨γ1.sl.set i (.io (putOD f c.2 d)), tm, γ1.n⟩ else False
    | some (.ow true d) => if isC C0 d && decide (cntF d < 900) then e.nx ⟨γ1.sl.set i (.ow true (putOD f c.2 d)), tm, γ1.n⟩ else False
    | _ => False
    else False
  | [] => False
theorem slot_shape {C0 : Addr} {sl tm : List Sl} {s0 : Sl} {n : Int} {Θ : List V} {σ : L2.St} {H : Hp} {d : D} {i : Nat} (R : Rel C ⟨sl, tm, n⟩ Θ σ H) (e : sl[i]? = some s0) (ed : datS s0 = some d) (h : isC C0 d = true) : ∃ ns ds, d = objD C0 ns ds := by
  obtain ⟨v, _, R2⟩ := R.varA e ed
  exact ins_shape R2 (by simp only [look, e, ed, Option.bind_some, atP]) h
theorem so_fldPut {K : PySem.W.Frag} {C0 : Addr} {i : Nat} {f : Str} {tv : TE} {kv : KE} (hc : Cls K C0) (hn : NoAttr K C0 f) (h : SoE xc tv kv) : SoS xc (sFld K (tVar i) tv f) (kFldPut C0 i f kv) := fun γ Θ σ H De e R hk w => h γ Θ σ H _ _ R hk fun γ1 y H1 hk1 R1 => by
  obtain ⟨sl, tm, j⟩ := γ1
  dsimp only at hk1
  split at hk1
  · rename_i s tm
    obtain ⟨⟨cb, cd⟩, ec, hk2⟩ := elimF hk1
    split at hk2
    rotate_left
    · exact hk2.elim
    rename_i hb
    rw [Bool.and_eq_true] at hb
    obtain ⟨eb, na⟩ := hb
    dsimp only at eb
    subst eb
    have go : ∀ {s0 : Sl} {ns : List Str} {ds : List D}, sl[i]? = some s0 → (s0 = .ow true (objD C0 ns ds) ∨ s0 = .io (objD C0 ns ds)) → ns.length < 900 → e.nx ⟨sl.set i (reS s0 true (putO C0 ns ds f cd)), tm, j⟩ → tVar i σ H1 fun x H2 => ∃ a C dx fs, x = .ref a ∧ H2 a = some (.ins C dx fs) ∧ Cls K C ∧ NoAttr K C f ∧ fs.length < 1000 ∧ De.nx σ (upd H2 a (.ins C dx (putF f y fs))) := fun {s0 ns ds} es hs hl hq => by
      obtain ⟨a, dx, vs, ev, ha, l, R2⟩ := R1.fldPut f es hs na ec
      refine ⟨_, ev, a, C0, dx, _, rfl, ha, hc, hn, ?_, w.nx _ _ _ hq R2⟩
      rw [List.length_zip]
      omega
    split at hk2
    · rename_i d es
      split at hk2
      rotate_left
      · exact hk2.elim
      rename_i hc2
      rw [Bool.and_eq_true] at hc2
      obtain ⟨ns, ds, rfl⟩ := slot_shape R1 es rfl hc2.1
      rw [putOD_obj] at hk2
      exact go es (.inr rfl) (by have := of_decide_eq_true hc2.2; simp only [cntF, List.length_cons, List.length_map] at this; omega) hk2
    · rename_i d es
      split at hk2
      rotate_left
      · exact hk2.elim
      rename_i hc2
      rw [Bool.and_eq_true] at hc2
      obtain ⟨ns, ds, rfl⟩ := slot_shape R1 es rfl hc2.1
      rw [putOD_obj] at hk2
      exact go es (.inl rfl) (by have := of_decide_eq_true hc2.2; simp only [cntF, List.length_cons, List.length_map] at this; omega) hk2
    · exact hk2.elim
  · exact hk1.elim
end G
namespace G
open PySem PySem.Spec PyProof.Rows L2
section
variable {X : Cx} {CX : CXT} {k : Nat} {f C0 pr g0 : Addr} {fd : FuncData} {ps ks : List Str} {sp : Sp} {E : XK} {x m nm : Str} {p pos apos : Pos} {e o : Expr} {es : List Expr} {kws : List Keyword} {ta : TE} {t tk : TA} {g : List Value → List Value → List Value} {gV : List V → List V → List V}
theorem run_fnG {pins : List (Addr × Obj)} {σ : L2.St} {H : Hp} {s : Shared} {Q : VK} {us : List Value} {vs : List V} (F : FnG X.prog X.w X.K X.mg X.base CX k f fd ps sp) (hg : Bare X.A) (hr : Room k X.A) (bd : Binds X.K fd ps []) (hx : Passes CX X E) (I : Inv X pins σ H s) (r : Vals vs us)
    (q : sp (vs ++ []) H Q E) : wpAny (model X.prog X.w) X.A (call (.ref f) us) (EP X pins σ Q) X.xe s := by
  have r2 : Vals (vs ++ []) (us ++ []) := by
    rw [List.append_nil, List.append_nil]
    exact r
  exact wpAny_call (codeAny_mono (F.run X.A X.stack s H ⟨us, []⟩ (us ++ []) (vs ++ []) Q E hg hr I.env0 (bd s us I.kIn (r2.length.symm.trans (F.len _ _ _ _ q))) r2 q) fun r s' hq => end_callG hx I hq)
/-- o.m() -/
theorem pe_meth0G {pl : Sem Bool} (ho : PE X o ta) (cl : Cls X.K C0) (mt : Meth X.K C0 m f) (F : FnG X.prog X.w X.K X.mg X.base CX k f fd ps sp) (hg : Bare X.A) (hr : Room k X.A) (bd : Binds X.K fd ps []) (hx : Passes CX X E)
    (ht : eval (.Call (.Attribute o m apos) [] [] pos) X.env = (do
      let ov ← eval o X.env
      standAt apos.atName
      let (f, first) ← holding [ov] (getMethod ov m pl)
      callWith pos f first (backTo pos (starEach [] X.env)) (backToKw pos (keywordEach [] X.env))) := by rfl) : PE X (.Call (.Attribute o m apos) [] [] pos) (tMeth C0 m sp [] E ta tNil) := by
  refine ⟨fun pins s σ H Q I h => PySem.W.methodCall_KW (pl := pl) (thn (ho.run pins s σ H _ I h) fun u s1 ⟨y, H1, I1, ry, b, dx, fs, ey, eb, l, q⟩ => ?_) ht⟩
  subst ey
  obtain rfl : u = .ref b := ry
  exact getmeth_ok I1 eb cl mt l (PySem.W.callWith_K0 (first := [.ref b]) I1.kIn mt.kp (run_fnG (us := [.ref b]) (vs := [.ref b]) F hg hr bd hx I1 (.cons rfl .nil) q))
/-- e.f, a property -/
theorem pe_propG (ho : PE X o ta) (cl : Cls X.K C0) (hp : PropOf X.K C0 nm pr g0) (F : FnG X.prog X.w X.K X.mg X.base CX k g0 fd ps sp) (hg : Bare X.A) (hr : Room (k + 1) X.A) (bd : Binds X.K fd ps []) (hx : Passes CX X.nox E)
    (hb : attributeBase o nm X.env (eval o X.env) = eval o X.env) : PE X (.Attribute o nm pos) (tProp C0 sp [] E ta) := by
  refine ⟨fun pins s σ H Q I h => attr_of hb (thn (ho.run pins s σ H _ I h) fun u s1 ⟨y, H1, I1, ry, b, dx, fs, ey, eb, q⟩ => ?_)⟩
  subst ey
  obtain rfl : u = .ref b := ry
  obtain ⟨mA, O, _, _, _, _⟩ := ins_get I1.hok eb
  obtain ⟨od, J, _⟩ := O.look
  obtain ⟨rest, hrec⟩ := hp.rec_
  have I2 := I1.tok (s1.toks + 1)
  have hc : (PySem.W.clsIn X.K C0).isSome = true := by
    obtain ⟨cd, hc, _⟩ := PySem.W.any_some cl.hd
    rw [hc] <;> rfl
  have pg := PySem.W.plainGet_of (cl.get nm)
  refine PySem.W.get_bind I1.kIn J pg.1 (PySem.W.findObj_data hc hp.at_ hp.get hp.tak) pg.2 (wpAny_call (PySem.W.prop_get (s := { s1 with toks := s1.toks + 1 }) I1.kIn hrec ?_))
  refine codeAny_mono (F.run X.A.in1 X.stack { s1 with toks := s1.toks + 1 } H1 ⟨[.ref b], []⟩ [.ref b] [.ref b] Q E hg hr.in1 I2.env0.in1 (bd _ [.ref b] I2.kIn (by rw [← F.len _ _ _ _ q]; rfl)) (.cons rfl .nil) q) fun r s' hq => ?_
  match r, hq with
  | .error er, hq => exact False.elim (hx pins σ H1 { s1 with toks := s1.toks + 1 } er s' (I2.wish _) hq)
  | .ok (.ret u), hq =>
    obtain ⟨v, H', I3, rv, q3⟩ := I2.after hq
    show wpAny _ _ (handedOut u) _ _ _
    rw [PySem.W.handedOut_of (handed_of rv)]
    exact wpAny_pure ⟨v, H', I3, rv, q3⟩
theorem run_makeG {pins : List (Addr × Obj)} {σ : L2.St} {H : Hp} {s : Shared} {Q : VK} {us : List Value} {vs : List V} (M : Mk X.K C0 f) (F : FnG X.prog X.w X.K X.mg X.base CX k f fd ps sp) (hg : Bare X.A) (hr : Room (k + 1) X.A) (bd : Binds X.K fd ps []) (hx : Passes CX X E) (I : Inv X pins σ H s) (r : Vals vs us)
    (h : ∀ x dx, H x = none → H dx = none → dx ≠ x → sp (.ref x :: (vs ++ [])) (upd (upd H dx (.own x)) x (.ins C0 dx [])) (fun v H2 => v = .non ∧ Q (.ref x) H2) E) :
    wpAny (model X.prog X.w) X.A (call (.ref C0) us) (EP X pins σ Q) X.xe s := by
  obtain ⟨dx, hdx⟩ : ∃ dx, s.heap.objs.size = dx := ⟨_, rfl⟩
  have q := h (dx + 1) dx (I.hok.fresh (by rw [hdx]; exact Nat.le_succ _)) (I.hok.fresh (Nat.le_of_eq hdx)) (Nat.ne_of_lt (Nat.lt_succ_self _))
  have I2 := Inv.made (C := C0) I
  rw [hdx] at I2
  have r2 : Vals (V.ref (dx + 1) :: (vs ++ [])) ((Value.ref (dx + 1) :: us) ++ []) := by
    rw [List.append_nil, List.append_nil]
    exact .cons rfl r
  have hl : ((Value.ref (dx + 1) :: us) ++ []).length = ps.length := r2.length.symm.trans (F.len _ _ _ _ q)
  refine wpAny_call (make_map (f := f) I.kIn M.makes M.init (beq_iff_eq.mp M.fn) ?_)
  rw [hdx]
  refine codeAny_mono (F.run _ X.stack _ _ ⟨.ref (dx + 1) :: us, []⟩ _ _ _ E hg (hr.make C0 us []) (I2.env0.make C0 us []) (bd _ _ I2.kIn hl) r2 q) fun r s' hq => ?_
  match r, hq with
  | .error er, hq => exact hx pins σ _ _ er s' I2 hq
  | .ok (.ret u), hq =>
    obtain ⟨v, H', I3, rv, ev, q3⟩ := I2.after hq
    subst ev
    exact ⟨rv, V.ref (dx + 1), H', I3, rfl, q3⟩
/-- C(e, ..) -/
theorem pe_makeG (M : Mk X.K C0 f) (F : FnG X.prog X.w X.K X.mg X.base CX k f fd ps sp) (hg : Bare X.A) (hr : Room (k + 1) X.A) (gl : Gl X x) (hm : X.mg x = some (.ref C0)) (bd : Binds X.K fd ps []) (hx : Passes CX X E) (ha : PA X (e :: es) t)
    (hdb : (x == ("__debug__" : Str)) = false := by decide) (he : starEach (e :: es) X.env = (false, eval e X.env) :: starEach es X.env := by rfl) (hpl : (backTo pos (starEach es X.env)).any (·.1) = false := by rfl) : PE X (.Call (.Name x p) (e :: es) [] pos) (tMake C0 sp [] E t) :=
  ⟨fun pins s σ H Q I h => wpAny_Call_Name_kw (ld_glob I gl hm (PySem.W.callWith_K (h₀ := X.base) I.ok.mod.kin M.kp (thn (ha.run pos pins s σ H _ I h) fun us s1 ⟨vs, H1, I1, r, q⟩ => ⟨I1.kIn, run_makeG M F hg hr bd hx I1 r q⟩) he hpl) hdb)⟩
end
end G
namespace G
open PySem PySem.Spec PyProof.Rows L2
variable {C : Cn} {xc : XC C}
section
variable {K : PySem.W.Frag} {t ta tb tk tv : TE} {k ko ka kb kk kv : KE}
theorem datS_dc {m : List (Key × D)} : datS (.dc m) = some (dictD m) := rfl
theorem look_dc {sl : List Sl} {m : List (Key × D)} : look sl (.dc m) = none := rfl
/-- the type's facts -/
def KitT (K : PySem.W.Frag) (nm : String) : Prop := ∀ {H : Hp} {S : List Addr} {v : V} {d : D}, Rep H S v d → PySem.W.kitOne K (.type (tyN d)) (.type nm) = some (decide (tyN d = nm))
theorem kitT_list : KitT K "list" := fun {H S v d} r => by
  rw [kit_list r]
  cases d <;> rfl
theorem kitT_tuple : KitT K "tuple" := fun {H S v d} r => by
  rw [kit_tuple r]
  cases d <;> rfl
theorem kitT_str : KitT K "str" := fun {H S v d} r => by
  cases r with
  | non => exact kit_ty (by decide +kernel)
  | bl b => exact kit_ty (show kitB "bool" "str" = some false by decide +kernel)
  | int i => exact kit_ty (show kitB "int" "str" = some false by decide +kernel)
  | str x => exact kit_ty (show kitB "str" "str" = some true by decide +kernel)
  | lst e _ => exact kit_ty (show kitB "list" "str" = some false by decide +kernel)
  | tup e _ => exact kit_ty (show kitB "tuple" "str" = some false by decide +kernel)
  | box e _ => exact kit_ty (show kitB "dict" "str" = some false by decide +kernel)
theorem ty_str_tuple : decide (("str" : String) = "tuple") = false := by decide +kernel
theorem ty_str_list : decide (("str" : String) = "list") = false := by decide +kernel
theorem ty_tuple_str : decide (("tuple" : String) = "str") = false := by decide +kernel
theorem ty_tuple_list : decide (("tuple" : String) = "list") = false := by decide +kernel
theorem ty_list_str : decide (("list" : String) = "str") = false := by decide +kernel
theorem ty_list_tuple : decide (("list" : String) = "tuple") = false := by decide +kernel
theorem ty_int_str : decide (("int" : String) = "str") = false := by decide +kernel
theorem ty_int_tuple : decide (("int" : String) = "tuple") = false := by decide +kernel
theorem ty_int_list : decide (("int" : String) = "list") = false := by decide +kernel
theorem ty_bool_str : decide (("bool" : String) = "str") = false := by decide +kernel
theorem ty_bool_tuple : decide (("bool" : String) = "tuple") = false := by decide +kernel
theorem ty_bool_list : decide (("bool" : String) = "list") = false := by decide +kernel
theorem ty_NoneType_str : decide (("NoneType" : String) = "str") = false := by decide +kernel
theorem ty_NoneType_tuple : decide (("NoneType" : String) = "tuple") = false := by decide +kernel
theorem ty_NoneType_list : decide (("NoneType" : String) = "list") = false := by decide +kernel
theorem ty_dict_str : decide (("dict" : String) = "str") = false := by decide +kernel
theorem ty_dict_tuple : decide (("dict" : String) = "tuple") = false := by decide +kernel
theorem ty_dict_list : decide (("dict" : String) = "list") = false := by decide +kernel
def kIs (nm : String) (ka : KE) : KE := fun γ q => ka γ fun γ1 => (datN γ1.sl 1 γ1.tm).elim False fun x => isObj (x.1.getD 0 .none) = false ∧ q ⟨γ1.sl, .fz (.bool (decide (tyN (x.1.getD 0 .none) = nm))) :: x.2, γ1.n⟩
theorem so_is {nm : String} (hk : KitT K nm) (h : SoE xc t k) : SoE xc (tCB (rIsi K) (tCons t (tCons (tC (.ty nm)) tNil))) (kIs nm k) := fun γ Θ σ H Q q R hk1 w => h γ Θ σ H _ _ R hk1 fun γ1 v H1 hk2 R1 => by
  obtain ⟨⟨ds, rr⟩, e, ho, hq⟩ := elimF hk2
  obtain ⟨R2, T, rp, _⟩ := Rel.pops (vs := [v]) (Θ := Θ) R1 rfl e
  cases rp with
  | cons r r' =>
    cases r'
    exact ⟨v, _, _, _, _, rfl, .ty _, tyx r ho, hk r, w _ _ _ hq (R2.push fun Z => .bl _)⟩
def kRev (ka : KE) : KE := fun γ q => ka γ fun γ1 => match γ1.tm with
  | s :: tm => (shr γ1.sl s true).elim False fun ds => q ⟨γ1.sl, newL ds.reverse :: tm, γ1.n⟩
  | _ => False
def kExt (ko ke : KE) : KE := fun γ q => ko γ fun γ1 => isLst γ1 ∧ ke γ1 fun γ2 => match γ2.tm with
  | s :: .al i π :: tm => (look γ2.sl s).elim False fun y => match y with
    | .list ys => (ys.all flatD = true ∧ noAl i tm = true) ∧ wrL γ2.sl i π fun b d es => ((b = true ∨ π = []) ∧ ioOk γ2.sl i b) ∧ es.length + ys.length < 10000000 ∧ q ⟨putS γ2.sl i b (setP d π (.list (es ++ ys))), .fz .none :: tm, γ2.n⟩
    | _ => False
  | _ => False
def signsD (x : Str) : List D := x.cps.toList.map fun c => .str ⟨#[c]⟩
def kItS (ke : KE) : KI := fun γ q => ke γ fun γ1 => match γ1.tm with
  | .fz (.str x) :: tm => q (signsD x) ⟨γ1.sl, tm, γ1.n⟩ ∧ tm = γ.tm
  | _ => False
theorem so_itS (h : SoE xc t k) : SoI xc (iStr t) (kItS k) := fun γ Θ σ H Rr q R hk w => h γ Θ σ H _ _ R hk fun γ1 v H1 hk1 R1 => by
  obtain ⟨sl, tm, j⟩ := γ1
  dsimp only at hk1
  split at hk1
  · rename_i x tm
    obtain ⟨hq, et⟩ := hk1
    subst et
    obtain ⟨T, r, _⟩ := R1.read (d := .str x) rfl
    cases r
    refine ⟨x, rfl, w _ (signsD x) _ Θ H1 hq (popD_refl rfl) (fun E Φ i sl n σ H ee R => ⟨fun d e => ?_, fun hi => ?_⟩) R1.pop⟩
    · unfold signsD at e
      rw [List.getElem?_map] at e
      cases hc : x.cps.toList[i]? with
      | none => rw [hc] at e; cases e
      | some c =>
        rw [hc] at e
        cases e
        have hlt := (List.getElem?_eq_some_iff.mp hc).1
        refine ⟨show i < x.cps.size by simpa using hlt, fun y H3 hy => ?_⟩
        obtain ⟨rfl, c', ec, rfl⟩ := hy
        have : c' = c := by
          rw [← Array.getElem?_toList, hc] at ec
          exact (Option.some.inj ec).symm
        subst this
        exact R.push fun Z => .str _
    · show x.cps.size ≤ i
      simpa [signsD] using hi
  · exact hk1.elim
/-- one sign in a text -/
def vInS (neg : Bool) : D → D → (D → Prop) → Prop := fun d1 d2 q => match d1, d2 with
  | .str x, .str y => ∃ c, x = ⟨#[c]⟩ ∧ q (.bool (neg ^^ decide (c ∈ y.cps.toList)))
  | _, _ => False
theorem sr_inSg : SoR (fun x y H Q => ∃ (c : Nat) (z : Str), x = .str ⟨#[c]⟩ ∧ y = .str z ∧ Q (.bl (decide (c ∈ z.cps.toList))) H) (vInS false) := fun H v1 v2 T1 T2 d1 d2 Q q r1 r2 hf w => by
  unfold vInS at hf
  split at hf
  · cases r1
    cases r2
    obtain ⟨c, rfl, hq⟩ := hf
    exact ⟨c, _, rfl, rfl, w _ _ (sca_bl _) (by simpa using hq)⟩
  · exact hf.elim
def dcL (j : Nat) (kk kv : KE) : List D → VSt → (VSt → Prop) → Prop
  | [], γ, q => q γ
  | d :: ds, γ, q => noAl j γ.tm = true ∧ kk ⟨γ.sl.set j (.fz d), γ.tm, γ.n⟩ fun γ1 => kv γ1 fun γ2 => match γ2.tm with
      | .fz c :: .fz y :: .dc m :: tm => (keyD y).elim False fun ky => (flatD c = true ∧ noAl j tm = true ∧ tm = γ.tm.tail ∧ m.length < 10000000) ∧ dcL j kk kv ds ⟨γ2.sl.set j .jk, .dc (putM m ky c) :: tm, γ2.n⟩ q
      | _ => False
def kDc (ki : KI) (j : Nat) (kk kv : KE) : KE := fun γ q => ki γ fun ds γ1 => noAl j γ1.tm = true ∧ dcL j kk kv ds ⟨γ1.sl.set j .jk, .dc [] :: γ1.tm, γ1.n⟩ fun γ2 => match γ2.tm with
  | .dc m :: tm => tm = γ1.tm ∧ q ⟨γ2.sl, .dc m :: γ.tm, γ2.n⟩
  | _ => False
end
end G
namespace G
open PySem PySem.Spec PyProof.Rows L2
structure MetAt (K : PySem.W.Frag) (x qual : Str) (st : Stmt) (f : Addr) (fd : FuncData) (ps : List Str) : Prop where
  F : Fun K x qual st f fd
  bd : Binds K fd ps []
structure LenO (K : PySem.W.Frag) (C f : Addr) : Prop where
  at_ : PySem.W.findIn K (.ref C) "__len__" = some (some (.ref f))
  ty : PySem.W.typeIn K (.ref f) = some (.type "function")
structure EqO (K : PySem.W.Frag) (C f : Addr) : Prop where
  at_ : PySem.W.findIn K (.ref C) "__eq__" = some (some (.ref f))
  fn : PySem.W.isFn K (.ref f) = true
  ne : PySem.W.findIn K (.ref C) "__ne__" = some (some (.builtin "object.__ne__"))
  ob : PySem.W.mroIn K C (.type "object") = some true
section
variable {P : Program} {w : World} {K : PySem.W.Frag} {mg : Str → Option Value} {base : Heap} {CX : CXT} {k : Nat} {f : Addr} {fd : FuncData} {ps : List Str} {sp : Sp}
theorem fn_none (h : ∀ vs H Q E, ¬ sp vs H Q E) : FnG P w K mg base CX k f fd ps sp := ⟨fun vs H Q E q => (h _ _ _ _ q).elim, fun _ _ _ _ _ _ _ _ _ _ _ _ _ _ q => (h _ _ _ _ q).elim⟩
end
theorem noT {W : Tw} (h : ∀ ds Gq, ¬ W ds Gq) : ∀ vs H Q E, ¬ spT W vs H Q E := fun _ _ _ _ ⟨_, _, _, _, w, _⟩ => h _ _ w
theorem noS {W : Tw} (h : ∀ ds Gq, ¬ W ds Gq) : ∀ vs H Q E, ¬ spS W vs H Q E := fun _ _ _ _ ⟨_, _, _, _, w, _⟩ => h _ _ w
theorem noP {c : Int} {W : Tw} (h : ∀ ds Gq, ¬ W ds Gq) : ∀ vs H Q E, ¬ spP c W vs H Q E := fun _ _ _ _ ⟨_, _, _, _, _, _, _, _, _, _, _, w, _⟩ => h _ _ w
section
variable {X : Cx} {CX : CXT} {k : Nat} {f C0 : Addr} {fd : FuncData} {ps ks : List Str} {sp : Sp} {E : XK} {x m nm : Str} {p pos apos : Pos} {e o fe : Expr} {es : List Expr} {kws : List Keyword} {ta tf : TE} {t tk : TA} {g : List Value → List Value → List Value} {gV : List V → List V → List V}
/-- what a def that is called within a built-in leaves -/
theorem run_in1 {pins : List (Addr × Obj)} {σ : L2.St} {H : Hp} {s : Shared} {Q : VK} {us : List Value} {vs : List V} {R : Value → Shared → Prop} (F : FnG X.prog X.w X.K X.mg X.base CX k f fd ps sp) (hg : Bare X.A) (hr : Room (k + 1) X.A) (bd : Binds X.K fd ps []) (hx : Passes CX X E) (I : Inv X pins σ H s) (r : Vals vs us)
    (q : sp vs H Q E) (w : ∀ v u H' s', Inv X pins σ H' s' → RelV v u → Q v H' → R u s') : wpAny (model X.prog X.w) X.A.in1 (call (.ref f) us) R X.xe s := by
  have r2 : Vals (vs ++ []) (us ++ []) := by
    rw [List.append_nil, List.append_nil]
    exact r
  have q2 : sp (vs ++ []) H Q E := by rw [List.append_nil]; exact q
  refine wpAny_call (codeAny_mono (F.run X.A.in1 X.stack s H ⟨us, []⟩ (us ++ []) (vs ++ []) Q E hg hr.in1 I.env0.in1 (bd s us I.kIn (r2.length.symm.trans (F.len _ _ _ _ q2))) r2 q2) fun r s' hq => ?_)
  match r, hq with
  | .error er, hq => exact hx pins σ H s er s' I hq
  | .ok (.ret u), hq =>
    obtain ⟨v, H', I3, rv, q3⟩ := I.after hq
    exact w v u H' s' I3 rv q3
theorem run_in0 {pins : List (Addr × Obj)} {σ : L2.St} {H : Hp} {s : Shared} {Q : VK} {us : List Value} {vs : List V} {R : Value → Shared → Prop} (F : FnG X.prog X.w X.K X.mg X.base CX k f fd ps sp) (hg : Bare X.A) (hr : Room k X.A) (bd : Binds X.K fd ps []) (hx : Passes CX X E) (I : Inv X pins σ H s) (r : Vals vs us)
    (q : sp vs H Q E) (w : ∀ v u H' s', Inv X pins σ H' s' → RelV v u → Q v H' → R u s') : wpAny (model X.prog X.w) X.A (call (.ref f) us) R X.xe s := by
  have r2 : Vals (vs ++ []) (us ++ []) := by
    rw [List.append_nil, List.append_nil]
    exact r
  have q2 : sp (vs ++ []) H Q E := by rw [List.append_nil]; exact q
  refine wpAny_call (codeAny_mono (F.run X.A X.stack s H ⟨us, []⟩ (us ++ []) (vs ++ []) Q E hg hr I.env0 (bd s us I.kIn (r2.length.symm.trans (F.len _ _ _ _ q2))) r2 q2) fun r s' hq => ?_)
  match r, hq with
  | .error er, hq => exact hx pins σ H s er s' I hq
  | .ok (.ret u), hq =>
    obtain ⟨v, H', I3, rv, q3⟩ := I.after hq
    exact w v u H' s' I3 rv q3
def rLenO (C0 : Addr) (sp : Sp) (E : XK) : List V → Hp → VK → Prop := fun xs H Q => ∃ a dx fs, xs = [.ref a] ∧ H a = some (.ins C0 dx fs) ∧ sp [.ref a] H (fun v H' => ∃ n : Int, v = .int n ∧ 0 ≤ n ∧ n < 2 ^ 63 ∧ Q (.int n) H') E
theorem call_lenO (c : LenO X.K C0 f) (F : FnG X.prog X.w X.K X.mg X.base CX k f fd ps sp) (hg : Bare X.A) (hr : Room (k + 1) X.A) (bd : Binds X.K fd ps []) (hx : Passes CX X E) : CallR X (.builtin "len") (rLenO C0 sp E) := by
  intro pins s σ H xs us Q I r h
  obtain ⟨a, dx, fs, rfl, ha, q⟩ := h
  obtain ⟨mA, J, _⟩ := ins_get I.hok ha
  obtain ⟨od, J, _⟩ := J.look
  obtain rfl : us = [.ref a] := by
    cases r with
    | cons h t =>
      cases t
      cases h
      rfl
  refine Calls.call_function_entry kind_len plain_len entry_len (args_len1 _) ?_
  unfold Builtin.«len»
  refine wpAny_bind (m := oneArg "len" _) (wpAny_pure ?_)
  refine wpAny_bind (m := callSpecial? (.ref a) (Str.ofString "__len__")) (PySem.W.special_fn I.kIn J c.at_ c.ty (run_in1 F hg hr bd hx I (us := [.ref a]) (vs := [.ref a]) (.cons rfl .nil) q fun v u H' s' I' rv hv => ?_))
  obtain ⟨n, rfl, h0, h1, hq⟩ := hv
  obtain ⟨tk, rfl⟩ := rv
  refine wpAny_bind (wpAny_holding (wpAny_pure ?_))
  refine wpAny_bind (wpAny_letGo ?_)
  show wpAny _ _ (if n < 0 then _ else _) _ _ _
  rw [if_neg (by omega)]
  show wpAny _ _ (if n ≥ 2 ^ 63 then _ else _) _ _ _
  rw [if_neg (by omega)]
  exact wpAny_bind (wpAny_mkInt (wpAny_pure ⟨_, rfl, V.int n, H', I'.tok _, ⟨_, rfl⟩, hq⟩))
def rEqO (C0 : Addr) (neg : Bool) (sp : Sp) (E : XK) : R2 := fun x y H Q => ∃ a dx fs b dy gs, x = .ref a ∧ H a = some (.ins C0 dx fs) ∧ y = .ref b ∧ H b = some (.ins C0 dy gs) ∧ sp [.ref a, .ref b] H (fun v H' => ∃ r : Bool, v = .bl r ∧ Q (.bl (neg ^^ r)) H') E
theorem op_eqO (c : EqO X.K C0 f) (F : FnG X.prog X.w X.K X.mg X.base CX k f fd ps sp) (hg : Bare X.A) (hr : Room (k + 1) X.A) (bd : Binds X.K fd ps []) (hx : Passes CX X E) : OpR X (compareOp .Eq) (rEqO C0 false sp E) := by
  intro pins s σ H x y v u Q I rx ry h
  obtain ⟨a, dx, fs, b, dy, gs, rfl, ha, rfl, hb, q⟩ := h
  cases rx
  cases ry
  obtain ⟨mA, J, _⟩ := ins_get I.hok ha
  obtain ⟨mB, J', _⟩ := ins_get I.hok hb
  obtain ⟨od, J, _⟩ := J.look
  obtain ⟨od', J', _⟩ := J'.look
  obtain ⟨m, hF⟩ := I.fr
  show wpAny (model X.prog X.w) X.A (richCompare .Eq _ _) (EP X pins σ Q) X.xe s
  refine PySem.W.cmp_K (op := .Eq) (tb := .ref C0) hr.units0 hF I.ok.mod.kin J J'.type (by simp [PySem.W.notFirst]) c.at_ c.fn ?_
  refine run_in0 F hg (hr.mono (Nat.le_succ _)) bd hx I (us := [.ref a, .ref b]) (vs := [.ref a, .ref b]) (.cons rfl (.cons rfl .nil)) q fun v u H' s' I' rv hv => ?_
  obtain ⟨r, rfl, hq⟩ := hv
  cases rv
  exact ⟨V.bl r, H', I', rfl, by simpa using hq⟩
theorem ne_bind (self : Value) : bindSpecial (.builtin "object.__ne__") self = pure (.builtin "object.__ne__", [self]) := by kernel_rfl
theorem op_neO (c : EqO X.K C0 f) (F : FnG X.prog X.w X.K X.mg X.base CX k f fd ps sp) (hg : Bare X.A) (hr : Room (k + 2) X.A) (bd : Binds X.K fd ps []) (hx : Passes CX X E) : OpR X (compareOp .NotEq) (rEqO C0 true sp E) := by
  intro pins s σ H x y v u Q I rx ry h
  obtain ⟨a, dx, fs, b, dy, gs, rfl, ha, rfl, hb, q⟩ := h
  cases rx
  cases ry
  obtain ⟨mA, J, _⟩ := ins_get I.hok ha
  obtain ⟨mB, J', _⟩ := ins_get I.hok hb
  obtain ⟨od, J, _⟩ := J.look
  obtain ⟨od', J', _⟩ := J'.look
  have ti : PySem.W.Looks (model X.prog X.w) s.heap (isInstance (.ref a) (.type "object")) true := J.type.andThen (PySem.W.looks_mroIn I.kIn c.ob)
  have sp1 : PySem.W.Looks (model X.prog X.w) s.heap (specialOf (.ref a) "__ne__") (some (.builtin "object.__ne__")) := J.type.andThen (PySem.W.looks_findIn I.kIn c.ne)
  have one : wpAny (model X.prog X.w) X.A (tryCompare (.ref a) "__ne__" (.ref b)) (fun r s' => ∃ v, r = some v ∧ EP X pins σ Q v s') X.xe s := by
    unfold tryCompare
    refine wpAny_bind (NtL.csib sp1 (ne_bind _) ?_)
    refine wpAny_call (codeAny_call_builtin (by decide +kernel) PySem.F.cmpEntry_ne (@PySem.W.check_slot (model X.prog X.w) _ _ _ "object.__ne__" "object" "__ne__" (.ref a) [.ref b] [] _ PySem.F.cmpKind_ne PySem.F.cmpSplit_ne ti (PySem.F.cmpArgs_ne _ _) ?_))
    unfold Builtin.«object.__ne__»
    repeat (first
      | with_reducible refine wpAny_cRoomFor hr.in1.units0 ?_
      | (refine wpAny_bind (m := callSpecialIfBound? (.ref a) (Str.ofString "__eq__") [.ref b]) (PySem.W.ifBound_K I.kIn J c.at_ c.fn (run_in1 F hg (hr.mono (Nat.le_succ _)) bd hx I (us := [.ref a, .ref b]) (vs := [.ref a, .ref b]) (.cons rfl (.cons rfl .nil)) q fun v u H' s' I' rv hv => ?_)))
      | wp_step)
    obtain ⟨r, rfl, hq⟩ := hv
    cases rv
    refine wpAny_bind (wpAny_truthy_bool ?_)
    refine wpAny_pure ?_
    exact wpAny_pure ⟨_, rfl, V.bl (!r), H', I', rfl, by simpa using hq⟩
  show wpAny (model X.prog X.w) X.A (richCompare .NotEq _ _) (EP X pins σ Q) X.xe s
  unfold richCompare
  simp only [oneThing_ref]
  refine wpAny_holding (wpAny_bind (wpAny_cRoomFor hr.units0 ?_))
  rw [cmpInfo_NotEq]
  refine wpAny_bind (J.type.here (wpAny_bind (J'.type.here ?_)))
  rw [show (Value.ref C0 != Value.ref C0) = false from by simp]
  simp only [Bool.false_eq_true, if_false]
  refine wpAny_bind (wpAny_pure ?_)
  simp only [Bool.false_eq_true, if_false]
  refine wpAny_bind (wpAny_mono one (fun r s' z => ?_) fun _ _ e => e)
  obtain ⟨v, rfl, hq⟩ := z
  exact wpAny_pure hq
def tMakeK (C0 : Addr) (sp : Sp) (gV : List V → List V → List V) (E : XK) (tk : TA) : TE := fun σ H Q => tk σ H fun zs H2 => ∀ x dx, H2 x = none → H2 dx = none → dx ≠ x → sp (gV [.ref x] zs) (upd (upd H2 dx (.own x)) x (.ins C0 dx [])) (fun v H3 => v = .non ∧ Q (.ref x) H3) E
theorem pe_makeKG (M : Mk X.K C0 f) (F : FnG X.prog X.w X.K X.mg X.base CX k f fd ps sp) (hg : Bare X.A) (hr : Room (k + 1) X.A) (gl : Gl X x) (hm : X.mg x = some (.ref C0)) (hb : KBinds X.K fd ps ks g gV) (hx : Passes CX X E)
    (hkw : PK X kws tk) (hall : (backToKw pos (keywordEach kws X.env)).all (·.1.isSome) = true := by rfl) (hks : (backToKw pos (keywordEach kws X.env)).filterMap (·.1) = ks := by rfl) (hdb : (x == ("__debug__" : Str)) = false := by decide)
    (hpl : ((backTo pos (starEach [] X.env)).any (·.1) || (backToKw pos (keywordEach kws X.env)).any (·.1.isNone)) = false := by rfl) : PE X (.Call (.Name x p) [] kws pos) (tMakeK C0 sp gV E tk) := by
  refine ⟨fun pins s σ H Q I h => wpAny_Call_Name_kw (ld_glob I gl hm (PySem.W.callWith_KW0 (h₀ := X.base) I.ok.mod.kin M.kp hall (thn (hkw.run pos pins s σ H _ I h) fun ws s1 ⟨zs, H1, I1, rz, q⟩ => ⟨I1.kIn, ?_⟩) hpl) hdb)⟩
  rw [hks]
  have hq := q (s1.heap.objs.size + 1) s1.heap.objs.size (I1.hok.fresh (Nat.le_succ _)) (I1.hok.fresh (Nat.le_refl _)) (Nat.ne_of_lt (Nat.lt_succ_self _))
  have I2 := Inv.made (C := C0) I1
  have r1 : Vals [V.ref (s1.heap.objs.size + 1)] [Value.ref (s1.heap.objs.size + 1)] := .cons rfl .nil
  have r2 := hb.rel r1 rz
  refine wpAny_call (make_map (f := f) I1.kIn M.makes M.init (beq_iff_eq.mp M.fn) (codeAny_mono (F.run _ X.stack _ _ ⟨[Value.ref (s1.heap.objs.size + 1)], ks.zip ws⟩ (g [Value.ref (s1.heap.objs.size + 1)] ws) _ _ E hg (hr.make C0 [] (ks.zip ws))
    (I2.env0.make C0 [] (ks.zip ws)) (hb.to _ [Value.ref (s1.heap.objs.size + 1)] ws I2.kIn (r2.length.symm.trans (F.len _ _ _ _ hq))) r2 hq) fun r s' hq' => ?_))
  match r, hq' with
  | .error er, hq' => exact hx pins σ _ _ er s' I2 hq'
  | .ok (.ret u), hq' =>
    obtain ⟨v, H', I3, rv, ev, q3⟩ := I2.after hq'
    subst ev
    exact ⟨rv, V.ref (s1.heap.objs.size + 1), H', I3, rfl, q3⟩
end
section
variable {C : Cn} {xc : XC C} {K : PySem.W.Frag} {t ta tb : TE} {ts tk : TA} {k ka kb ko : KE} {n : Nat} {C0 : Addr} {m : Str} {W : Tw}
/-- an instance of the class -/
theorem Rep.ins {H : Hp} {T : List Addr} {v : V} {d : D} (r : Rep H T v d) (h : isC C0 d = true) : ∃ a dx fs, v = .ref a ∧ H a = some (.ins C0 dx fs) := by
  cases r with
  | box b _ =>
    obtain ⟨ns, rfl⟩ := isC_of b h
    obtain ⟨dx, e, _⟩ := b.obj
    exact ⟨_, dx, _, rfl, e⟩
  | _ => exact nomatch h
def kLenO (C0 : Addr) (W : Tw) (ko : KE) : KE := fun γ q => ko γ fun γ1 => (datN γ1.sl 1 γ1.tm).elim False fun x => isC C0 (x.1.getD 0 .none) = true ∧ W x.1 fun d => match d with
  | .int n => (0 ≤ n ∧ n ≤ 1000000000000) ∧ q ⟨γ1.sl, .fz (.int n) :: x.2, γ1.n⟩
  | _ => False
theorem so_lenO (h : SoA xc 1 ts k) : SoE xc (tCB (rLenO C0 (spT W) E0) ts) (kLenO C0 W k) := fun γ Θ σ H Q q R hk w => h γ Θ σ H _ _ R hk fun γ1 vs H1 el hk1 R1 => by
  match vs, el with
  | [v], _ =>
    obtain ⟨⟨ds, rr⟩, e, ed, hf⟩ := elimF hk1
    dsimp only at ed
    obtain ⟨R3, T, rp, _⟩ := Rel.pops (vs := [v]) (Θ := Θ) R1 rfl e
    obtain ⟨a, dx, fs, rfl, ha⟩ : ∃ a dx fs, v = .ref a ∧ H1 a = some (.ins C0 dx fs) := by
      cases rp with
      | cons r r' => exact r.ins ed
    refine ⟨a, dx, fs, rfl, ha, T, _, _, rp, hf, fun d v H' hq sm nw => ?_⟩
    split at hq
    · rename_i n
      obtain ⟨⟨h0, h1⟩, hq⟩ := hq
      have R4 := R3.newR sm nw
      have ev : v = .int n := by
        obtain ⟨S, r, _⟩ := nw
        cases r
        rfl
      subst ev
      exact ⟨n, rfl, h0, by omega, w _ _ _ hq R4⟩
    · exact hq.elim
def kEqO (C0 : Addr) (W : Tw) (neg : Bool) (ka kb : KE) : KE := fun γ q => ka γ fun γ1 => kb γ1 fun γ2 => (datN γ2.sl 2 γ2.tm).elim False fun x => (isC C0 (x.1.getD 0 .none) && isC C0 (x.1.getD 1 .none)) = true ∧ W x.1 fun d => match d with
  | .bool b => q ⟨γ2.sl, .fz (.bool (neg ^^ b)) :: x.2, γ2.n⟩
  | _ => False
theorem so_eqO {neg : Bool} (ha : SoE xc ta ka) (hb : SoE xc tb kb) : SoE xc (tOp (rEqO C0 neg (spT W) E0) ta tb) (kEqO C0 W neg ka kb) := fun γ Θ σ H Q q R hk w => ha γ Θ σ H _ _ R hk fun γ1 v1 H1 hk1 R1 => hb γ1 _ σ H1 _ _ R1 hk1 fun γ2 v2 H2 hk2 R2 => by
  obtain ⟨⟨ds, rr⟩, e, ed, hf⟩ := elimF hk2
  dsimp only at ed
  rw [Bool.and_eq_true] at ed
  obtain ⟨R3, T, rp, _⟩ := Rel.pops (vs := [v1, v2]) (Θ := Θ) R2 rfl e
  obtain ⟨⟨a, dx, gs, rfl, ha⟩, ⟨b, dy, hs, rfl, hb⟩⟩ : (∃ a dx fs, v1 = .ref a ∧ H2 a = some (.ins C0 dx fs)) ∧ ∃ a dx fs, v2 = .ref a ∧ H2 a = some (.ins C0 dx fs) := by
    cases rp with
    | cons r r' =>
      cases r' with
      | cons r2 _ => exact ⟨r.ins ed.1, r2.ins ed.2⟩
  refine ⟨a, dx, gs, b, dy, hs, rfl, ha, rfl, hb, T, _, _, rp, hf, fun d v H' hq sm nw => ?_⟩
  split at hq
  · rename_i r
    have R4 := R3.newR sm nw
    have ev : v = .bl r := by
      obtain ⟨S, r, _⟩ := nw
      cases r
      rfl
    subst ev
    refine ⟨r, rfl, w _ _ _ hq ((R4.pop).push fun Z => .bl _)⟩
  · exact hq.elim
/-- isinstance(o, C): it is one -/
def kIsC (C0 : Addr) (ko : KE) : KE := fun γ q => ko γ fun γ1 => (datN γ1.sl 1 γ1.tm).elim False fun x => isC C0 (x.1.getD 0 .none) = true ∧ q ⟨γ1.sl, .fz (.bool true) :: x.2, γ1.n⟩
theorem so_isC (h : SoE xc t k) : SoE xc (tCB (fun xs H Q => ∃ a dx fs, xs = [.ref a, .ref C0] ∧ H a = some (.ins C0 dx fs) ∧ Q (.bl true) H) (tCons t (tCons (tC (.ref C0)) tNil))) (kIsC C0 k) := fun γ Θ σ H Q q R hk w => h γ Θ σ H _ _ R hk fun γ1 v H1 hk1 R1 => by
  obtain ⟨⟨ds, rr⟩, e, ed, hq⟩ := elimF hk1
  dsimp only at ed
  obtain ⟨R3, T, rp, _⟩ := Rel.pops (vs := [v]) (Θ := Θ) R1 rfl e
  cases rp with
  | cons r r' =>
    obtain ⟨a, dx, fs, rfl, ha⟩ := r.ins ed
    exact ⟨a, dx, fs, rfl, ha, w _ _ _ hq (R3.push fun Z => .bl _)⟩
/-- o.m(..), what comes may share lists with the arguments -/
def kMethS (C0 : Addr) (m : Str) (W : Tw) (n : Nat) (ko ka : KE) : KE := fun γ q => ko γ fun γ1 => isOb C0 m γ1 ∧ ka γ1 fun γ2 => (fzA (n + 1) γ2.tm).elim False fun x => W x.1 fun d => q ⟨γ2.sl, .fz d :: x.2, γ2.n⟩
/-- o.m(k = .., ..) -/
def kMethK (C0 : Addr) (m : Str) (W : Tw) (ix : List Nat) (n : Nat) (ko ka : KE) : KE := fun γ q => ko γ fun γ1 => isOb C0 m γ1 ∧ ka γ1 fun γ2 => (datN γ2.sl (n + 1) γ2.tm).elim False fun x => W (ix.filterMap fun i => x.1[i]?) fun d => q ⟨γ2.sl, own d :: x.2, γ2.n⟩
/-- C(k = .., ..) -/
def kMakeK (C0 : Addr) (W : TwI) (ix : List Nat) (n : Nat) (ka : KE) : KE := fun γ q => ka γ fun γ1 => (datN γ1.sl n γ1.tm).elim False fun x => W (objD C0 [] [] :: (ix.filterMap fun i => x.1[i]?)) fun r e => r = .none ∧ q ⟨γ1.sl, own e :: x.2, γ1.n⟩
theorem so_makeK {W : TwI} {ix : List Nat} (h : SoA xc n tk ka) : SoE xc (tMakeK C0 (spI W) (gKwMV 1 (0 :: ix.map (· + 1))) E0 tk) (kMakeK C0 W ix n ka) := fun γ Θ σ H Q q R hk w => h γ Θ σ H _ _ R hk fun γ1 vs H1 el hk1 R1 => by
  intro x dx hx hdx hne
  obtain ⟨⟨ds, rr⟩, e, hf⟩ := elimF hk1
  obtain ⟨R3, T0, rp0, _⟩ := Rel.pops (Θ := Θ) R1 el e
  obtain ⟨T, rp, _⟩ := rp0.pickI ix
  have sm : Same H1 (upd (upd H1 dx (.own x)) x (.ins C0 dx [])) := fun b o eo => by
    rw [upd_ne (ne_of_none eo hx), upd_ne (ne_of_none eo hdx)]
    exact eo
  have ev : gKwMV 1 (0 :: ix.map (· + 1)) [V.ref x] vs = V.ref x :: (ix.filterMap fun i => vs[i]?) := by
    unfold gKwMV
    refine (if_pos rfl).trans ?_
    rw [List.filterMap_cons]
    simp only [List.cons_append, List.nil_append, List.getElem?_cons_zero, List.filterMap_map, List.cons.injEq, true_and]
    rfl
  rw [ev]
  refine ⟨.ref x, _, [x], T, objD C0 [] [], _, _, rfl, .box (.ins (ns := []) (vs := []) upd_same rfl) .nil, by simp, Reps.mono (fun t xs e => sm _ _ e) _ _ _ rp (fun a m o e => sm _ _ e), fun a m z => ?_, hf, fun d e2 v' H' hq fr nw => ?_⟩
  · obtain ⟨o, eo⟩ := Reps.dom _ _ _ rp a m
    rw [List.mem_singleton.mp z, hx] at eo
    cases eo
  · obtain ⟨A, B, r1, r2, nd, new⟩ := nw
    obtain ⟨rfl, hq⟩ := hq
    cases r2
    refine ⟨rfl, w _ _ _ hq (R3.newR (fun b o eo => fr b o (sm b o eo) fun z => ?_) ⟨A, r1, (List.nodup_append.mp nd).1, fun a m => ?_⟩)⟩
    · rw [List.mem_singleton.mp z, hx] at eo
      cases eo
    · rcases new a (List.mem_append_left _ m) with z | z
      · rw [List.mem_singleton.mp z]
        exact hx
      · cases q : H1 a with
        | none => rfl
        | some o => rw [sm a o q] at z; cases z
end
end G
namespace G
open PySem PySem.Spec PyProof.Rows L2
/-- a book, by its rows -/
abbrev bookD (C : Addr) (rs : List D) : D := objD C [("kept" : Str)] [.list rs]
theorem isC_obj {C : Addr} {ns : List Str} {ds : List D} : isC C (objD C ns ds) = true := decide_eq_true rfl
theorem isObj_obj {C : Addr} {ns : List Str} {ds : List D} : isObj (objD C ns ds) = true := rfl
theorem own_obj {C : Addr} {ns : List Str} {ds : List D} : own (objD C ns ds) = .ow true (objD C ns ds) := rfl
theorem cntF_obj {C : Addr} {ns : List Str} {ds : List D} : cntF (objD C ns ds) = ns.length + 1 := by simp [cntF]
theorem fld_kept {C : Addr} {rs : List D} : fldD "kept" (bookD C rs) = some (0, .list rs) := by
  have e : isStr "kept" (.str "kept") = true := by decide +kernel
  simp [fldD, List.findIdx?_cons, e]
theorem nof_book {C : Addr} {rs : List D} {m : Str} (h : (("kept" : Str) == m) = false) : noFld m (bookD C rs) = true := by
  have e : isStr m (.str "kept") = false := h
  simp [noFld, List.findIdx?_cons, e]
theorem nof_book_names {C : Addr} {rs : List D} : noFld "names" (bookD C rs) = true := nof_book (by decide +kernel)
theorem nof_book_words {C : Addr} {rs : List D} : noFld "words" (bookD C rs) = true := nof_book (by decide +kernel)
theorem nof_book_effects_held {C : Addr} {rs : List D} : noFld "effects_held" (bookD C rs) = true := nof_book (by decide +kernel)
theorem nof_book_effect {C : Addr} {rs : List D} : noFld "effect" (bookD C rs) = true := nof_book (by decide +kernel)
theorem nof_book_with_word {C : Addr} {rs : List D} : noFld "with_word" (bookD C rs) = true := nof_book (by decide +kernel)
theorem nof_book_without {C : Addr} {rs : List D} : noFld "without" (bookD C rs) = true := nof_book (by decide +kernel)
theorem put_kept {C : Addr} {x : D} : putOD "kept" x (objD C [] []) = objD C [("kept" : Str)] [x] := rfl
theorem put_kept2 {C : Addr} {x y : D} : putOD "kept" x (objD C [("kept" : Str)] [y]) = objD C [("kept" : Str)] [x] := by
  have e : isStr "kept" (.str "kept") = true := by decide +kernel
  simp [putOD, List.findIdx?_cons, e]
end G
namespace L2
open PySem PySem.Spec PyProof.Rows
end L2
namespace G
open PySem PySem.Spec PyProof.Rows L2
variable {C : Cn} {xc : XC C}
section
variable {t ta tb : TE} {k ka kb : KE} {sl tm : List Sl} {n : Int} {v u : V} {Θ : List V} {σ : L2.St} {H : Hp} {y d x : D}
/-- e[y], e a dict that is frozen -/
def kDGetE (ka kb : KE) : KE := fun γ q => ka γ fun γ1 => kb γ1 fun γ2 => match γ2.tm with
  | .fz y :: .fz d :: tm => (boxM d).elim False fun m => (keyD y).elim False fun ky => ∃ x, valM m ky = some x ∧ q ⟨γ2.sl, .fz x :: tm, γ2.n⟩
  | _ => False
end
end G
namespace G
open PySem PySem.Spec PyProof.Rows L2
/-- the texts of a list, each once, in order -/
def mtStep (σ : List Str) (v : Str) : List Str := if v ∈ σ then σ else σ ++ [v]
def mtS (xs : List Str) : List Str := xs.foldl mtStep []
theorem mtS_snoc (xs : List Str) (x : Str) : mtS (xs ++ [x]) = mtStep (mtS xs) x := by
  unfold mtS
  rw [List.foldl_append]
  rfl
theorem mtStep_mem (σ : List Str) (v k : Str) : k ∈ mtStep σ v ↔ k ∈ σ ∨ k = v := by
  unfold mtStep
  split
  · rename_i h
    exact ⟨.inl, fun z => z.elim id fun e => e ▸ h⟩
  · rw [List.mem_append, List.mem_singleton]
theorem mtStep_len (σ : List Str) (v : Str) : (mtStep σ v).length = if v ∈ σ then σ.length else σ.length + 1 := by
  unfold mtStep
  split
  · rfl
  · rw [List.length_append, List.length_singleton]
theorem mtF_len : ∀ (xs σ : List Str), (xs.foldl mtStep σ).length ≤ σ.length + xs.length
  | [], σ => Nat.le_refl _
  | x :: xs, σ => by
    have := mtF_len xs (mtStep σ x)
    rw [mtStep_len] at this
    rw [List.foldl_cons, List.length_cons]
    split at this <;> omega
theorem mtS_le (xs : List Str) : (mtS xs).length ≤ xs.length := by
  have := mtF_len xs []
  simpa [mtS] using this
section
variable {pg : Program} {wd : World} {B : Around}
/-- the loop of set(a list of texts) -/
theorem setLoop {R : Result → Shared → Prop} {I : Addr} {fp wr : List Addr} {GG : Array GenState → Array GenState → Prop} {xs : List Str} {PV : Nat → Value → Prop} {St : Nat → Shared → Prop} (W : WalksS pg wd B.in1 I fp wr GG xs.length PV St) (S : Addr) (nf : S ∉ fp)
    (hv : ∀ i v, PV i v → ∃ t x, xs[i]? = some x ∧ v = Value.str x t) (hb : xs.length + 1 < scanBound) : ∀ (post pre : List Str) (s : Shared), xs = pre ++ post → St pre.length s → s.heap.SetOf (PySem.strKind pg wd) S (fun k => decide (k ∈ mtS pre)) (mtS pre).length →
      (∀ s', Moved (S :: wr) GG s s' → s'.heap.SetOf (PySem.strKind pg wd) S (fun k => decide (k ∈ mtS xs)) (mtS xs).length → R (.ok (.ret .none)) s') →
      codeAny (model pg wd) B (.builtin "set.update.loop" ⟨[.ref S, .ref I], []⟩) R s := by
  have nw : S ∉ wr := fun z => nf (W.sub _ z)
  have keep : ∀ {k : Str → Bool} {n : Nat} {s s' : Shared}, Moved wr GG s s' → s.heap.SetOf (PySem.strKind pg wd) S k n → s'.heap.SetOf (PySem.strKind pg wd) S k n := fun hm ⟨o, es, ep, tb, ho, rest⟩ => ⟨o, es, ep, tb, hm.heap S _ nw ho, rest⟩
  intro post
  induction post with
  | nil =>
    intro pre s hx hst hS hR
    rw [List.append_nil] at hx
    subst hx
    refine codeAny_builtin PyProof.Rows.F.entry_set_update_loop (by rw [Around.under_plainId PyProof.Rows.F.plain_set_update_loop _]; exact (show wpAny _ B.in1 (pyNext (.ref I) >>= _) _ _ s from wpAny_bind (W.done s _ _ hst fun s' hm => wpAny_pure (hR s' (hm.mono fun b z => List.mem_cons_of_mem _ z) (keep hm hS)))))
  | cons x post ih =>
    intro pre s hx hst hS hR
    have hlt : pre.length < xs.length := by rw [hx, List.length_append, List.length_cons]; omega
    have hle := mtS_le pre
    have enter : wpAny (model pg wd) B.in1 (Builtin.«set.update.loop» ⟨[.ref S, .ref I], []⟩) (fun fin s' => match fin with | .done f => R (.ok f) s' | .again c' => c'.quiet = true ∧ codeAny (model pg wd) B c' R s') (fun e s' => R (.error e) s') s → codeAny (model pg wd) B (.builtin "set.update.loop" ⟨[.ref S, .ref I], []⟩) R s := fun q => codeAny_builtin PyProof.Rows.F.entry_set_update_loop (by rw [Around.under_plainId PyProof.Rows.F.plain_set_update_loop _]; exact q)
    refine enter ?_
    refine wpAny_bind (m := pyNext (.ref I)) (W.item pre.length s _ _ hlt hst fun v s' hP hst' hm => ?_)
    obtain ⟨t, y, hy, rfl⟩ := hv _ _ hP
    obtain rfl : y = x := by
      rw [hx, List.getElem?_append_right (Nat.le_refl _)] at hy
      simpa using hy.symm
    have hS' := keep hm hS
    show wpAny _ B.in1 (holding [Value.str y t] (setAdd S (.str y t)) >>= _) _ _ s'
    unfold setAdd
    refine wpAny_bind (wpAny_holding (wpAny_holding (wpAny_bind ((PySem.strKind pg wd).pyHash (k := y) (strKind_is _ _ _ _) ?_))))
    refine wpAny_setAddHashed_of (knd := PySem.strKind pg wd) (s := { s' with toks := s'.toks + 1 }) (strKind_is _ _ _ _) rfl hS' (by omega) fun h' sb S2 => ?_
    have e1 : h'.SetOf (PySem.strKind pg wd) S (fun k => decide (k ∈ mtS (pre ++ [y]))) (mtS (pre ++ [y])).length := by
      refine SetOf_congr S2 (fun k => ?_) ?_
      · rw [mtS_snoc]
        by_cases e : k = y <;> by_cases m : k ∈ mtS pre <;> simp [mtStep_mem, e, m]
      · rw [mtS_snoc, mtStep_len]
        by_cases m : y ∈ mtS pre <;> simp [m]
    have off : ∀ b o, b ≠ S → s'.heap.get? b = some o → h'.get? b = some o := fun b o hb eo => (sb.2 b hb).trans eo
    refine wpAny_pure ⟨plainId_quiet PyProof.Rows.F.plain_set_update_loop _, ih (pre ++ [y]) _ (by rw [hx, List.append_assoc]; rfl) ?_ e1 fun s'' hm2 hS2 => hR s'' (Moved.trans W.gtrans ((hm.mono fun b z => List.mem_cons_of_mem _ z).then_heap (Nat.le_succ _) fun b o hb eo => off b o (fun z => hb (z ▸ List.mem_cons_self)) eo) hm2) hS2⟩
    rw [List.length_append, List.length_singleton]
    exact W.frame _ s' _ _ hst' (Nat.le_succ _) fun b hb o eo => off b o (fun z => nf (z ▸ hb)) eo
end
section
variable {pg : Program} {wd : World} {B : Around} {E : Value → Shared → Prop} {s : Shared}
/-- set(l), l a list of texts -/
theorem call_setS {l : Addr} {its : Array Value} {xs : List Str} {Q : Value → Shared → Prop} (hh : B.handled = none) (hl : s.heap.IsList l its) (hi : ∀ (i : Nat) (v : Value), its[i]? = some v → ∃ t x, xs[i]? = some x ∧ v = Value.str x t) (hn : its.size = xs.length) (hb : xs.length + 1 < scanBound)
    (h : ∀ (h' : Heap) (tk : Nat), h'.SetOf (PySem.strKind pg wd) s.heap.objs.size (fun k => decide (k ∈ mtS xs)) (mtS xs).length → (∀ b o, b < s.heap.objs.size → s.heap.get? b = some o → h'.get? b = some o) → Q (.ref s.heap.objs.size) { s with heap := h', toks := tk }) :
    wpAny (model pg wd) B (call (.type "set") [.ref l]) Q E s := by
  obtain ⟨c, tl, m0⟩ := PySem.F.called_set.mro
  obtain ⟨m1, m2, m3, m4, m5⟩ := And.intro PySem.F.called_set.made (And.intro PySem.F.called_set.sub (And.intro PySem.F.called_set.notType (And.intro PySem.F.called_set.canCreate (PySem.F.typeCall_set_1 (.ref l)))))
  refine wpAny_call (codeAny_of_tree (show wpAny _ _ (callAny (.type "set") _) _ _ _ from wpAny_pure ⟨Code.quiet_builtin _ (by decide +kernel), codeAny_builtin PySem.F.entry_type_call ?_⟩))
  rw [Around.under_plain (weight_type_call_type "set" [.ref l] []) rfl]
  repeat (any_goals (first | assumption | wp_step))
  let ob : Bool → Obj := fun led => { cls := .type "set", dict := none, data := .set #[] 0 (.fresh 0 0 led) }
  refine codeAny_mono (code_set_new_1 (.ref l) (E := E) (Q₁ := fun r s1 => ∃ led : Bool, r = .ref s.heap.objs.size ∧ s1 = { s with heap := s.heap.push (ob led) }) fun led => ⟨led, rfl, rfl⟩) fun r s1 hr => ?_
  match r, hr with
  | .error e, hr => exact hr
  | .ok (.ret o), ⟨led, e1, e2⟩ =>
    subst e1 e2
    have gS : (s.heap.push (ob led)).get? s.heap.objs.size = some (ob led) := Heap.get?_push_size _ rfl
    have tS : Shared.TypeIs { s with heap := s.heap.push (ob led) } (.ref s.heap.objs.size) "set" := ⟨_, gS, rfl⟩
    have i1 := PySem.F.called_set.init.lookup
    have i2 := PySem.F.called_set.init.bind (.ref s.heap.objs.size)
    repeat (any_goals (first | assumption | wp_step))
    refine codeAny_mono (codeAny_call_builtin (R := wants (fun r s2 => r = .none ∧ ∃ h' tk, s2 = { s with heap := h', toks := tk } ∧ h'.SetOf (PySem.strKind pg wd) s.heap.objs.size (fun k => decide (k ∈ mtS xs)) (mtS xs).length ∧ ∀ b o, b < s.heap.objs.size → s.heap.get? b = some o → h'.get? b = some o) E) PySem.F.called_set.init.plain PySem.F.entry_set_init (check_set_init_1 tS ?_)) fun r2 s2 hr2 => ?_
    · obtain ⟨ol, hol, hcl, nl, hdl⟩ := id hl
      obtain ⟨ocls, odict, odata, oslots⟩ := ol
      simp only at hcl hdl
      subst hcl hdl
      have gL : (s.heap.push (ob led)).get? l = some { cls := .type "list", dict := odict, data := .seq its nl, slots := oslots } := Heap.get?_push_of_some _ hol
      have q1 := PySem.F.sub_list_set
      have q2 := PySem.F.sub_list_frozenset
      have q3 : (Value.type "list" == Value.type "dict") = false := by decide
      have lL : (s.heap.push (ob led)).IsList l its := ⟨_, gL, rfl, nl, rfl⟩
      have lt : l < s.heap.objs.size := Heap.lt_size hol
      have sz : (s.heap.push (ob led)).objs.size = s.heap.objs.size + 1 := Heap.size_push _ _
      unfold Builtin.«set.__init__» noKeywords Builtin.Frozenset.updateFrom
      generalize hPI : pyIter = PI
      wp_walk
      subst hPI
      refine wpAny_pyIter_list lL (wpAny_bind (wpAny_runValue ?_))
      have nI : l ≠ (s.heap.push (ob led)).objs.size := by rw [sz]; exact Nat.ne_of_lt (Nat.lt_succ_of_lt lt)
      have nf : s.heap.objs.size ∉ [(s.heap.push (ob led)).objs.size, l] := by
        simp only [List.mem_cons, List.not_mem_nil, or_false, not_or, sz]
        exact ⟨Nat.ne_of_lt (Nat.lt_succ_self _), Nat.ne_of_gt lt⟩
      have h4 : B.in1.in1.in1.handled = none := by simp [hh]
      have W := (Walks.list (prog := pg) (w := wd) h4 (s.heap.push (ob led)).objs.size l nI its).toS
      rw [hn] at W
      refine setLoop W s.heap.objs.size nf hi hb xs [] _ rfl ⟨⟨_, Heap.get?_push_size _ rfl, rfl, rfl⟩, lL.push _⟩ ?_ fun s' hm hS' => ?_
      · exact SetOf_congr ((setObjOf_fresh (knd := PySem.strKind pg wd) led).setOf (Heap.get?_push_of_some _ gS) (by unfold scanBound; omega)) (fun _ => rfl) rfl
      · obtain ⟨h', g', d', tk', os'⟩ := s'
        obtain ⟨rfl, rfl, rfl⟩ : g' = s.gens ∧ d' = s.drawn ∧ os' = s.os := ⟨hm.gens, hm.drawn, hm.os⟩
        refine wpAny_pure (show wpAny _ _ (ret Value.none) _ _ _ from wpAny_pure ⟨rfl, h', tk', rfl, hS', fun b o hb e => ?_⟩)
        exact hm.heap b o (by simp only [List.mem_cons, List.not_mem_nil, or_false, not_or, sz]; exact ⟨Nat.ne_of_lt hb, Nat.ne_of_lt (Nat.lt_succ_of_lt hb)⟩) (Heap.get?_push_of_some _ (Heap.get?_push_of_some _ e))
    · match r2, hr2 with
      | .error e, hr2 => exact hr2
      | .ok (.ret r), ⟨e1, h', tk, e2, hS', hk'⟩ =>
        subst e1 e2
        repeat (any_goals (first | assumption | wp_step))
        exact h _ _ hS' hk'
end
/-- len(set(a list of texts)) -/
def tLenSetT (K : PySem.W.Frag) (ta : TE) : TE := fun σ H Q => ta σ H fun x H1 => ∃ (l : Addr) (xs : List Str), x = V.ref l ∧ SqL K H1 l (xs.map V.str) ∧ xs.length ≤ 4000 ∧ Q (.int (mtS xs).length) H1
section
variable {X : Cx} {a : Expr} {ta : TE} {p p2 q pos : Pos}
theorem pe_lenSetT (hg : Gl X "len") (hm : X.mg "len" = none) (hg2 : Gl X "set") (hm2 : X.mg "set" = none) (ha : PE X a ta) (hc : X.calm = true := by rfl)
    (na : starEach [a] X.env = (false, eval a X.env) :: starEach [] X.env := by rfl) : PE X (.Call (.Name "len" p) [.Call (.Name "set" p2) [a] [] q] [] pos) (tLenSetT X.K ta) := .mk fun pins s σ H Q I h => by
  refine Call_ (ld_blt I hg hm PySem.boot_len (callWith_builtin1 (args_cons ?_ rfl) rfl rfl))
  refine Call_ (ld_blt I hg2 hm2 PyProof.Rows.boot_set (callWith_type1 (args_cons ?_ na) na rfl))
  refine thn (ha.run pins s σ H _ I h) fun v s1 hv => args_nil ?_
  obtain ⟨x, H1, J, r1, l, xs, rfl, hq, hl, q1⟩ := hv
  cases r1
  obtain ⟨its, r, pl, hz⟩ := J.list hq
  have el : its.length = xs.length := by rw [← r.length, List.length_map]
  have hs : its.toArray.size = xs.length := by rw [List.size_toArray, el]
  have at_ : ∀ (i : Nat) (v : Value), its.toArray[i]? = some v → ∃ t x, xs[i]? = some x ∧ v = Value.str x t := fun i v hv => by
    have hv2 : its[i]? = some v := by simpa using hv
    have hi : i < xs.length := by
      have := (List.getElem?_eq_some_iff.mp hv2).1
      omega
    obtain ⟨u, hu, ru⟩ := r.get (i := i) (x := V.str xs[i]) (by rw [List.getElem?_map, List.getElem?_eq_getElem hi]; rfl)
    rw [hv2] at hu
    cases hu
    obtain ⟨t, rfl⟩ := ru
    exact ⟨t, xs[i], List.getElem?_eq_getElem hi, rfl⟩
  refine call_setS (J.ok.hd hc) pl.isList at_ hs (by unfold scanBound; omega) fun h' tk hS hk => args_nil ?_
  obtain ⟨o, es, ep, t, ho, hex, hd, _, _, _, hf, hn⟩ := hS
  have J2 : Inv X pins σ H1 { s1 with heap := h', toks := tk } := J.kept fun b o e => hk b o (Heap.lt_size e) e
  have le := mtS_le xs
  refine call_len_set ho hex hd hf (by rw [hn]; omega) ⟨.int (mtS xs).length, H1, J2.tok _, ⟨_, by rw [hn]⟩, q1⟩
end
section
variable {C : Cn} {xc : XC C} {K : PySem.W.Frag} {t : TE} {k : KE} {lo hi : TO} {kl kh : KO}
def kLenSetT (ke : KE) : KE := fun γ q => ke γ fun γ1 => (datN γ1.sl 1 γ1.tm).elim False fun x => match x.1 with
  | [.list es] => (strsOf es).elim False fun xs => xs.length ≤ 4000 ∧ q ⟨γ1.sl, .fz (.int (mtS xs).length) :: x.2, γ1.n⟩
  | _ => False
theorem so_lenSetT (h : SoE xc t k) : SoE xc (tLenSetT K t) (kLenSetT k) := fun γ Θ σ H Q q R hk w => h γ Θ σ H _ _ R hk fun γ1 v H1 hk1 R1 => by
  obtain ⟨⟨ds0, rr⟩, e, hf⟩ := elimF hk1
  obtain ⟨R3, T, rp, _⟩ := Rel.pops (vs := [v]) (Θ := Θ) (by simpa using R1) rfl e
  dsimp only at hf
  split at hf
  · rename_i ds
    obtain ⟨ys, ey, hl, hq⟩ := elimF hf
    obtain rfl := strsOf_eq ey
    cases rp with
    | cons r1 r2 =>
      cases r2
      cases r1 with
      | @lst p vs S _ hp rs =>
        rw [rs.strsInv] at hp
        exact ⟨p, ys, rfl, SqL.of hp, hl, w _ _ H1 hq (R3.push fun Z => .int _)⟩
  · exact hf.elim
/-- x[lo:hi] of a text -/
def kSlS (ka : KE) (lo hi : KO) : KE := fun γ q => ka γ fun γ1 => lo γ1 fun a γ2 => hi γ2 fun b γ3 => match γ3.tm with
  | .fz (.str z) :: tm => z.length ≤ 10000000 ∧ q ⟨γ3.sl, .fz (.str (cutS z a b)) :: tm, γ3.n⟩
  | _ => False
theorem so_slS (h : SoE xc t k) (hl : SoO xc lo kl) (hh : SoO xc hi kh) : SoE xc (tSl rSlS t lo hi) (kSlS k kl kh) := fun γ Θ σ H Q q R hk w => h γ Θ σ H _ _ R hk fun γ1 v H1 hk1 R1 => hl γ1 _ σ H1 _ _ R1 hk1 fun a γ2 H2 hk2 R2 => hh γ2 _ σ H2 _ _ R2 hk2 fun b γ3 H3 hk3 R3 => by
  obtain ⟨sl, tm, n⟩ := γ3
  dsimp only at hk3
  split at hk3
  · rename_i z tm
    obtain ⟨T, r, _⟩ := R3.read (d := .str z) rfl
    cases r
    exact ⟨z, rfl, szle hk3.1, w _ _ _ hk3.2 ((R3.pop).push fun Z => .str _)⟩
  · exact hk3.elim
/-- the signs of a slice -/
theorem cutS_to {z : Str} {i : Nat} : (cutS z none (some (i : Int))).cps.toList = z.cps.toList.take i := by
  have hl : z.cps.toList.length = z.length := by simp [Str.length]
  show ((z.cps.toList.drop (HT.sIx z.length 0 none)).take (HT.sIx z.length z.length (some (i : Int)) - HT.sIx z.length 0 none)).toArray.toList = _
  rw [HT.sIx_nat, show HT.sIx z.length 0 none = 0 from rfl, List.drop_zero, Nat.sub_zero]
  show (z.cps.toList.take (min i z.length)) = _
  rcases Nat.le_total i z.length with h | h
  · rw [Nat.min_eq_left h]
  · rw [Nat.min_eq_right h, List.take_of_length_le (by omega), List.take_of_length_le (by omega)]
theorem cutS_from {z : Str} {i : Nat} : (cutS z (some (i : Int)) none).cps.toList = z.cps.toList.drop i := by
  have hl : z.cps.toList.length = z.length := by simp [Str.length]
  show ((z.cps.toList.drop (HT.sIx z.length 0 (some (i : Int)))).take (HT.sIx z.length z.length none - HT.sIx z.length 0 (some (i : Int)))).toArray.toList = _
  rw [HT.sIx_nat, show HT.sIx z.length z.length none = z.length from rfl]
  show ((z.cps.toList.drop (min i z.length)).take (z.length - min i z.length)) = _
  rcases Nat.le_total i z.length with h | h
  · rw [Nat.min_eq_left h, List.take_of_length_le (by rw [List.length_drop]; omega)]
  · rw [Nat.min_eq_right h, List.drop_eq_nil_of_le (by omega), List.drop_eq_nil_of_le (by omega), List.take_nil]
end
end G
namespace G
open PySem PySem.Spec PyProof.Rows L2
variable {C : Cn} {xc : XC C}
theorem own_noal {d : D} : ∀ (i : Nat) (π : List Nat), own d ≠ .al i π := fun i π => by
  unfold own
  split <;> exact fun z => nomatch z
/-- f(o, [0]) of the def that spoils what it is given: what is left of it -/
def kSpoilK (m o : Nat) : KS := fun γ e => match γ.sl[o]? with
  | some (.ow true d) => (noAl o γ.tm = true ∧ d.depth < m ∧ wd d ≤ 10000000) ∧ e.nx ⟨γ.sl.set o (own (spD d 0).1), γ.tm, γ.n⟩
  | _ => False
theorem so_spoilK {m o : Nat} : SoS xc (tDrop (tCall (spSpoil m) [] E0 (tCons (tVar o) (tCons (tLst (tCons (tC (.int 0)) tNil)) tNil)))) (kSpoilK m o) := fun γ Θ σ H De e R hk w => by
  obtain ⟨sl, tm, n⟩ := γ
  unfold kSpoilK at hk
  dsimp only at hk
  split at hk
  · rename_i d eh
    obtain ⟨⟨na, dp, sz⟩, hq⟩ := hk
    obtain ⟨v, ev, R1⟩ := R.mov eh na
    obtain ⟨S, rp, nd, kk⟩ := R1.eat
    have dom := Rep.dom _ _ _ rp
    refine ⟨v, ev, szle (by simp), fun l hl => ?_⟩
    have up : Same H (upd H l (.lst [.int 0])) := same_upd hl
    refine ⟨v, l, d, 0, S, rfl, Rep.mono (fun t vs e => up _ _ e) _ _ _ rp (fun a m o e => up a o e), nd, fun m => ?_, upd_same, dp, sz, fun H2 fr r2 _ => ?_⟩
    · obtain ⟨xs, e⟩ := dom l m
      rw [hl] at e
      cases e
    · have k3 := kk (fun a => if a ∈ S then none else H2 a) fun a o e m => by
        rw [if_neg m]
        exact fr a o (up a o e) m (ne_of_none e hl)
      have R4 := k3.newR (H' := H2) (fun a o e => by
        have e : (if a ∈ S then none else H2 a) = some o := e
        by_cases m : a ∈ S
        · rw [if_pos m] at e
          cases e
        · rw [if_neg m] at e
          exact e) ⟨S, r2, nd, fun a m => if_pos m⟩
      have R5 := R4.set (i := o) own_noal na
      have eσ : σ.set o (some v) = σ := by
        refine List.ext_getElem? fun j => ?_
        by_cases hj : o = j
        · subst hj
          rw [List.getElem?_set_self (List.getElem?_eq_some_iff.mp ev).1, ev]
        · rw [List.getElem?_set_ne hj]
      rw [eσ, List.set_set] at R5
      exact w.nx _ _ _ hq R5
  · exact hk.elim
end G
namespace G
open PySem PySem.Spec PyProof.Rows L2
variable {C : Cn} {xc : XC C}
theorem Trs.firstsT {H : Hp} {Z : Reg} : ∀ {ps : List (D × List D)} {S : List Addr} {vs : List V}, Trs H Z S vs (ps.map fun p => .tuple (p.1 :: p.2)) → (∀ p ∈ ps, G.nolist p.1 = true) →
    ∃ us, us.length = ps.length ∧ Reps H [] us (ps.map (·.1)) ∧ ∀ (k : Nat) (x : V), vs[k]? = some x → ∃ b u ws, x = V.ref b ∧ H b = some (.tup (u :: ws)) ∧ us[k]? = some u
  | [], _, _, h, _ => by
    cases h
    exact ⟨[], rfl, .nil, fun k x e => by simp at e⟩
  | p :: ps, _, _, h, nl => by
    cases h with
    | cons h1 h2 =>
      obtain ⟨us, el, r, it⟩ := Trs.firstsT h2 fun q m => nl q (List.mem_cons_of_mem _ m)
      cases h1 with
      | tup e ts =>
        cases ts with
        | @cons _ _ u ws _ _ t1 t2 =>
          have t0 := (Tr.nolist (Z' := noReg) _ _ _ t1 (nl p List.mem_cons_self)).2
          refine ⟨u :: us, by simp [el], .cons (S := []) (Tr.repO _ _ _ t0) r, fun k x ex => ?_⟩
          cases k with
          | zero =>
            simp at ex
            subst ex
            exact ⟨_, u, ws, rfl, e, rfl⟩
          | succ k => exact it k x (by simpa using ex)
theorem Tr.listAt {H : Hp} {Z : Reg} {S : List Addr} {v : V} {ds : List D} (h : Tr H Z S v (.list ds)) : ∃ a vs T, v = .ref a ∧ H a = some (.lst vs) ∧ Trs H Z T vs ds := by
  cases h with
  | lst e t => exact ⟨_, _, _, rfl, e, t⟩
  | lstZ _ e t => exact ⟨_, _, _, rfl, e, t⟩
/-- [r[0] for r in h] -/
def kFirsts (h r : Nat) : KE := fun γ q => match γ.sl[h]? with
  | some (.ow _ (.list ds)) => r < γ.sl.length ∧ ∃ ps : List (D × List D), ds = ps.map (fun p => PyData.tuple (p.1 :: p.2)) ∧ (∀ p ∈ ps, nolist p.1 = true) ∧ ps.length < 10000000 ∧ q ⟨γ.sl, .ow true (.list (ps.map (·.1))) :: γ.tm, γ.n⟩
  | _ => False
theorem so_firsts {K : PySem.W.Frag} {h r : Nat} : SoE xc (tLc (iList K (tVar h)) (gName r) tYes (tOp (rIxT K) (tVar r) (tC (.int 0))) [r]) (kFirsts h r) := fun γ Θ σ H Q q R hk w => by
  obtain ⟨sl, tm, n⟩ := γ
  unfold kFirsts at hk
  dsimp only at hk
  split at hk
  · rename_i b ds eh
    obtain ⟨lr, ps, rfl, nl, lps, hq⟩ := hk
    have lσ : σ.length = sl.length := by
      obtain ⟨Z, S1, S2, X⟩ := id R
      exact X.es.length
    obtain ⟨Z, S1, S2, X⟩ := id R
    obtain ⟨v, T, ev, t, _⟩ := X.slot eh rfl
    obtain ⟨a, vs, T', rfl, ha, ts⟩ := t.listAt
    have len := ts.length
    rw [List.length_map] at len
    obtain ⟨us, el, rT, it⟩ := ts.firstsT nl
    refine ⟨.ref a, ev, a, rfl, ⟨vs, SqL.of ha⟩, fun Dl hD => ?_⟩
    have up : ∀ {H' : Hp} {o' : HO}, Same H H' → Same H (upd H' Dl o') := fun sm b o e => by
      rw [upd_ne (show b ≠ Dl from fun z => by rw [z, hD] at e; cases e)]
      exact sm _ _ e
    refine lc_list (xs := vs) (fun k H' => Same H H' ∧ H' Dl = some (.lst (us.take k))) ⟨up (Same.refl _), by rw [List.take_zero]; exact upd_same⟩ (fun k H' _ p => SqL.of (p.1 _ _ ha)) (fun k x H' hx p => ?_) (fun H' p => ?_)
    · obtain ⟨sm, hD'⟩ := p
      obtain ⟨b, u, ws, rfl, hb, hu⟩ := it k x hx
      refine ⟨by show ((σ.set r none).set r _).set r none = σ.set r none; rw [List.set_set, List.set_set], ?_⟩
      unfold tYes
      dsimp only
      rw [if_pos rfl]
      refine ⟨.ref b, by rw [List.getElem?_set_self (by show r < (σ.set r none).length; rw [List.length_set]; omega)], b, u :: ws, 0, u, rfl, rfl, SqT.of (sm _ _ hb), atI_nat (j := 0) rfl, us.take k, hD', szlt ?_, up sm, ?_⟩
      · rw [List.length_take]
        omega
      · rw [List.take_add_one, hu]
        exact upd_same
    · obtain ⟨sm, hD'⟩ := p
      rw [len, ← el, List.take_length] at hD'
      have R2 := R.newR (d := .list (ps.map (·.1))) sm ⟨[Dl], .lst hD' (Reps.mono (fun t xs e => sm _ _ e) _ _ _ rT fun b m => (nomatch m)), by simp, fun b m => by rw [List.mem_singleton.mp m]; exact hD⟩
      exact w _ _ _ hq R2
  · exact hk.elim
/-- [r[0] for r in h[:s]] -/
def kFirstsTo (h s r : Nat) : KE := fun γ q => match γ.sl[h]?, γ.sl[s]? with
  | some (.ow _ (.list ds)), some (.fz (.int i)) => r < γ.sl.length ∧ ∃ ps : List (D × List D), ds = ps.map (fun p => PyData.tuple (p.1 :: p.2)) ∧ (∀ p ∈ ps, nolist p.1 = true) ∧ ps.length < 10000000 ∧ q ⟨γ.sl, .ow true (.list (cutD (ps.map (·.1)) none (some i))) :: γ.tm, γ.n⟩
  | _, _ => False
theorem cutV_get {α β : Type} {vs : List α} {us : List β} {lo hi : Option Int} (e : vs.length = us.length) {Pq : α → β → Prop} (h : ∀ (k : Nat) (x : α), vs[k]? = some x → ∃ u : β, us[k]? = some u ∧ Pq x u) : ∀ (k : Nat) (x : α), ((vs.drop (HT.sIx vs.length 0 lo)).take (HT.sIx vs.length vs.length hi - HT.sIx vs.length 0 lo))[k]? = some x → ∃ u : β, ((us.drop (HT.sIx us.length 0 lo)).take (HT.sIx us.length us.length hi - HT.sIx us.length 0 lo))[k]? = some u ∧ Pq x u := fun k x hx => by
  rw [← e]
  rw [List.getElem?_take] at hx ⊢
  split at hx
  · rename_i hk
    rw [if_pos hk]
    rw [List.getElem?_drop] at hx ⊢
    exact h _ _ hx
  · cases hx
theorem Reps.inv0 {H : Hp} {S : List Addr} {u : V} {us : List V} {ds : List D} (r : Reps H S (u :: us) ds) (e : S = []) : ∃ d es, ds = d :: es ∧ Rep H [] u d ∧ Reps H [] us es := by
  cases r with
  | cons r1 r2 =>
    obtain ⟨rfl, rfl⟩ := List.append_eq_nil_iff.mp e
    exact ⟨_, _, rfl, r1, r2⟩
theorem Reps.invN {H : Hp} {S : List Addr} {ds : List D} (r : Reps H S [] ds) : ds = [] := by
  cases r
  rfl
theorem Reps.cut0 {H : Hp} : ∀ {us : List V} {ds : List D}, Reps H [] us ds → ∀ a b, Reps H [] ((us.drop a).take b) ((ds.drop a).take b) := fun {us ds} r a b => by
  have hd : ∀ {us : List V} {ds : List D} {n : Nat}, Reps H [] us ds → Reps H [] (us.drop n) (ds.drop n) := fun {us} => by
    induction us with
    | nil =>
      intro ds n r
      obtain rfl := r.invN
      simp
      exact .nil
    | cons u us ih =>
      intro ds n r
      obtain ⟨d, es, rfl, r1, r2⟩ := r.inv0 rfl
      cases n with
      | zero => exact .cons (S := []) r1 r2
      | succ n => exact ih r2
  have ht : ∀ {us : List V} {ds : List D} {n : Nat}, Reps H [] us ds → Reps H [] (us.take n) (ds.take n) := fun {us} => by
    induction us with
    | nil =>
      intro ds n r
      obtain rfl := r.invN
      simp
      exact .nil
    | cons u us ih =>
      intro ds n r
      obtain ⟨d, es, rfl, r1, r2⟩ := r.inv0 rfl
      cases n with
      | zero => exact .nil
      | succ n => exact .cons (S := []) r1 (ih r2)
  exact ht (hd r)
theorem so_firstsTo {K : PySem.W.Frag} {h s r : Nat} : SoE xc (tLc (iList K (tSl (rSlL K) (tVar h) tNoPart (tPart (tVar s)))) (gName r) tYes (tOp (rIxT K) (tVar r) (tC (.int 0))) [r]) (kFirstsTo h s r) := fun γ Θ σ H Q q R hk w => by
  obtain ⟨sl, tm, n⟩ := γ
  unfold kFirstsTo at hk
  dsimp only at hk
  split at hk
  · rename_i b ds i eh es
    obtain ⟨lr, ps, rfl, nl, lps, hq⟩ := hk
    have lσ : σ.length = sl.length := by
      obtain ⟨Z, S1, S2, X⟩ := id R
      exact X.es.length
    obtain ⟨Z, S1, S2, X⟩ := id R
    obtain ⟨v, T, ev, t, _⟩ := X.slot eh rfl
    obtain ⟨v2, T2, ev2, t2, _⟩ := X.slot es rfl
    cases t2
    obtain ⟨a, vs, T', rfl, ha, ts⟩ := t.listAt
    have len := ts.length
    rw [List.length_map] at len
    obtain ⟨us, el, rT, it⟩ := ts.firstsT nl
    have it2 := cutV_get (lo := none) (hi := some i) (show vs.length = us.length by omega) (Pq := fun x u => ∃ b ws, x = .ref b ∧ H b = some (.tup (u :: ws))) fun k x e => by
      obtain ⟨b, u, ws, h1, h2, h3⟩ := it k x e
      exact ⟨u, h3, b, ws, h1, h2⟩
    have rc := rT.cut0 (HT.sIx us.length 0 none) (HT.sIx us.length us.length (some i) - HT.sIx us.length 0 none)
    obtain ⟨cu, hcu⟩ : ∃ c, (us.drop (HT.sIx us.length 0 none)).take (HT.sIx us.length us.length (some i) - HT.sIx us.length 0 none) = c := ⟨_, rfl⟩
    rw [hcu] at it2 rc
    have el2 : (ps.map (·.1)).length = us.length := by rw [List.length_map, el]
    rw [show ((ps.map (·.1)).drop (HT.sIx us.length 0 none)).take (HT.sIx us.length us.length (some i) - HT.sIx us.length 0 none) = cutD (ps.map (·.1)) none (some i) by unfold cutD; rw [el2]] at rc
    obtain ⟨cv, hcv⟩ : ∃ c, (vs.drop (HT.sIx vs.length 0 none)).take (HT.sIx vs.length vs.length (some i) - HT.sIx vs.length 0 none) = c := ⟨_, rfl⟩
    rw [hcv] at it2
    have lcv : cv.length = cu.length := by
      rw [← hcv, ← hcu, List.length_take, List.length_take, List.length_drop, List.length_drop, show vs.length = us.length by omega]
    have lcu : cu.length ≤ us.length := by
      rw [← hcu, List.length_take, List.length_drop]
      omega
    refine ⟨.ref a, ev, .int i, ev2, i, rfl, a, vs, rfl, SqL.of ha, fun p hp => ⟨p, rfl, ⟨cv, SqL.of (by rw [upd_same]; unfold cutV; rw [← hcv])⟩, fun Dl hD0 => ?_⟩⟩
    have hD : H Dl = none := by
      by_cases z : Dl = p
      · rw [z]; exact hp
      · rw [upd_ne z] at hD0
        exact hD0
    have hDp : Dl ≠ p := fun z => by rw [z, upd_same] at hD0; cases hD0
    have up : ∀ {H' : Hp} {o' : HO}, Same H H' → Same H (upd H' Dl o') := fun sm b o e => by
      rw [upd_ne (show b ≠ Dl from fun z => by rw [z, hD] at e; cases e)]
      exact sm _ _ e
    have ecv : cutV vs none (some i) = cv := by unfold cutV; rw [← hcv]
    refine lc_list (xs := cv) (fun k H' => Same H H' ∧ H' p = some (.lst cv) ∧ H' Dl = some (.lst (cu.take k))) ⟨up (same_upd hp), by rw [upd_ne (Ne.symm hDp), upd_same, ecv], by rw [List.take_zero]; exact upd_same⟩ (fun k H' _ p => SqL.of p.2.1) (fun k x H' hx p => ?_) (fun H' p => ?_)
    · obtain ⟨sm, hp', hD'⟩ := p
      obtain ⟨u, hu, b, ws, rfl, hb⟩ := it2 k x hx
      refine ⟨by show ((σ.set r none).set r _).set r none = σ.set r none; rw [List.set_set, List.set_set], ?_⟩
      unfold tYes
      dsimp only
      rw [if_pos rfl]
      refine ⟨.ref b, by rw [List.getElem?_set_self (by show r < (σ.set r none).length; rw [List.length_set]; omega)], b, u :: ws, 0, u, rfl, rfl, SqT.of (sm _ _ hb), atI_nat (j := 0) rfl, cu.take k, hD', szlt ?_, up sm, ?_, ?_⟩
      · rw [List.length_take]
        omega
      · rw [upd_ne (Ne.symm hDp)]
        exact hp'
      · rw [List.take_add_one, hu]
        exact upd_same
    · obtain ⟨sm, _, hD'⟩ := p
      rw [lcv, List.take_length] at hD'
      have R2 := R.newR (d := .list (cutD (ps.map (·.1)) none (some i))) sm ⟨[Dl], .lst hD' (Reps.mono (fun t xs e => sm _ _ e) _ _ _ rc fun b m => (nomatch m)), by simp, fun b m => by rw [List.mem_singleton.mp m]; exact hD⟩
      exact w _ _ _ hq R2
  · exact hk.elim
end G
namespace G
open PySem PySem.Spec PyProof.Rows L2
variable {C : Cn} {xc : XC C}
theorem Trs.splitAt {H : Hp} {Z : Reg} : ∀ {ds : List D} {S : List Addr} {vs : List V}, Trs H Z S vs ds → ∀ n, ∃ S1 S2, S = S1 ++ S2 ∧ Trs H Z S1 (vs.take n) (ds.take n) ∧ Trs H Z S2 (vs.drop n) (ds.drop n)
  | [], S, vs, h, n => by
    cases h
    exact ⟨[], [], rfl, by simpa using Trs.nil, by simpa using Trs.nil⟩
  | d :: ds, S, vs, h, 0 => ⟨[], S, rfl, .nil, h⟩
  | d :: ds, S, vs, h, n + 1 => by
    cases h with
    | cons h1 h2 =>
      obtain ⟨S1, S2, e, a, b⟩ := Trs.splitAt h2 n
      subst e
      exact ⟨_, S2, (List.append_assoc _ _ _).symm, .cons h1 a, b⟩
section
variable {t ta tb : TE} {ko ka kb : KE}
def kInsD (ko ki ke : KE) : KE := fun γ q => ko γ fun γ1 => isLst γ1 ∧ ki γ1 fun γ2 => ke γ2 fun γ3 => match γ3.tm with
  | s :: .fz (.int k) :: .al i π :: tm => (con s).elim False fun c => noAl i tm = true ∧ wrL γ3.sl i π fun b d es => (((b && c.1) = true ∨ π = []) ∧ ioOk γ3.sl i (b && c.1)) ∧ (es.length < 10000000 ∧ 0 ≤ k ∧ k < 10000000) ∧ q ⟨putS γ3.sl i (b && c.1) (setP d π (.list (es.take k.toNat ++ [c.2] ++ es.drop k.toNat))), .fz .none :: tm, γ3.n⟩
  | _ => False
theorem so_insD {K : PySem.W.Frag} (ho : SoE xc t ko) (hi : SoE xc ta ka) (he : SoE xc tb kb) : SoE xc (tBM K "list" rIns t (tCons ta (tCons tb tNil))) (kInsD ko ka kb) := fun γ Θ σ H Q q R hk w => ho γ Θ σ H _ _ R hk fun γ1 v H1 hk1 R1 =>
  ⟨tyV_of R1 hk1.1, hi γ1 _ σ H1 _ _ R1 hk1.2 fun γ2 u1 H2 hk2 R2 => he γ2 _ σ H2 _ _ R2 hk2 fun γ3 u2 H3 hk3 R3 => by
    obtain ⟨sl, tm, j⟩ := γ3
    dsimp only at hk3
    split at hk3
    · rename_i s k i π tm
      obtain ⟨⟨cb, cd⟩, ec, na, hw⟩ := elimF hk3
      obtain ⟨s0, b, d, es, e1, hs, eds, e2, ⟨hb, hio⟩, ⟨hl, k0, k1⟩, hq⟩ := wrL_inv hw
      rw [putS_eq e1] at hq
      obtain ⟨hb1, hb2⟩ := okB hb
      obtain ⟨Z, S1, S2, X⟩ := R3
      obtain ⟨w0, ew, wk⟩ := X.walk (j := 2) rfl rfl
      obtain ⟨A, B, en, X1, f⟩ := RelX.popF (ss := [s, .fz (.int k), .al i π]) (us := [u2, u1, v]) X rfl
      obtain ⟨A', en', rfl, rfl⟩ : ∃ A', Ent C Z H3 A' (some u2) s ∧ A = A' ∧ u1 = .int k := by
        cases en with
        | cons e1 e2 =>
          cases e2 with
          | cons e2 e3 =>
            cases e3 with
            | cons e3 e4 =>
              cases e4
              cases e3
              cases e2 with
              | fz t2 =>
                cases t2
                exact ⟨_, e1, by simp, rfl⟩
      obtain ⟨a, vs, T, rfl, ha, ts, aA, aZ, aT, put⟩ := X1.putF f e1 hs na ew wk e2 hb1
      have el := ts.length
      have ti := en'.con ec
      obtain ⟨T1, T2, rfl, ts1, ts2⟩ := ts.splitAt k.toNat
      have wk1 : (b && cb) = true → b = true := fun z => by
        rw [Bool.and_eq_true] at z
        exact z.1
      have t1 : Trs (upd H3 a (.lst (vs.take k.toNat ++ [u2] ++ vs.drop k.toNat))) (rgn (b && cb) Z) ((T1 ++ (A ++ [])) ++ T2) (vs.take k.toNat ++ [u2] ++ vs.drop k.toNat) (es.take k.toNat ++ [cd] ++ es.drop k.toNat) := by
        refine (((ts1.upd ha aZ fun x m => aT x (List.mem_append_left _ m)).weak (rgn_mono fun z => ?_)).append (.cons ((ti.upd ha aZ fun x m z => aA (z ▸ m)).weak (rgn_mono fun z => ?_)) .nil)).append ((ts2.upd ha aZ fun x m => aT x (List.mem_append_right _ m)).weak (rgn_mono fun z => ?_))
        · exact wk1 z
        · rw [Bool.and_eq_true] at z; exact z.2
        · exact wk1 z
      obtain ⟨S1', X2, _⟩ := put (vs.take k.toNat ++ [u2] ++ vs.drop k.toNat) (es.take k.toNat ++ [cd] ++ es.drop k.toNat) (b && cb) _ [] hb2 (ioOk_at hio e1) t1 (by
        rw [List.append_nil, List.append_nil, List.append_assoc, List.append_assoc]
        exact List.Perm.append_left T1 List.perm_append_comm)
      have R4 : Rel C ⟨_, tm, j⟩ Θ σ (upd H3 a (.lst (vs.take k.toNat ++ [u2] ++ vs.drop k.toNat))) := ⟨_, _, _, X2⟩
      exact ⟨a, vs, k, u2, rfl, rfl, ha, szlt (by omega), k0, by omega, w _ _ _ hq (R4.push fun Z => .non)⟩
    · exact hk3.elim⟩
end
end G
namespace G
open PySem PySem.Spec PyProof.Rows L2
end G
local macro_rules | `(tactic| walk_at "mem") => `(tactic| (repeat (first | exact List.Mem.head _ | apply List.Mem.tail)))
local macro_rules | `(tactic| walk_at "pick") => `(tactic| (repeat (first | exact G.Pick.hd | apply G.Pick.tl)))
local macro_rules | `(tactic| walk_at "lit") => `(tactic| (repeat (first | exact G.lit_int | exact G.litA_nil | exact G.lit_bool | exact G.lit_none | exact G.lit_str | refine G.lit_tup ?_ | refine G.lit_lst ?_ | refine G.litA_cons ?_ ?_)))
local macro_rules | `(tactic| walk_at "up") => `(tactic| (repeat (first | assumption | exact G.Rdb.int _ | apply G.Rdb.upO | apply G.Rdb.upT | apply G.Rdb.upF)))
local macro_rules | `(tactic| walk_at "memu") => `(tactic| (repeat (first | exact List.Mem.head _ | assumption | apply List.Mem.tail)))
local macro_rules | `(tactic| walk_at "picku") => `(tactic| (repeat (first | exact G.Pick.hd | assumption | apply G.Pick.tl)))
local macro_rules | `(tactic| walk_at "ev") => `(tactic| try simp (config := { maxSteps := 2000000 }) only [G.kInsD, G.kFirsts, G.kFirstsTo, G.kSpoilK, G.kIs, G.kJoin, G.strsOf_map, G.kLenSetT, G.kSlS, G.vCatS, G.kDGetE, G.isC_obj, G.isObj_obj, G.own_obj, G.cntF_obj, G.fld_kept, G.put_kept, G.put_kept2, G.nof_book_names, G.nof_book_words, G.nof_book_effects_held, G.nof_book_effect, G.nof_book_with_word, G.nof_book_without, G.vLenS, G.ty_str_tuple, G.ty_str_list, G.ty_tuple_str, G.ty_tuple_list, G.ty_list_str, G.ty_list_tuple, G.ty_int_str, G.ty_int_tuple, G.ty_int_list, G.ty_bool_str, G.ty_bool_tuple, G.ty_bool_list, G.ty_NoneType_str, G.ty_NoneType_tuple, G.ty_NoneType_list, G.ty_dict_str, G.ty_dict_tuple, G.ty_dict_list, G.kRev, G.kExt, G.kItS, G.vInS, G.kDc, G.dcL, G.kLenO, G.kEqO, G.kIsC, G.kMethS, G.kMethK, G.kMakeK, G.kFld, G.kMeth, G.kProp, G.kMake, G.kFldPut, G.isOb, G.notOw, G.boxM_dictD, G.datS_dc, G.look_dc, G.tyN, G.isObj, G.kC, G.kCallS, G.kCallSK, G.kCallPS, G.fzA, G.fzD, G.v4I, G.kSortD, G.kIxF, G.kRepM, G.kgSubN, G.kCallE, G.kEz, G.kIns, G.kClear, G.kReverse, G.kCallX, G.kCallXK, G.kRaise, G.kTry, G.hdX, G.hdE, G.kXval, G.kFz, G.kCallW, G.kCallIA, G.kgUnl, G.itL, G.kThr, G.datS_sh, G.chg_sh, G.chg_tup, G.chg_lst, G.kSink, G.kLenD, G.kLenSet, G.kRepN, G.kCallTM, G.kDivmod, G.kMaxDef, G.kReprL, G.kLc2, G.vInD, G.vIdxD, G.kTupOf, G.kTupV, G.kIxTake, G.kgFill, G.kListMv, G.kDNew, G.kDNewT, G.topK, G.kDGet, G.kDIn, G.kDPut, G.dgS, G.dpS, G.dlS, G.isDc, G.keyD, G.keysD, G.valM_nil, Option.map_some, Option.isSome_none, Option.isSome_some, G.okS_dc, G.okS_dt, G.noAl_dc, G.noAl_dt, G.kVar, G.kFrz, G.kMov, G.kNil, G.kCons, G.kOp, G.vI, G.vB, G.noC, G.vEq, G.vIn, G.vIsN, G.vEqD, G.kChain, G.kUn, G.vNeg, G.kF, G.vLen, G.v2I, G.v1I, G.v3I, G.vInt, G.vAll, G.vSum, G.vSumT, G.vMaxL, G.vRepr, G.kTest, G.kTAnd, G.kTOr, G.kTNot, G.kYes, G.popB, G.pushB, G.kAndV, G.kOrV, G.kNotV, G.kIf, G.popC, G.kMk, G.look_mkL, G.okS_mkL, G.mkS_lt, G.mkS_lf, G.mkS_tt, G.mkS_tf, G.own_int, G.own_bool, G.own_str, G.own_none, G.own_list, G.own_tup, G.con_own, G.okS_own, G.look_own, G.dq, G.kIx, G.seqD, G.subS_fz, G.subS_ow, G.subS_of, G.subS_al, G.kListOf, G.shr, G.kNo, G.popI, G.kPart, G.kSl, G.kSlT, G.kCat, G.kRg2, G.kRg1, G.kListRg, G.kCallT, G.kCallTK, G.kCallP, G.isLst, G.kM, G.vCnt, G.vIdx, G.kApp, G.wrL, G.atP, G.setP, G.kPop, G.kPopAt, G.popK, G.kgSub, G.frzSeq, G.kIt, G.kRng1, G.kRng2, G.kgName, G.okS_fz, G.okS_ow, G.okS_pu, G.okS_al, G.noAl_nil, G.noAl_fz, G.noAl_ow, G.noAl_pu, G.noAl_al, G.noAl_own, G.con_fz, G.con_ow, G.kgNil, G.kgCons, G.kgTup, G.itS, G.kAsg, G.kPar, G.kPar3, G.kAug, G.kDrop, G.kRet, G.kRetN, G.kNever, G.kNext, G.kBreak, G.kCont, G.kSeq, G.kIfS, G.kFor, G.kLc, G.kEnum, G.kZip, G.look_fz, G.look_ow, G.look_al, G.datS_fz, G.datS_ow, G.datS_own, G.datN, G.nolist, G.nolists, G.nolists_ints, G.kLit, G.kRngD, G.kCallI, G.kCallV, G.vBits, G.reS_io, G.reS_ow, G.putS_set, G.datS_io, G.ownF_ow, G.ownF_io, G.edI_rt, G.edI_nx, G.ioD_c, G.giv_ow, G.giv_fz, G.giv_own, G.ioOk, G.cutD_lastI, G.cutD_initI, G.inV_intsD, G.allflat_ints, Option.getD_some, G.edT_rt, G.edP_rt, G.edT_nx, G.edP_nx, G.rtN_fz, G.rtN_ow, G.rtN_own, G.ixD_0, G.ixD_1, G.ixD_2, G.intsOf_map, G.boolsOf_map, G.newL, G.nolists_app, G.flatD, G.vOf,
  List.map_cons, List.map_nil, List.cons_append, List.nil_append, List.append_nil, List.getElem?_cons_zero, List.getElem?_cons_succ, List.getElem?_nil, List.set_cons_zero, List.set_cons_succ, List.getD_cons_zero, List.getD_cons_succ, List.length_cons, List.length_nil, List.length_map, List.all_cons, List.all_nil, List.tail_cons, List.filterMap_cons_some, List.filterMap_nil, Option.elim, Option.bind_some, Option.bind_none, Option.orElse, Option.map_some, Bool.and_true, Bool.true_and, Bool.and_false, Bool.false_and, Bool.not_true, decide_true, Bool.not_false, Bool.false_xor, Bool.true_xor, if_true, if_false, true_and, and_true, true_or, or_true, eq_self, reduceIte, ite_true, ite_false, Bool.false_eq_true, Nat.zero_add, Nat.reduceAdd, implies_true, bne_self_eq_false])
namespace My
open PySem PySem.Spec PyProof.Rows L2 G
theorem bits_of {i : Int} {n : Nat} (h0 : 0 < n) (h : i.natAbs < 2 ^ n) : Builtin.Int.intBits i ≤ n := by
  have := PySem.Flt.log2_lt_of h0 h
  unfold Builtin.Int.intBits
  split <;> omega
/-- how many places are left, and how many things are needed, if straight places at the end are cut -/
def trim (gs : List Int) : Nat → Int → Nat × Int
  | 0, n => (0, n)
  | k + 1, n => if gs[k]? = some n ∧ (∀ x ∈ gs.take k, x < n) then trim gs k (n - 1) else (k + 1, n)
def leastE (n : Int) (gs : List Int) : Int × List Int := ((trim gs gs.length n).2, gs.take (trim gs gs.length n).1)
theorem trim_le (gs : List Int) : ∀ (k : Nat) (n : Int), (trim gs k n).1 ≤ k
  | 0, _ => Nat.le_refl _
  | k + 1, n => by
    unfold trim
    split
    · exact Nat.le_succ_of_le (trim_le gs k _)
    · exact Nat.le_refl _
/-- an effect, told in its least way or not -/
structure Eff (e : Int × List Int) : Prop where
  nn : 0 ≤ e.1
  ge : ∀ x ∈ e.2, 1 ≤ x
  le : ∀ x ∈ e.2, x ≤ e.1
/-- the greatest of a list and zero -/
def top (gs : List Int) : Int := gs.foldl (fun a x => max a x) 0
theorem top_app (gs : List Int) (x : Int) : top (gs ++ [x]) = max (top gs) x := by unfold top; simp [List.foldl_append]
theorem top_lt {gs : List Int} {n : Int} (h : 0 < n) : top gs < n ↔ ∀ x ∈ gs, x < n := by
  have aux : ∀ (l : List Int) (a : Int), l.foldl (fun a x => max a x) a < n ↔ a < n ∧ ∀ x ∈ l, x < n := by
    intro l
    induction l with
    | nil => intro a; simp
    | cons y l ih =>
      intro a
      rw [List.foldl_cons, ih]
      constructor
      · rintro ⟨h1, h2⟩
        refine ⟨by omega, fun x hx => ?_⟩
        rcases List.mem_cons.mp hx with rfl | hx
        · omega
        · exact h2 x hx
      · rintro ⟨h1, h2⟩
        have := h2 y List.mem_cons_self
        exact ⟨by omega, fun x hx => h2 x (List.mem_cons_of_mem _ hx)⟩
  unfold top
  rw [aux]
  exact ⟨fun z => z.2, fun z => ⟨h, z⟩⟩
/-- the tops of all beginnings -/
def tops (gs : List Int) : List Int := (List.range (gs.length + 1)).map fun k => top (gs.take k)
theorem tops_app (gs : List Int) (x : Int) : tops (gs ++ [x]) = tops gs ++ [max (top gs) x] := by
  unfold tops
  rw [List.length_append, List.length_singleton, List.range_succ, List.map_append]
  congr 1
  · refine List.map_congr_left fun k hk => ?_
    rw [List.mem_range] at hk
    rw [List.take_append_of_le_length (by omega)]
  · rw [List.map_singleton]
    have e : (gs ++ [x]).take (gs.length + 1) = gs ++ [x] := List.take_of_length_le (by simp)
    rw [e, top_app]
theorem tops_len (gs : List Int) : (tops gs).length = gs.length + 1 := by unfold tops; simp
theorem tops_at {gs : List Int} {k : Nat} (h : k ≤ gs.length) : (tops gs)[k]? = some (top (gs.take k)) := by
  unfold tops
  rw [List.getElem?_map, List.getElem?_range (by omega)]
  rfl
theorem trim_pre (gs es : List Int) : ∀ (k : Nat) (n : Int), k ≤ gs.length → trim (gs ++ es) k n = trim gs k n
  | 0, _, _ => rfl
  | k + 1, n, h => by
    unfold trim
    rw [List.getElem?_append_left (by omega), List.take_append_of_le_length (by omega), trim_pre gs es k (n - 1) (by omega)]
/-- what cutting leaves -/
theorem trim_end (gs : List Int) : ∀ (k : Nat) (n : Int), trim gs (trim gs k n).1 (trim gs k n).2 = trim gs k n
  | 0, _ => rfl
  | k + 1, n => by
    by_cases c : gs[k]? = some n ∧ ∀ x ∈ gs.take k, x < n
    · have e : trim gs (k + 1) n = trim gs k (n - 1) := by
        conv => lhs; unfold trim
        rw [if_pos c]
      rw [e]
      exact trim_end gs k (n - 1)
    · have e : trim gs (k + 1) n = (k + 1, n) := by
        conv => lhs; unfold trim
        rw [if_neg c]
      rw [e]
      exact e
theorem trim_take (gs : List Int) (j : Nat) : ∀ (k : Nat) (n : Int), k ≤ j → k ≤ gs.length → trim (gs.take j) k n = trim gs k n := fun k n h1 h2 => by
  have e : gs = gs.take j ++ gs.drop j := (List.take_append_drop j gs).symm
  conv => rhs; rw [e]
  exact (trim_pre _ _ k n (by rw [List.length_take]; omega)).symm
theorem leastE_idem (n : Int) (gs : List Int) : leastE (leastE n gs).1 (leastE n gs).2 = leastE n gs := by
  have h1 := trim_le gs gs.length n
  have e1 : ((leastE n gs).2).length = (trim gs gs.length n).1 := by
    show (gs.take _).length = _
    rw [List.length_take]
    omega
  have e2 : trim (leastE n gs).2 (leastE n gs).2.length (leastE n gs).1 = trim gs gs.length n := by
    rw [e1]
    show trim (gs.take _) _ (trim gs gs.length n).2 = _
    rw [trim_take gs _ _ _ (Nat.le_refl _) h1, trim_end]
  show ((trim (leastE n gs).2 (leastE n gs).2.length (leastE n gs).1).2, (leastE n gs).2.take (trim (leastE n gs).2 (leastE n gs).2.length (leastE n gs).1).1) = _
  rw [e2]
  show ((trim gs gs.length n).2, (gs.take (trim gs gs.length n).1).take (trim gs gs.length n).1) = _
  rw [List.take_take, Nat.min_self]
  rfl
theorem trim_eff (gs : List Int) (hg : ∀ x ∈ gs, 1 ≤ x) : ∀ (k : Nat) (n : Int), k ≤ gs.length → 0 ≤ n → (∀ x ∈ gs.take k, x ≤ n) → 0 ≤ (trim gs k n).2 ∧ (trim gs k n).2 ≤ n ∧ ∀ x ∈ gs.take (trim gs k n).1, x ≤ (trim gs k n).2
  | 0, n, _, h0, _ => ⟨h0, Int.le_refl _, by
    intro x hx
    change x ∈ gs.take 0 at hx
    simp at hx⟩
  | k + 1, n, hk, h0, hl => by
    by_cases c : gs[k]? = some n ∧ ∀ x ∈ gs.take k, x < n
    · have e : trim gs (k + 1) n = trim gs k (n - 1) := by
        conv => lhs; unfold trim
        rw [if_pos c]
      rw [e]
      have n1 := hg n (List.mem_of_getElem? c.1)
      obtain ⟨a, b, d⟩ := trim_eff gs hg k (n - 1) (by omega) (by omega) (fun x hx => by have := c.2 x hx; omega)
      exact ⟨a, by omega, d⟩
    · have e : trim gs (k + 1) n = (k + 1, n) := by
        conv => lhs; unfold trim
        rw [if_neg c]
      rw [e]
      exact ⟨h0, Int.le_refl _, hl⟩
/-- told in its least way -/
def Lst (e : Int × List Int) : Prop := leastE e.1 e.2 = e
structure LE (n : Int) (gs : List Int) (e : Int × List Int) : Prop where
  eff : Eff e
  lst : Lst e
  le : e.1 ≤ n
  len : e.2.length ≤ gs.length
theorem leastE_ok {n : Int} {gs : List Int} (h : Eff (n, gs)) : LE n gs (leastE n gs) := by
  obtain ⟨a, b, c⟩ := trim_eff gs h.ge gs.length n (Nat.le_refl _) h.nn (by rw [List.take_length]; exact h.le)
  refine ⟨⟨a, fun x hx => h.ge x (List.mem_of_mem_take hx), c⟩, leastE_idem n gs, b, ?_⟩
  show (gs.take _).length ≤ _
  rw [List.length_take]
  omega
def doE (e : Int × List Int) (h : List Int) : List Int := e.2.map (fun x => h.getD (x - 1).toNat 0) ++ h.drop e.1.toNat
def underE (e : Int × List Int) (c : Int) : Int × List Int := if e.1 = 0 then (0, []) else (e.1 + c, rg 1 (c + 1) ++ e.2.map (fun x => x + c))
theorem rg_at {a b : Int} {k : Nat} (h : a + k < b) : (rg a b)[k]? = some (a + k) := by
  unfold rg
  rw [List.getElem?_map, List.getElem?_range (by omega)]
  rfl
theorem rg_getD {a b : Int} {k : Nat} (h : a + k < b) : (rg a b).getD k 0 = a + k := by
  rw [List.getD_eq_getElem?_getD, rg_at h]
  rfl
theorem doE_rg {n c : Int} {gs : List Int} (ef : Eff (n, gs)) : doE (n, gs) (rg (c + 1) (n + c + 1)) = gs.map (fun x => x + c) := by
  unfold doE
  have e : (rg (c + 1) (n + c + 1)).drop n.toNat = [] := List.drop_of_length_le (by rw [rg_length]; omega)
  rw [e, List.append_nil]
  refine List.map_congr_left fun x hx => ?_
  have h1 : 1 ≤ x := ef.ge x hx
  have h2 : x ≤ n := ef.le x hx
  rw [rg_getD (by omega)]
  omega
theorem rg_app {a b c : Int} (h1 : a ≤ b) (h2 : b ≤ c) : rg a b ++ rg b c = rg a c := by
  refine List.ext_getElem? fun i => ?_
  have l1 := rg_length a b
  have l2 := rg_length b c
  have l3 := rg_length a c
  by_cases hi : i < (rg a b).length
  · rw [List.getElem?_append_left hi, rg_at (by omega), rg_at (by omega)]
  · rw [List.getElem?_append_right (by omega)]
    by_cases hj : i < (rg a c).length
    · rw [rg_at (by omega), rg_at (by omega)]
      congr 1
      omega
    · rw [List.getElem?_eq_none (by omega), List.getElem?_eq_none (by omega)]
theorem trim_under {gs : List Int} (hg : ∀ x ∈ gs, 1 ≤ x) {c : Nat} : ∀ (k : Nat) (n : Int), k ≤ gs.length →
    trim (rg 1 (c + 1) ++ gs.map (fun x => x + (c : Int))) (c + k) (n + c) = trim (rg 1 (c + 1) ++ gs.map (fun x => x + (c : Int))) (c + (trim gs k n).1) ((trim gs k n).2 + c)
  | 0, n, _ => rfl
  | k + 1, n, hk => by
    have lr := rg_length 1 ((c : Int) + 1)
    have er : (rg 1 ((c : Int) + 1)).length = c := by omega
    by_cases q : gs[k]? = some n ∧ ∀ x ∈ gs.take k, x < n
    · have e : trim gs (k + 1) n = trim gs k (n - 1) := by
        conv => lhs; unfold trim
        rw [if_pos q]
      rw [e, ← trim_under hg k (n - 1) (by omega)]
      have n1 := hg n (List.mem_of_getElem? q.1)
      have e2 : c + (k + 1) = (c + k) + 1 := by omega
      rw [e2]
      conv => lhs; unfold trim
      rw [if_pos]
      · congr 1
        omega
      · refine ⟨?_, fun x hx => ?_⟩
        · rw [List.getElem?_append_right (by omega), er, Nat.add_sub_cancel_left, List.getElem?_map, q.1]
          rfl
        · rw [List.take_append, er, Nat.add_sub_cancel_left] at hx
          rcases List.mem_append.mp hx with hx | hx
          · have := mem_rg.mp (List.mem_of_mem_take hx)
            omega
          · rw [← List.map_take] at hx
            obtain ⟨y, hy, rfl⟩ := List.mem_map.mp hx
            have := q.2 y hy
            omega
    · have e : trim gs (k + 1) n = (k + 1, n) := by
        conv => lhs; unfold trim
        rw [if_neg q]
      rw [e]
theorem trim_pos {gs : List Int} {c : Nat} (hl : c ≤ gs.length) (h : ∀ k, k < c → gs[k]? = some ((k : Int) + 1)) : ∀ (k : Nat), k ≤ c → trim gs k k = (0, 0)
  | 0, _ => rfl
  | k + 1, hk => by
    unfold trim
    rw [if_pos]
    · have e : ((k + 1 : Nat) : Int) - 1 = (k : Int) := by omega
      rw [e]
      exact trim_pos hl h k (by omega)
    · refine ⟨?_, fun x hx => ?_⟩
      · rw [h k (by omega)]
        congr 1
      · obtain ⟨i, hi, rfl⟩ := List.getElem_of_mem hx
        rw [List.length_take] at hi
        have e := h i (by omega)
        rw [List.getElem_take]
        have e2 := List.getElem?_eq_some_iff.mp e
        obtain ⟨_, e3⟩ := e2
        rw [e3]
        omega
theorem least_under {n c : Int} {gs : List Int} (ef : Eff (n, gs)) (h0 : 0 ≤ c) : leastE (n + c) (rg 1 (c + 1) ++ gs.map (fun x => x + c)) = underE (leastE n gs) c := by
  obtain ⟨m, rfl⟩ : ∃ m : Nat, c = (m : Int) := ⟨c.toNat, by omega⟩
  have ok := leastE_ok ef
  have lr := rg_length 1 ((m : Int) + 1)
  have er : (rg 1 ((m : Int) + 1)).length = m := by omega
  have ht := trim_le gs gs.length n
  have te := trim_end gs gs.length n
  have el : (rg 1 ((m : Int) + 1) ++ gs.map (fun x => x + (m : Int))).length = m + gs.length := by rw [List.length_append, er, List.length_map]
  have e1 := trim_under ef.ge (c := m) gs.length n (Nat.le_refl _)
  unfold leastE
  rw [el, e1]
  have okd : 0 ≤ (trim gs gs.length n).2 := ok.eff.nn
  have okl : ∀ x ∈ gs.take (trim gs gs.length n).1, x ≤ (trim gs gs.length n).2 := ok.eff.le
  have okg : ∀ x ∈ gs.take (trim gs gs.length n).1, 1 ≤ x := ok.eff.ge
  revert ht te okd okl okg
  generalize trim gs gs.length n = r
  obtain ⟨j, d⟩ := r
  intro ht te okd okl okg
  dsimp only at ht te okd okl okg ⊢
  unfold underE
  dsimp only
  by_cases hd : d = 0
  · subst hd
    rw [if_pos rfl]
    have j0 : j = 0 := by
      cases j with
      | zero => rfl
      | succ j =>
        have hm : gs[0] ∈ gs.take (j + 1) := by
          have : 0 < gs.length := by omega
          rw [List.mem_take_iff_getElem]
          exact ⟨0, by omega, rfl⟩
        have a1 := okl _ hm
        have a2 := okg _ hm
        omega
    subst j0
    have e2 := trim_pos (gs := rg 1 ((m : Int) + 1) ++ gs.map (fun x => x + (m : Int))) (c := m) (by rw [el]; omega) (fun k hk => by
      rw [List.getElem?_append_left (by omega), rg_at (by omega)]
      congr 1
      omega) m (Nat.le_refl _)
    have e3 : (0 : Int) + m = m := by omega
    rw [e3, Nat.add_zero, e2]
    rfl
  · rw [if_neg hd]
    have stay : trim (rg 1 ((m : Int) + 1) ++ gs.map (fun x => x + (m : Int))) (m + j) (d + m) = (m + j, d + m) := by
      cases j with
      | zero =>
        cases m with
        | zero => rfl
        | succ m =>
          show trim _ (m + 1) _ = _
          unfold trim
          rw [if_neg]
          rintro ⟨h1, _⟩
          rw [List.getElem?_append_left (by omega), rg_at (by omega)] at h1
          have := Option.some.inj h1
          omega
      | succ j =>
        show trim _ ((m + j) + 1) _ = _
        unfold trim
        rw [if_neg]
        · rfl
        rintro ⟨h1, h2⟩
        unfold trim at te
        by_cases q : gs[j]? = some d ∧ ∀ x ∈ gs.take j, x < d
        · rw [if_pos q] at te
          have := trim_le gs j (d - 1)
          rw [te] at this
          simp at this
          omega
        · refine q ⟨?_, fun x hx => ?_⟩
          · rw [List.getElem?_append_right (by omega), er, Nat.add_sub_cancel_left, List.getElem?_map] at h1
            cases hq : gs[j]? with
            | none => rw [hq] at h1; cases h1
            | some y =>
              rw [hq] at h1
              have e : y + (m : Int) = d + m := Option.some.inj h1
              congr 1
              omega
          · have := h2 (x + m) (by
              rw [List.take_append, er, Nat.add_sub_cancel_left, ← List.map_take]
              exact List.mem_append_right _ (List.mem_map.mpr ⟨x, hx, rfl⟩))
            omega
    rw [stay]
    dsimp only
    rw [List.take_append, er, Nat.add_sub_cancel_left, ← List.map_take, List.take_of_length_le (by omega)]
theorem under_eff {e : Int × List Int} {c : Int} (h : Eff e) (h0 : 0 ≤ c) : Eff (underE e c) := by
  unfold underE
  have hn := h.nn
  split
  · exact ⟨by simp, by simp, by simp⟩
  · refine ⟨by show 0 ≤ e.1 + c; omega, fun x hx => ?_, fun x hx => ?_⟩
    · rcases List.mem_append.mp hx with hx | hx
      · have := mem_rg.mp hx
        omega
      · obtain ⟨y, hy, rfl⟩ := List.mem_map.mp hx
        have := h.ge y hy
        omega
    · show x ≤ e.1 + c
      rcases List.mem_append.mp hx with hx | hx
      · have := mem_rg.mp hx
        omega
      · obtain ⟨y, hy, rfl⟩ := List.mem_map.mp hx
        have := h.le y hy
        omega
theorem under_lst {e : Int × List Int} {c : Int} (h : Eff e) (hl : Lst e) (h0 : 0 ≤ c) : leastE (underE e c).1 (underE e c).2 = underE e c := by
  have h1 := least_under (n := e.1) (gs := e.2) (c := c) h h0
  rw [show leastE e.1 e.2 = e from hl] at h1
  by_cases hd : e.1 = 0
  · have : underE e c = (0, []) := by unfold underE; rw [if_pos hd]
    rw [this]
    rfl
  · have e1 : underE e c = (e.1 + c, rg 1 (c + 1) ++ e.2.map (fun x => x + c)) := by unfold underE; rw [if_neg hd]
    rw [e1] at h1 ⊢
    exact h1
def fromE (e : Int × List Int) (r : Int) : Int := if r ≤ (e.2.length : Nat) then e.2.getD (r - 1).toNat 0 else r + e.1 - (e.2.length : Nat)
def upE (e : Int × List Int) (m : Int) : List Int := e.2 ++ rg (e.1 + 1) (e.1 + m + 1)
def moreE (e : Int × List Int) (d : Int) : Int := if 0 < d - (e.2.length : Nat) then d - (e.2.length : Nat) else 0
def cE (e f : Int × List Int) (m : Int) : Int × List Int := (e.1 + m, doE f (upE e m))
def joinE (e f : Int × List Int) : Int × List Int := leastE (cE e f (moreE e f.1)).1 (cE e f (moreE e f.1)).2
theorem from_trim {gs : List Int} {r : Int} : ∀ (k : Nat) (n : Int), k ≤ gs.length → 1 ≤ r → fromE ((trim gs k n).2, gs.take (trim gs k n).1) r = fromE (n, gs.take k) r
  | 0, n, _, _ => rfl
  | k + 1, n, hk, hr => by
    by_cases q : gs[k]? = some n ∧ ∀ x ∈ gs.take k, x < n
    · have e : trim gs (k + 1) n = trim gs k (n - 1) := by
        conv => lhs; unfold trim
        rw [if_pos q]
      rw [e, from_trim k (n - 1) (by omega) hr]
      unfold fromE
      dsimp only
      rw [List.length_take, List.length_take, Nat.min_eq_left (by omega), Nat.min_eq_left (by omega)]
      by_cases h1 : r ≤ (k : Nat)
      · rw [if_pos h1, if_pos (by omega), List.getD_eq_getElem?_getD, List.getD_eq_getElem?_getD, List.getElem?_take_of_lt (by omega), List.getElem?_take_of_lt (by omega)]
      · rw [if_neg h1]
        by_cases h2 : r ≤ ((k + 1 : Nat) : Int)
        · have e2 : (r - 1).toNat = k := by omega
          rw [if_pos h2, List.getD_eq_getElem?_getD, e2, List.getElem?_take_of_lt (by omega), q.1]
          show _ = n
          omega
        · rw [if_neg h2]
          omega
    · have e : trim gs (k + 1) n = (k + 1, n) := by
        conv => lhs; unfold trim
        rw [if_neg q]
      rw [e]
theorem from_least {n r : Int} {gs : List Int} (hr : 1 ≤ r) : fromE (leastE n gs) r = fromE (n, gs) r := by
  have := from_trim (gs := gs) gs.length n (Nat.le_refl _) hr
  rw [List.take_length] at this
  exact this
theorem from_up {e : Int × List Int} {m : Int} {k : Nat} (h : k < e.2.length + m) (hm : 0 ≤ m) : (upE e m).getD k 0 = fromE e (k + 1) := by
  unfold upE fromE
  have lr := rg_length (e.1 + 1) (e.1 + m + 1)
  rw [List.getD_eq_getElem?_getD]
  by_cases h1 : k < e.2.length
  · have e1 : (((k : Nat) : Int) + 1 - 1).toNat = k := by omega
    rw [List.getElem?_append_left h1, if_pos (by omega), e1, List.getD_eq_getElem?_getD]
  · rw [List.getElem?_append_right (by omega), rg_at (by omega), if_neg (by omega)]
    show _ + _ = _
    omega
theorem up_len {e : Int × List Int} {m : Int} (hm : 0 ≤ m) : (((upE e m).length : Nat) : Int) = e.2.length + m := by
  unfold upE
  have lr := rg_length (e.1 + 1) (e.1 + m + 1)
  rw [List.length_append]
  omega
theorem cE_len {e f : Int × List Int} {m : Int} (hf : Eff f) (hm : 0 ≤ m) (hd : f.1 ≤ e.2.length + m) : (((cE e f m).2.length : Nat) : Int) = f.2.length + (e.2.length + m - f.1) := by
  have ul := up_len (e := e) hm
  have := hf.nn
  show ((doE f (upE e m)).length : Int) = _
  unfold doE
  rw [List.length_append, List.length_map, List.length_drop]
  omega
theorem from_c {e f : Int × List Int} {m r : Int} (hf : Eff f) (hm : 0 ≤ m) (hd : f.1 ≤ e.2.length + m) (hr : 1 ≤ r) : fromE (cE e f m) r = fromE e (fromE f r) := by
  have ul := up_len (e := e) hm
  have cl := cE_len (e := e) hf hm hd
  have hf0 := hf.nn
  have key : ∀ s : Int, 1 ≤ s → s ≤ e.2.length + m → (upE e m).getD (s - 1).toNat 0 = fromE e s := fun s h1 h2 => by
    rw [from_up (k := (s - 1).toNat) (by omega) hm]
    congr 1
    omega
  conv => lhs; unfold fromE
  by_cases h1 : r ≤ (f.2.length : Nat)
  · have e1 : fromE f r = f.2.getD (r - 1).toNat 0 := by unfold fromE; rw [if_pos h1]
    have hi : (r - 1).toNat < f.2.length := by omega
    have em : f.2[(r - 1).toNat]? = some f.2[(r - 1).toNat] := List.getElem?_eq_getElem hi
    have e2 : f.2.getD (r - 1).toNat 0 = f.2[(r - 1).toNat] := by rw [List.getD_eq_getElem?_getD, em]; rfl
    have mm := List.mem_of_getElem? em
    have a1 := hf.ge _ mm
    have a2 := hf.le _ mm
    rw [e1, e2, if_pos (by omega), ← key _ a1 (by omega)]
    show (doE f (upE e m)).getD _ _ = _
    unfold doE
    rw [List.getD_eq_getElem?_getD, List.getElem?_append_left (by rw [List.length_map]; exact hi), List.getElem?_map, em]
    rfl
  · have e1 : fromE f r = r + f.1 - (f.2.length : Nat) := by unfold fromE; rw [if_neg h1]
    rw [e1]
    by_cases h2 : r ≤ ((cE e f m).2.length : Nat)
    · rw [if_pos h2, ← key _ (by omega) (by omega)]
      show (doE f (upE e m)).getD _ _ = _
      unfold doE
      rw [List.getD_eq_getElem?_getD, List.getElem?_append_right (by rw [List.length_map]; omega), List.getElem?_drop, List.length_map, List.getD_eq_getElem?_getD]
      congr 2
      omega
    · rw [if_neg h2]
      unfold fromE
      rw [if_neg (by omega)]
      show r + (e.1 + m) - _ = _
      omega
theorem more_ok {e : Int × List Int} {d : Int} : 0 ≤ moreE e d ∧ d ≤ e.2.length + moreE e d := by
  unfold moreE
  split <;> omega
theorem up_mem {e : Int × List Int} {m x : Int} (he : Eff e) (hx : x ∈ upE e m) : 1 ≤ x ∧ x ≤ e.1 + (if 0 < m then m else 0) := by
  have := he.nn
  rcases List.mem_append.mp hx with hx | hx
  · have a1 := he.ge x hx
    have a2 := he.le x hx
    split <;> omega
  · have a := mem_rg.mp hx
    split <;> omega
theorem cE_eff {e f : Int × List Int} {m : Int} (he : Eff e) (hf : Eff f) (hm : 0 ≤ m) (hd : f.1 ≤ e.2.length + m) : Eff (cE e f m) := by
  have hen := he.nn
  have ul := up_len (e := e) hm
  have all : ∀ x ∈ (cE e f m).2, 1 ≤ x ∧ x ≤ e.1 + m := fun x hx => by
    rcases List.mem_append.mp hx with hx | hx
    · obtain ⟨y, hy, rfl⟩ := List.mem_map.mp hx
      have a1 := hf.ge y hy
      have a2 := hf.le y hy
      have em : (upE e m)[(y - 1).toNat]? = some (upE e m)[(y - 1).toNat] := List.getElem?_eq_getElem (by omega)
      have := up_mem he (List.mem_of_getElem? em)
      rw [List.getD_eq_getElem?_getD, em]
      show _ ≤ (upE e m)[(y - 1).toNat] ∧ (upE e m)[(y - 1).toNat] ≤ _
      revert this
      split <;> omega
    · have := up_mem he (List.mem_of_mem_drop hx)
      revert this
      split <;> omega
  exact ⟨by show 0 ≤ e.1 + m; omega, fun x hx => (all x hx).1, fun x hx => (all x hx).2⟩
theorem join_eff {e f : Int × List Int} (he : Eff e) (hf : Eff f) : Eff (joinE e f) := (leastE_ok (cE_eff he hf more_ok.1 more_ok.2)).eff
theorem join_lst {e f : Int × List Int} : Lst (joinE e f) := leastE_idem _ _
theorem from_join {e f : Int × List Int} {r : Int} (hf : Eff f) (hr : 1 ≤ r) : fromE (joinE e f) r = fromE e (fromE f r) := by
  unfold joinE
  rw [from_least hr]
  exact from_c hf more_ok.1 more_ok.2 hr
theorem from_ge {e : Int × List Int} {r : Int} (he : Eff e) (hr : 1 ≤ r) : 1 ≤ fromE e r := by
  have := he.nn
  unfold fromE
  split
  · have em : e.2[(r - 1).toNat]? = some e.2[(r - 1).toNat] := List.getElem?_eq_getElem (by omega)
    rw [List.getD_eq_getElem?_getD, em]
    exact he.ge _ (List.mem_of_getElem? em)
  · omega
/-- two least ways of the same shift are one -/
theorem canon_lt {e f : Int × List Int} (he : Eff e) (hf : Eff f) (lf : Lst f) (h : ∀ r, 1 ≤ r → fromE e r = fromE f r) : f.2.length ≤ e.2.length := by
  by_cases c : f.2.length ≤ e.2.length
  · exact c
  exfalso
  have big := h (e.2.length + f.2.length + 1) (by omega)
  unfold fromE at big
  rw [if_neg (by omega), if_neg (by omega)] at big
  have at_ : ∀ j : Nat, j < f.2.length → e.2.length ≤ j → f.2[j]? = some ((j : Int) + 1 + e.1 - (e.2.length : Nat)) := fun j hj hk => by
    have q := h (j + 1) (by omega)
    unfold fromE at q
    have e1 : ((j : Int) + 1 - 1).toNat = j := by omega
    rw [if_neg (by omega), if_pos (by omega), e1, List.getD_eq_getElem?_getD] at q
    have em : f.2[j]? = some f.2[j] := List.getElem?_eq_getElem hj
    rw [em] at q ⊢
    have q2 : _ = f.2[j] := q
    rw [← q2]
  obtain ⟨k, ek⟩ : ∃ k, f.2.length = k + 1 := ⟨f.2.length - 1, by omega⟩
  have cut : trim f.2 (k + 1) f.1 = trim f.2 k (f.1 - 1) := by
    conv => lhs; unfold trim
    rw [if_pos]
    refine ⟨?_, fun x hx => ?_⟩
    · rw [at_ k (by omega) (by omega)]
      congr 1
      omega
    · obtain ⟨j, hj, rfl⟩ := List.getElem_of_mem hx
      rw [List.length_take] at hj
      rw [List.getElem_take]
      have em : f.2[j]? = some f.2[j] := List.getElem?_eq_getElem (by omega)
      by_cases hk : e.2.length ≤ j
      · have q := at_ j (by omega) hk
        rw [em] at q
        have q2 := Option.some.inj q
        omega
      · have q := h (j + 1) (by omega)
        unfold fromE at q
        have e1 : ((j : Int) + 1 - 1).toNat = j := by omega
        have em2 : e.2[j]? = some e.2[j] := List.getElem?_eq_getElem (by omega)
        rw [if_pos (by omega), if_pos (by omega), e1, List.getD_eq_getElem?_getD, List.getD_eq_getElem?_getD, em, em2] at q
        have q2 : e.2[j] = f.2[j] := q
        have := he.le _ (List.mem_of_getElem? em2)
        omega
  have l1 := trim_le f.2 k (f.1 - 1)
  have l2 : (leastE f.1 f.2).2.length = f.2.length := by rw [show leastE f.1 f.2 = f from lf]
  unfold leastE at l2
  dsimp only at l2
  rw [List.length_take, ek, cut] at l2
  omega
theorem canon {e f : Int × List Int} (he : Eff e) (hf : Eff f) (le : Lst e) (lf : Lst f) (h : ∀ r, 1 ≤ r → fromE e r = fromE f r) : e = f := by
  have a1 := canon_lt he hf lf h
  have a2 := canon_lt hf he le fun r hr => (h r hr).symm
  have big := h (e.2.length + f.2.length + 1) (by omega)
  unfold fromE at big
  rw [if_neg (by omega), if_neg (by omega)] at big
  obtain ⟨n, gs⟩ := e
  obtain ⟨d, ls⟩ := f
  dsimp only at *
  have en : n = d := by omega
  subst en
  congr 1
  refine List.ext_getElem? fun j => ?_
  by_cases hj : j < gs.length
  · have q := h (j + 1) (by omega)
    unfold fromE at q
    dsimp only at q
    have e1 : ((j : Int) + 1 - 1).toNat = j := by omega
    have em : gs[j]? = some gs[j] := List.getElem?_eq_getElem hj
    have em2 : ls[j]? = some ls[j] := List.getElem?_eq_getElem (by omega)
    rw [if_pos (by omega), if_pos (by omega), e1, List.getD_eq_getElem?_getD, List.getD_eq_getElem?_getD, em, em2] at q
    rw [em, em2]
    exact congrArg some q
  · rw [List.getElem?_eq_none (by omega), List.getElem?_eq_none (by omega)]
theorem shaped_dE (e : Int × List Int) : SeqAt.shaped (dE e) = true := by
  unfold SeqAt.shaped
  simp [PyData.canLay0, PyData.canLayAll0, PyData.depth, PyData.depthAll, canLay_ints, depth_ints]
def powE (e : Int × List Int) : Nat → Int × List Int
  | 0 => (0, [])
  | k + 1 => joinE (powE e k) e
theorem eff0 : Eff ((0, []) : Int × List Int) := ⟨by decide, by simp, by simp⟩
theorem lst0 : Lst ((0, []) : Int × List Int) := rfl
theorem pow_eff {e : Int × List Int} (h : Eff e) : ∀ k, Eff (powE e k)
  | 0 => eff0
  | k + 1 => join_eff (pow_eff h k) h
theorem pow_lst {e : Int × List Int} : ∀ k, Lst (powE e k)
  | 0 => lst0
  | k + 1 => join_lst
theorem cmulB_of {i j : Int} (h1 : i.natAbs < 2 ^ 200) (h2 : j.natAbs < 2 ^ 200) : CMulB i j := by
  have a := bits_of (i := i) (n := 200) (by decide) h1
  have b := bits_of (i := j) (n := 200) (by decide) h2
  unfold CMulB
  omega
abbrev dS (ss : List Str) : D := .list (ss.map PyData.str)
theorem nolists_strs : ∀ ss : List Str, nolists (ss.map PyData.str) = true
  | [] => rfl
  | s :: ss => by simp [nolists, nolist, nolists_strs ss]
theorem depth_strs : ∀ ss : List Str, PyData.depthAll (ss.map PyData.str) = 0
  | [] => rfl
  | s :: ss => by simp [PyData.depthAll, PyData.depth, depth_strs ss]
theorem lay_strs : ∀ ss : List Str, (∀ s ∈ ss, PyData.strOk s = true) → PyData.canLayAll0 (ss.map PyData.str) = true
  | [], _ => rfl
  | s :: ss, h => by simp [PyData.canLayAll0, PyData.canLay0, lay_strs ss fun x hx => h x (List.mem_cons_of_mem _ hx), h s List.mem_cons_self]
theorem shaped_strs {ss : List Str} (h : ∀ s ∈ ss, PyData.strOk s = true) : SeqAt.shaped (dS ss) = true := by
  unfold SeqAt.shaped
  simp [PyData.canLay0, PyData.depth, lay_strs ss h, depth_strs]
theorem eqv_strs : ∀ xs ys : List Str, PyData.eqv (dS xs) (dS ys) = decide (xs = ys) := by
  have aux : ∀ xs ys : List Str, PyData.eqvAll (xs.map PyData.str) (ys.map PyData.str) = decide (xs = ys) := by
    intro xs
    induction xs with
    | nil =>
      intro ys
      cases ys with
      | nil => simp [PyData.eqvAll]
      | cons y ys => simp [PyData.eqvAll]
    | cons x xs ih =>
      intro ys
      cases ys with
      | nil => simp [PyData.eqvAll]
      | cons y ys =>
        simp only [List.map_cons, PyData.eqvAll, PyData.eqv, ih]
        by_cases h : x = y
        · subst h
          simp
        · have h2 : (x == y) = false := beq_eq_false_iff_ne.mpr h
          rw [h2]
          simp [h]
  intro xs ys
  show PyData.eqv (.list (xs.map PyData.str)) (.list (ys.map PyData.str)) = _
  simp only [PyData.eqv]
  exact aux xs ys
theorem ixD_strs {ss : List Str} {i : Int} {f : Nat → D → Prop} (h0 : 0 ≤ i) (h1 : i < ss.length) (h : ∀ s, s ∈ ss → ss.getD i.toNat s = s → ss[i.toNat]? = some s → f i.toNat (.str s)) : ixD (ss.map PyData.str) i f := by
  refine ixD_any h0 (by rw [List.length_map]; exact h1) fun x hx => ?_
  rw [List.getElem?_map] at hx
  cases q : ss[i.toNat]? with
  | none => rw [q] at hx; cases hx
  | some s =>
    rw [q] at hx
    cases hx
    exact h s (List.mem_of_getElem? q) (by rw [List.getD_eq_getElem?_getD, q]; rfl) q
theorem allflat_strs : ∀ ss : List Str, (ss.map PyData.str).all flatD = true
  | [] => rfl
  | s :: ss => by rw [List.map_cons, List.all_cons, allflat_strs ss]; rfl
inductive Step where
  | nm (x : Str)
  | long (u : Bool) (n : Int) (ph : List Step)
def wordD (u : Bool) : D := .str (if u then ("under" : String) else ("times" : String))
mutual
def dStep : Step → D
  | .nm x => .str x
  | .long u n ph => .tuple [wordD u, .int n, .list (dSteps ph)]
def dSteps : List Step → List D
  | [] => []
  | s :: ss => dStep s :: dSteps ss
end
theorem dSteps_map : ∀ ph : List Step, dSteps ph = ph.map dStep
  | [] => rfl
  | s :: ss => by rw [dSteps, dSteps_map ss, List.map_cons]
mutual
def dpS : Step → Nat
  | .nm _ => 0
  | .long _ _ ph => dpSs ph + 1
def dpSs : List Step → Nat
  | [] => 0
  | s :: ss => max (dpS s) (dpSs ss)
end
theorem dp_mem : ∀ {ph : List Step} {s : Step}, s ∈ ph → dpS s ≤ dpSs ph
  | [], _, h => nomatch h
  | x :: ph, s, h => by
    unfold dpSs
    rcases List.mem_cons.mp h with rfl | h
    · omega
    · have := dp_mem h
      omega
mutual
def szS : Step → Nat
  | .nm _ => 1
  | .long _ _ ph => szSs ph + 1
def szSs : List Step → Nat
  | [] => 0
  | s :: ss => szS s + szSs ss
end
mutual
def nmS : Step → List Str
  | .nm x => [x]
  | .long _ _ ph => nmSs ph
def nmSs : List Step → List Str
  | [] => []
  | s :: ss => nmS s ++ nmSs ss
end
/-- effects by their names -/
abbrev Held := List (Str × (Int × List Int))
abbrev heldM (h : Held) : List (Key × D) := h.map fun x => (Sum.inr x.1, dE x.2)
abbrev heldD (h : Held) : D := dictD (heldM h)
theorem heldM_snoc (h : Held) (x : Str) (e : Int × List Int) : heldM (h ++ [(x, e)]) = heldM h ++ [(Sum.inr x, dE e)] := by simp
theorem valM_held (h : Held) (x : Str) : valM (heldM h) (Sum.inr x : Key) = (h.lookup x).map dE := by
  induction h with
  | nil => rfl
  | cons y h ih =>
    show valM ((Sum.inr y.1, dE y.2) :: heldM h) (Sum.inr x : Key) = _
    rw [valM_cons, ih, List.lookup_cons]
    by_cases e : y.1 = x
    · subst e
      simp
    · have e2 : (x == y.1) = false := by simpa using fun z => e z.symm
      rw [e2, if_neg (by intro z; injection z with z; exact e z)]
mutual
def efS (h : Held) : Step → Int × List Int
  | .nm x => (h.lookup x).getD (0, [])
  | .long u n ph => if u then underE (efL h (0, []) ph) n else powE (efL h (0, []) ph) n.toNat
def efL (h : Held) : Int × List Int → List Step → Int × List Int
  | acc, [] => acc
  | acc, s :: ss => efL h (joinE acc (efS h s)) ss
end
def Bd (e : Int × List Int) : Prop := Eff e ∧ Lst e ∧ e.1 ≤ 60 ∧ e.2.length ≤ 60
mutual
def okS (h : Held) : Step → Prop
  | .nm x => ∃ e, h.lookup x = some e ∧ Bd e
  | .long _ n ph => okL h (0, []) ph ∧ 0 ≤ n ∧ n ≤ 100
def okL (h : Held) : Int × List Int → List Step → Prop
  | _, [] => True
  | acc, s :: ss => okS h s ∧ Bd (joinE acc (efS h s)) ∧ okL h (joinE acc (efS h s)) ss
end
theorem efL_app (h : Held) : ∀ (a b : List Step) (acc : Int × List Int), efL h acc (a ++ b) = efL h (efL h acc a) b
  | [], b, acc => rfl
  | s :: a, b, acc => by rw [List.cons_append, efL, efL, efL_app h a b]
theorem hasDict_mem : ∀ {xs : List D} {x : D}, PyData.hasDictAll xs = false → x ∈ xs → x.hasDict = false
  | y :: xs, x, h, m => by
    simp only [PyData.hasDictAll, Bool.or_eq_false_iff] at h
    rcases List.mem_cons.mp m with rfl | m
    · exact h.1
    · exact hasDict_mem h.2 m
inductive Mng where
  | fx (e : Int × List Int)
  | ph (l : List Step)
def dM : Mng → D
  | .fx e => dE e
  | .ph l => .list (dSteps l)
abbrev Rows := List (Str × Mng)
def dRow (r : Str × Mng) : D := .tuple [.str r.1, dM r.2]
abbrev dRows (rs : Rows) : D := .list (rs.map dRow)
abbrev dBook (C : Addr) (rs : Rows) : D := bookD C (rs.map dRow)
theorem dp_steps : ∀ ph : List Step, PyData.depthAll (dSteps ph) ≤ 2 * dpSs ph
  | [] => Nat.zero_le _
  | .nm x :: ss => by
    have := dp_steps ss
    unfold dSteps dStep dpSs
    simp only [PyData.depthAll, PyData.depth]
    omega
  | .long u n l :: ss => by
    have := dp_steps ss
    have := dp_steps l
    unfold dSteps dStep dpSs dpS wordD
    simp only [PyData.depthAll, PyData.depth]
    omega
theorem hd_steps : ∀ ph : List Step, PyData.hasDictAll (dSteps ph) = false
  | [] => rfl
  | .nm x :: ss => by
    have := hd_steps ss
    unfold dSteps dStep
    simp only [PyData.hasDictAll, PyData.hasDict, this]
    rfl
  | .long u n l :: ss => by
    have h1 := hd_steps ss
    have h2 := hd_steps l
    unfold dSteps dStep wordD
    simp only [PyData.hasDictAll, PyData.hasDict, h1, h2]
    rfl
theorem hd_ints : ∀ ns : List Int, PyData.hasDictAll (ns.map PyData.int) = false
  | [] => rfl
  | n :: ns => by
    rw [List.map_cons]
    simp only [PyData.hasDictAll, PyData.hasDict, hd_ints ns]
    rfl
theorem hd_M : ∀ m : Mng, (dM m).hasDict = false
  | .fx e => by
    unfold dM dE
    simp only [PyData.hasDict, PyData.hasDictAll, hd_ints]
    rfl
  | .ph l => by
    unfold dM
    simp only [PyData.hasDict, hd_steps]
def dpM : Mng → Nat
  | .fx _ => 0
  | .ph l => dpSs l
theorem dpth_ints : ∀ ns : List Int, PyData.depthAll (ns.map PyData.int) = 0
  | [] => rfl
  | n :: ns => by
    rw [List.map_cons]
    simp only [PyData.depthAll, PyData.depth, dpth_ints ns]
    rfl
theorem dp_M : ∀ m : Mng, (dM m).depth ≤ 2 * dpM m + 2
  | .fx e => by
    unfold dM dE dpM
    simp only [PyData.depth, PyData.depthAll, dpth_ints]
    omega
  | .ph l => by
    have := dp_steps l
    unfold dM dpM
    simp only [PyData.depth]
    omega
/-- which names are needed, from behind -/
def needL : List Str → Rows → List Str
  | S, [] => S
  | S, (x, .ph l) :: rs => if x ∈ S then needL (S ++ nmSs l) rs else needL S rs
  | S, (_, .fx _) :: rs => needL S rs
def effM (h : Held) : Mng → Int × List Int
  | .fx e => e
  | .ph l => efL h (0, []) l
def okM (h : Held) : Mng → Prop
  | .fx e => Bd e
  | .ph l => okL h (0, []) l
/-- the effects of the words that are needed -/
def heldB (N : List Str) : Held → Rows → Held
  | h, [] => h
  | h, (x, m) :: rs => if x ∈ N then heldB N (h ++ [(x, effM h m)]) rs else heldB N h rs
def okB (N : List Str) : Held → Rows → Prop
  | _, [] => True
  | h, (x, m) :: rs => if x ∈ N then okM h m ∧ okB N (h ++ [(x, effM h m)]) rs else okB N h rs
def rowsZ (rs : Rows) : Prop := rs.length ≤ 1000 ∧ ∀ r ∈ rs, dpM r.2 ≤ 20 ∧ (∀ l, r.2 = .ph l → szSs l ≤ 3000)
abbrev LETS : Str := ("abcdefghijklmnopqrstuvwxyz" : String)
def isNm (x : Str) : Bool := decide (1 ≤ x.length) && decide (x.length ≤ 8) && x.cps.toList.all fun c => decide (c ∈ LETS.cps.toList)
/-- letters alone -/
def Lt (x : Str) : Prop := ∀ c ∈ x.cps.toList, c ∈ LETS.cps.toList
/-- a list of so many unlike names -/
def Nms (m : Nat) (xs : List Str) : Prop := xs.length = m ∧ xs.Nodup ∧ ∀ x ∈ xs, Lt x ∧ 1 ≤ x.length ∧ x.length ≤ 8
theorem isNm_of {x : Str} (h : Lt x) (h1 : 1 ≤ x.length) (h8 : x.length ≤ 8) : isNm x = true := by
  unfold isNm
  rw [decide_eq_true h1, decide_eq_true h8]
  simp only [Bool.true_and, List.all_eq_true, decide_eq_true_eq]
  exact h
theorem len_cps (x : Str) : x.length = x.cps.toList.length := by simp [Str.length]
theorem app_cps (x y : Str) : (x ++ y).cps.toList = x.cps.toList ++ y.cps.toList := by
  show (x.cps ++ y.cps).toList = _
  simp
theorem Lt.app {x y : Str} (h : Lt x) (k : Lt y) : Lt (x ++ y) := fun c m => by
  rw [app_cps] at m
  exact (List.mem_append.mp m).elim (h c) (k c)
theorem Lt.cut {x : Str} (h : Lt x) (a b : Option Int) : Lt (cutS x a b) := fun c m => h c (List.drop_subset _ _ (List.take_subset _ _ (by simpa [cutS] using m)))
theorem Lt.one {c : Nat} (h : c ∈ LETS.cps.toList) : Lt ⟨#[c]⟩ := fun x m => by
  simp at m
  exact m ▸ h
theorem len_cut_to {x : Str} {i : Nat} (h : i ≤ x.length) : (cutS x none (some (i : Int))).length = i := by
  rw [len_cps, cutS_to, List.length_take, ← len_cps]
  omega
theorem len_cut_from {x : Str} {i : Nat} : (cutS x (some (i : Int)) none).length = x.length - i := by
  rw [len_cps, cutS_from, List.length_drop, ← len_cps]
theorem join_cps : ∀ ys : List Str, (Txt.join ("" : String) ys).cps.toList = (ys.map fun y => y.cps.toList).flatten := by
  intro ys
  rw [show Txt.join (("" : String) : Str) ys = Str.join (("" : String) : Str) ys from StrLaws.glued_eq_join _ _]
  have e0 : (("" : String) : Str).cps.toList = [] := by decide +kernel
  induction ys with
  | nil => rfl
  | cons x r ih =>
    cases r with
    | nil => simp [Str.join]
    | cons y r =>
      show (x ++ (("" : String) : Str) ++ Str.join (("" : String) : Str) (y :: r)).cps.toList = _
      rw [app_cps, app_cps, e0, List.append_nil, ih]
      rfl
/-- a word of letters -/
theorem join_word {ys : List Str} (h : ∀ y ∈ ys, y.length = 1 ∧ Lt y) : (Txt.join ("" : String) ys).length = ys.length ∧ Lt (Txt.join ("" : String) ys) := by
  constructor
  · rw [len_cps, join_cps]
    induction ys with
    | nil => rfl
    | cons x r ih =>
      rw [List.map_cons, List.flatten_cons, List.length_append, ih fun y m => h y (List.mem_cons_of_mem _ m), ← len_cps, (h x List.mem_cons_self).1, List.length_cons]
      omega
  · intro c m
    rw [join_cps] at m
    obtain ⟨l, hl, hc⟩ := List.mem_flatten.mp m
    obtain ⟨y, hy, rfl⟩ := List.mem_map.mp hl
    exact (h y hy).2 c hc
theorem sum_ones : ∀ {ys : List Str}, (∀ y ∈ ys, y.length = 1 ∧ Lt y) → (ys.map (·.length)).sum = ys.length
  | [], _ => rfl
  | y :: ys, h => by
    rw [List.map_cons, List.sum_cons, sum_ones fun x m => h x (List.mem_cons_of_mem _ m), (h y List.mem_cons_self).1, List.length_cons]
    omega
/-- how many unlike ones there are -/
theorem mtS_full : ∀ {xs : List Str}, (mtS xs).length = xs.length → xs.Nodup := by
  have key : ∀ (xs σ : List Str), (xs.foldl mtStep σ).length = σ.length + xs.length → xs.Nodup ∧ ∀ x ∈ xs, x ∉ σ := by
    intro xs
    induction xs with
    | nil => intro σ _; exact ⟨List.nodup_nil, fun _ m => nomatch m⟩
    | cons x xs ih =>
      intro σ h
      rw [List.foldl_cons, List.length_cons] at h
      have l1 := mtF_len xs (mtStep σ x)
      have l2 := mtStep_len σ x
      by_cases hx : x ∈ σ
      · rw [if_pos hx] at l2
        omega
      · rw [if_neg hx] at l2
        obtain ⟨n1, n2⟩ := ih (mtStep σ x) (by omega)
        refine ⟨List.nodup_cons.mpr ⟨fun m => n2 x m ((mtStep_mem _ _ _).mpr (.inr rfl)), n1⟩, fun y m => ?_⟩
        rcases List.mem_cons.mp m with rfl | m
        · exact hx
        · exact fun z => n2 y m ((mtStep_mem _ _ _).mpr (.inl z))
  intro xs h
  exact (key xs [] (by simpa [mtS] using h)).1
theorem nodup_of_inj {α : Type} {f : Nat → α} {n : Nat} (h : ∀ i j, i < n → j < n → f i = f j → i = j) : ((List.range n).map f).Nodup := by
  rw [List.nodup_iff_pairwise_ne, List.pairwise_map]
  have : (List.range n).Pairwise fun i j => i ≠ j ∧ i < n ∧ j < n := by
    rw [List.pairwise_iff_getElem]
    intro i j hi hj hij
    rw [List.length_range] at hi hj
    simp only [List.getElem_range]
    omega
  exact this.imp fun {i j} q e => q.1 (h i j q.2.1 q.2.2 e)
theorem nodup_rg {α : Type} {f : Int → α} {m : Int} (h : ∀ i j, 0 ≤ i → i < m → 0 ≤ j → j < m → f i = f j → i = j) : ((rg 0 m).map f).Nodup := by
  unfold rg
  rw [List.map_map]
  refine nodup_of_inj fun i j hi hj e => ?_
  have := h (0 + (i : Int)) (0 + (j : Int)) (by omega) (by omega) (by omega) (by omega) e
  omega
/-- the menu of names -/
abbrev MENU : List Str := [("dup" : String), ("drop" : String), ("swap" : String), ("over" : String), ("rot" : String), ("nip" : String), ("under" : String), ("times" : String), ("a" : String), ("b" : String), ("tuck" : String), ("pick" : String), ("two" : String), ("no" : String)]
def W0 (g r : Int) : Str := MENU.getD ((g + 3 * r) % 14).toNat ("" : String)
theorem menu_ok : ∀ x ∈ MENU, Lt x ∧ 1 ≤ x.length ∧ x.length ≤ 8 := by
  have : ∀ x ∈ MENU, (∀ c ∈ x.cps.toList, c ∈ LETS.cps.toList) ∧ 1 ≤ x.length ∧ x.length ≤ 8 := by decide +kernel
  exact this
theorem W0_nodup : ∀ i : Fin 14, ((rg 0 13).map (W0 (i.val : Int))).Nodup := by decide +kernel
theorem W0_nms {g m : Int} (g0 : 0 ≤ g) (g1 : g < 14) (m0 : 0 ≤ m) (m1 : m ≤ 13) : Nms m.toNat ((rg 0 m).map (W0 g)) := by
  refine ⟨by rw [List.length_map, rg_length]; omega, ?_, fun x hx => ?_⟩
  · have a := W0_nodup ⟨g.toNat, by omega⟩
    have e : ((⟨g.toNat, by omega⟩ : Fin 14).val : Int) = g := by show ((g.toNat : Nat) : Int) = g; omega
    rw [e] at a
    rw [← rg_app (a := 0) (b := m) (c := 13) m0 m1, List.map_append] at a
    exact (List.nodup_append.mp a).1
  · obtain ⟨r, _, rfl⟩ := List.mem_map.mp hx
    have hi : ((g + 3 * r) % 14).toNat < MENU.length := by
      show _ < 14
      omega
    unfold W0
    rw [List.getD_eq_getElem?_getD, List.getElem?_eq_getElem hi]
    exact menu_ok _ (List.getElem_mem hi)
theorem W1_nms {st : Str} {g m : Int} (w2 : Lt st) (w1 : st.length = 8) (g0 : 0 ≤ g) (g1 : g < 9 - m) (m0 : 0 ≤ m) : Nms m.toNat ((rg 0 m).map fun r => cutS st none (some (g + r + 1))) := by
  have ln : ∀ r : Int, 0 ≤ r → r < m → (cutS st none (some (g + r + 1))).length = (g + r + 1).toNat := fun r r0 r1 => by
    have e : g + r + 1 = (((g + r + 1).toNat : Nat) : Int) := by omega
    have := len_cut_to (x := st) (i := (g + r + 1).toNat) (by omega)
    rw [← e] at this
    exact this
  refine ⟨by rw [List.length_map, rg_length]; omega, ?_, fun x hx => ?_⟩
  · refine nodup_rg fun i j i0 i1 j0 j1 e => ?_
    have a := ln i i0 i1
    rw [e, ln j j0 j1] at a
    omega
  · obtain ⟨r, hr, rfl⟩ := List.mem_map.mp hx
    obtain ⟨r0, r1⟩ := mem_rg.mp hr
    have := ln r r0 r1
    exact ⟨w2.cut _ _, by omega, by omega⟩
/-- a letter amid a stem -/
def W2 (tl : Str) (s6 sp r : Int) : Str := cutS tl none (some sp) ++ ⟨#[LETS.cps.toList.getD ((s6 + r) % 26).toNat 0]⟩ ++ cutS tl (some sp) none
theorem W2_len {tl : Str} {s6 sp r : Int} (p0 : 0 ≤ sp) (p1 : sp < tl.length + 1) : (W2 tl s6 sp r).length = tl.length + 1 := by
  have e : sp = ((sp.toNat : Nat) : Int) := by omega
  unfold W2
  rw [e, Str.length_append, Str.length_append, len_cut_to (by omega), len_cut_from]
  show sp.toNat + 1 + (tl.length - sp.toNat) = tl.length + 1
  omega
theorem lets_nodup : LETS.cps.toList.Nodup := by decide +kernel
theorem lets_inj {a b : Nat} (ha : a < LETS.cps.toList.length) (hb : b < LETS.cps.toList.length) (e : LETS.cps.toList[a] = LETS.cps.toList[b]) : a = b := by
  have pw := List.pairwise_iff_getElem.mp (List.nodup_iff_pairwise_ne.mp lets_nodup)
  rcases Nat.lt_trichotomy a b with c | c | c
  · exact absurd e (pw a b ha hb c)
  · exact c
  · exact absurd e.symm (pw b a hb ha c)
theorem lets_len : LETS.cps.toList.length = 26 := by decide +kernel
theorem W2_nms {tl : Str} {s6 sp m : Int} (w2 : Lt tl) (w1 : tl.length ≤ 7) (p0 : 0 ≤ sp) (p1 : sp < tl.length + 1) (m0 : 0 ≤ m) (m1 : m ≤ 13) : Nms m.toNat ((rg 0 m).map (W2 tl s6 sp)) := by
  refine ⟨by rw [List.length_map, rg_length]; omega, ?_, fun x hx => ?_⟩
  · refine nodup_rg fun i j i0 i1 j0 j1 e => ?_
    have ec := congrArg (fun x => x.cps.toList) e
    have es : sp = ((sp.toNat : Nat) : Int) := by omega
    unfold W2 at ec
    simp only [app_cps] at ec
    rw [List.append_assoc, List.append_assoc] at ec
    have ec2 := List.append_cancel_left ec
    have ec3 := List.append_cancel_right ec2
    simp only [List.cons.injEq, and_true] at ec3
    have hi : ((s6 + i) % 26).toNat < LETS.cps.toList.length := by rw [lets_len]; omega
    have hj : ((s6 + j) % 26).toNat < LETS.cps.toList.length := by rw [lets_len]; omega
    rw [List.getD_eq_getElem?_getD, List.getD_eq_getElem?_getD, List.getElem?_eq_getElem hi, List.getElem?_eq_getElem hj] at ec3
    have := lets_inj hi hj ec3
    omega
  · obtain ⟨r, hr, rfl⟩ := List.mem_map.mp hx
    have ln := W2_len (s6 := s6) (r := r) p0 p1
    refine ⟨?_, by omega, by omega⟩
    have hi : ((s6 + r) % 26).toNat < LETS.cps.toList.length := by rw [lets_len]; omega
    unfold W2
    refine ((w2.cut _ _).app (Lt.one ?_)).app (w2.cut _ _)
    rw [List.getD_eq_getElem?_getD, List.getElem?_eq_getElem hi]
    exact List.getElem_mem hi
theorem vIxS_get {z : Str} {i : Int} {q : D → Prop} (h0 : 0 ≤ i) (h1 : i < z.length) (hz : z.length ≤ 10000000) (h : q (.str ⟨#[z.cps.toList.getD i.toNat 0]⟩)) : vIxS (.str z) (.int i) q := by
  have hl : z.length = z.cps.toList.length := by simp [Str.length]
  obtain ⟨k, rfl⟩ : ∃ k : Nat, i = k := ⟨i.toNat, by omega⟩
  have hk : k < z.cps.toList.length := by omega
  refine ⟨hz, ?_⟩
  rw [atI_nat (List.getElem?_eq_getElem hk)]
  have e : z.cps.toList.getD ((k : Int)).toNat 0 = z.cps.toList[k] := by
    rw [List.getD_eq_getElem?_getD, show ((k : Int)).toNat = k from rfl, List.getElem?_eq_getElem hk]
    rfl
  rw [e] at h
  exact h
theorem dS_snoc (f : Int → Str) (pre : List Int) (x : Int) : (pre.map f).map PyData.str ++ [.str (f x)] = ((pre ++ [x]).map f).map PyData.str := by simp
/-- a pair of letters amid a stem -/
def W3 (tl : Str) (sp s6 r : Int) : Str := cutS tl none (some sp) ++ (⟨#[LETS.cps.toList.getD ((s6 + r) / 26).toNat 0]⟩ ++ ⟨#[LETS.cps.toList.getD ((s6 + r) % 26).toNat 0]⟩) ++ cutS tl (some sp) none
theorem W3_len {tl : Str} {s6 sp r : Int} (p0 : 0 ≤ sp) (p1 : sp < tl.length + 1) : (W3 tl sp s6 r).length = tl.length + 2 := by
  have e : sp = ((sp.toNat : Nat) : Int) := by omega
  unfold W3
  rw [e, Str.length_append, Str.length_append, Str.length_append, len_cut_to (by omega), len_cut_from]
  show sp.toNat + (1 + 1) + (tl.length - sp.toNat) = tl.length + 2
  omega
theorem W3_nms {tl : Str} {s6 sp m : Int} (w2 : Lt tl) (w1 : tl.length ≤ 6) (p0 : 0 ≤ sp) (p1 : sp < tl.length + 1) (m0 : 0 ≤ m) (m1 : m ≤ 41) (s0 : 0 ≤ s6) (s1 : s6 < 600) : Nms m.toNat ((rg 0 m).map (W3 tl sp s6)) := by
  refine ⟨by rw [List.length_map, rg_length]; omega, ?_, fun x hx => ?_⟩
  · refine nodup_rg fun i j i0 i1 j0 j1 e => ?_
    have ec := congrArg (fun x => x.cps.toList) e
    have es : sp = ((sp.toNat : Nat) : Int) := by omega
    unfold W3 at ec
    simp only [app_cps] at ec
    rw [List.append_assoc, List.append_assoc (cutS tl none (some sp)).cps.toList] at ec
    have ec2 := List.append_cancel_left ec
    have ec3 := List.append_cancel_right ec2
    simp only [List.cons_append, List.nil_append, List.cons.injEq, and_true] at ec3
    obtain ⟨ea, eb⟩ := ec3
    have hi : ((s6 + i) % 26).toNat < LETS.cps.toList.length := by rw [lets_len]; omega
    have hj : ((s6 + j) % 26).toNat < LETS.cps.toList.length := by rw [lets_len]; omega
    have gi : ((s6 + i) / 26).toNat < LETS.cps.toList.length := by rw [lets_len]; omega
    have gj : ((s6 + j) / 26).toNat < LETS.cps.toList.length := by rw [lets_len]; omega
    rw [List.getD_eq_getElem?_getD, List.getD_eq_getElem?_getD, List.getElem?_eq_getElem hi, List.getElem?_eq_getElem hj] at eb
    rw [List.getD_eq_getElem?_getD, List.getD_eq_getElem?_getD, List.getElem?_eq_getElem gi, List.getElem?_eq_getElem gj] at ea
    have a1 := lets_inj hi hj eb
    have a2 := lets_inj gi gj ea
    omega
  · obtain ⟨r, hr, rfl⟩ := List.mem_map.mp hx
    obtain ⟨r0, r1⟩ := mem_rg.mp hr
    have ln := W3_len (s6 := s6) (r := r) p0 p1
    refine ⟨?_, by omega, by omega⟩
    have hi : ((s6 + r) % 26).toNat < LETS.cps.toList.length := by rw [lets_len]; omega
    have gi : ((s6 + r) / 26).toNat < LETS.cps.toList.length := by rw [lets_len]; omega
    unfold W3
    refine ((w2.cut _ _).app ((Lt.one ?_).app (Lt.one ?_))).app (w2.cut _ _)
    · rw [List.getD_eq_getElem?_getD, List.getElem?_eq_getElem gi]
      exact List.getElem_mem gi
    · rw [List.getD_eq_getElem?_getD, List.getElem?_eq_getElem hi]
      exact List.getElem_mem hi
theorem lets_small : ∀ c ∈ LETS.cps.toList, c < 0x110000 := by decide +kernel
theorem Lt.ok {x : Str} (h : Lt x) : PyData.strOk x = true := strOk_iff.mpr fun c m => lets_small c (h c m)
theorem not_before {xs : List Str} {k : Nat} {s : Str} (h : xs.Nodup) (e : xs[k]? = some s) : s ∉ xs.take k := fun m => by
  obtain ⟨hk, es⟩ := List.getElem?_eq_some_iff.mp e
  have a := List.take_append_drop k xs
  rw [List.drop_eq_getElem_cons hk, es] at a
  rw [← a] at h
  exact (List.nodup_append.mp h).2.2 s m s List.mem_cons_self rfl
mutual
def ckS (m : List (Key × D)) : Step → Prop
  | .nm x => (valM m (Sum.inr x : Key)).isSome = true
  | .long _ n ph => 0 ≤ n ∧ ckSs m ph
def ckSs (m : List (Key × D)) : List Step → Prop
  | [] => True
  | s :: ss => ckS m s ∧ ckSs m ss
end
theorem ck_mem {m : List (Key × D)} : ∀ {ph : List Step} {s : Step}, ckSs m ph → s ∈ ph → ckS m s
  | x :: ph, s, o, h => by
    unfold ckSs at o
    rcases List.mem_cons.mp h with rfl | h
    · exact o.1
    · exact ck_mem o.2 h
def lstM : Mng → Mng
  | .fx e => .fx (leastE e.1 e.2)
  | .ph l => .ph l
/-- the words are right, behind the names that are known -/
def okW : List Str → Rows → Prop
  | _, [] => True
  | ks, (x, m) :: rs => (x.length ≤ 8 ∧ isNm x = true ∧ x ∉ ks ∧ (∀ e, m = .fx e → Eff e ∧ e.2.length ≤ 1000000) ∧ (∀ l, m = .ph l → ckSs (ks.map fun y => (Sum.inr y, .bool true)) l ∧ dpSs l ≤ 20 ∧ G.wd (dM m) ≤ 1000000)) ∧ okW (ks ++ [x]) rs
def lstR (rs : Rows) : Rows := rs.map fun r => (r.1, lstM r.2)
theorem lstR_snoc (rs : Rows) (x : Str) (m : Mng) : (lstR (rs ++ [(x, m)])).map dRow = (lstR rs).map dRow ++ [dRow (x, lstM m)] := by
  simp [lstR]
/-- the words are of a size that can be copied -/
def rowsC (rs : Rows) : Prop := rs.length ≤ 100000 ∧ ∀ r ∈ rs, dpM r.2 ≤ 25 ∧ G.wd (dM r.2) ≤ 1000000
def Bw (W L : Int) (e : Int × List Int) : Prop := e.1 ≤ W ∧ (e.2.length : Int) ≤ L
mutual
/-- the names are known, the counts are small -/
def wfS (ks : List Str) : Step → Prop
  | .nm x => x ∈ ks
  | .long _ n ph => 0 ≤ n ∧ n ≤ 40 ∧ wfSs ks ph
def wfSs (ks : List Str) : List Step → Prop
  | [] => True
  | s :: ss => wfS ks s ∧ wfSs ks ss
end
mutual
/-- nothing outgrows the bounds on the way -/
def inS (W L : Int) (h : Held) : Step → Prop
  | .nm _ => True
  | .long u n ph => inSs W L h (0, []) ph ∧ (if u then Bw W L (underE (efL h (0, []) ph) n) else ∀ k : Nat, k ≤ n.toNat → Bw W L (powE (efL h (0, []) ph) k))
def inSs (W L : Int) (h : Held) : Int × List Int → List Step → Prop
  | _, [] => True
  | acc, s :: ss => inS W L h s ∧ Bw W L (joinE acc (efS h s)) ∧ inSs W L h (joinE acc (efS h s)) ss
end
theorem wf_mem {ks : List Str} : ∀ {ph : List Step} {s : Step}, wfSs ks ph → s ∈ ph → wfS ks s
  | x :: ph, s, o, h => by
    unfold wfSs at o
    rcases List.mem_cons.mp h with rfl | h
    · exact o.1
    · exact wf_mem o.2 h
theorem wf_of {ks : List Str} : ∀ {ph : List Step}, (∀ s ∈ ph, wfS ks s) → wfSs ks ph
  | [], _ => by unfold wfSs; exact True.intro
  | x :: ph, h => by
    unfold wfSs
    exact ⟨h x List.mem_cons_self, wf_of fun s m => h s (List.mem_cons_of_mem _ m)⟩
theorem inSs_nil {W L : Int} {h : Held} {acc : Int × List Int} : inSs W L h acc [] = True := by rw [inSs]
theorem inSs_cons {W L : Int} {h : Held} {acc : Int × List Int} {s : Step} {ss : List Step} : inSs W L h acc (s :: ss) = (inS W L h s ∧ Bw W L (joinE acc (efS h s)) ∧ inSs W L h (joinE acc (efS h s)) ss) := by rw [inSs]
theorem inSs_app {W L : Int} {h : Held} : ∀ {a b : List Step} {acc : Int × List Int}, inSs W L h acc (a ++ b) ↔ inSs W L h acc a ∧ inSs W L h (efL h acc a) b
  | [], b, acc => by
    rw [List.nil_append, inSs_nil, efL]
    simp
  | s :: a, b, acc => by
    rw [List.cons_append, inSs_cons, inSs_cons, efL, inSs_app]
    constructor
    · rintro ⟨h1, h2, h3, h4⟩
      exact ⟨⟨h1, h2, h3⟩, h4⟩
    · rintro ⟨⟨h1, h2, h3⟩, h4⟩
      exact ⟨h1, h2, h3, h4⟩
/-- held effects are sound and small -/
def HB (h : Held) : Prop := ∀ x ∈ h, Bd x.2
theorem look_mem : ∀ {h : Held} {x : Str} {e : Int × List Int}, h.lookup x = some e → (x, e) ∈ h
  | (y, f) :: h, x, e, q => by
    rw [List.lookup_cons] at q
    by_cases c : x = y
    · subst c
      simp at q
      exact q ▸ List.mem_cons_self
    · have c2 : (x == y) = false := by simpa using c
      rw [c2] at q
      exact List.mem_cons_of_mem _ (look_mem q)
theorem look_of : ∀ {h : Held} {x : Str}, x ∈ h.map (·.1) → ∃ e, h.lookup x = some e
  | (y, f) :: h, x, m => by
    rw [List.lookup_cons]
    by_cases c : x = y
    · subst c
      exact ⟨f, by simp⟩
    · have c2 : (x == y) = false := by simpa using c
      rw [c2]
      rw [List.map_cons] at m
      exact look_of ((List.mem_cons.mp m).resolve_left c)
mutual
theorem efS_eff {h : Held} (hb : HB h) : ∀ {s : Step}, wfS (h.map (·.1)) s → Eff (efS h s) ∧ Lst (efS h s)
  | .nm x, o => by
    unfold wfS at o
    obtain ⟨e, he⟩ := look_of o
    have b := hb _ (look_mem he)
    unfold efS
    rw [he]
    exact ⟨b.1, b.2.1⟩
  | .long u n ph, o => by
    unfold wfS at o
    obtain ⟨a, b⟩ := efL_eff hb o.2.2 eff0 lst0
    unfold efS
    cases u with
    | true =>
      rw [if_pos rfl]
      exact ⟨under_eff a o.1, under_lst a b o.1⟩
    | false =>
      rw [if_neg (by decide)]
      exact ⟨pow_eff a _, pow_lst _⟩
theorem efL_eff {h : Held} (hb : HB h) : ∀ {ph : List Step} {acc : Int × List Int}, wfSs (h.map (·.1)) ph → Eff acc → Lst acc → Eff (efL h acc ph) ∧ Lst (efL h acc ph)
  | [], acc, _, a, b => by
    unfold efL
    exact ⟨a, b⟩
  | s :: ss, acc, o, a, b => by
    unfold wfSs at o
    unfold efL
    exact efL_eff hb o.2 (join_eff a (efS_eff hb o.1).1) join_lst
end
theorem Bw0 {W L : Int} (hW : 0 ≤ W) (hL : 0 ≤ L) : Bw W L (0, []) := ⟨hW, by simpa using hL⟩
theorem inSs_bw {W L : Int} {h : Held} : ∀ {ph : List Step} {acc : Int × List Int}, Bw W L acc → inSs W L h acc ph → Bw W L (efL h acc ph)
  | [], acc, b, _ => by
    unfold efL
    exact b
  | s :: ss, acc, b, o => by
    unfold inSs at o
    unfold efL
    exact inSs_bw o.2.1 o.2.2
/-- what a long step comes to is within the bounds -/
theorem inS_bw {W L : Int} {h : Held} {u : Bool} {n : Int} {ph : List Step} (o : inS W L h (.long u n ph)) : Bw W L (efS h (.long u n ph)) := by
  unfold inS at o
  unfold efS
  cases u with
  | true =>
    rw [if_pos rfl] at o ⊢
    exact o.2
  | false =>
    rw [if_neg (by decide)] at o ⊢
    exact o.2 _ (Nat.le_refl _)
theorem Bd_of {W L : Int} {e : Int × List Int} (h1 : Eff e) (h2 : Lst e) (b : Bw W L e) (hW : W ≤ 60) (hL : L ≤ 60) : Bd e := ⟨h1, h2, by have := b.1; omega, by have := b.2; omega⟩
/-- how great a step with so much in it is -/
def gz : Nat → Nat
  | 0 => 1
  | k + 1 => 1 + 2 * gz k
theorem gz_mono : ∀ {a b : Nat}, a ≤ b → gz a ≤ gz b
  | a, 0, h => by rw [Nat.le_zero.mp h]; exact Nat.le_refl _
  | a, b + 1, h => by
    rcases Nat.lt_or_ge a (b + 1) with c | c
    · have := gz_mono (show a ≤ b by omega)
      show gz a ≤ 1 + 2 * gz b
      omega
    · rw [show a = b + 1 by omega]
      exact Nat.le_refl _
theorem gz_pos (k : Nat) : 1 ≤ gz k := gz_mono (a := 0) (Nat.zero_le k)
theorem sz_le {g : Nat} : ∀ {ph : List Step}, (∀ s ∈ ph, szS s ≤ g) → szSs ph ≤ ph.length * g
  | [], _ => by simp [szSs]
  | s :: ss, h => by
    have a := h s List.mem_cons_self
    have b := sz_le fun x m => h x (List.mem_cons_of_mem _ m)
    unfold szSs
    rw [List.length_cons, Nat.add_mul]
    omega
theorem dp_le {d : Nat} : ∀ {ph : List Step}, (∀ s ∈ ph, dpS s ≤ d) → dpSs ph ≤ d
  | [], _ => Nat.zero_le _
  | s :: ss, h => by
    have a := h s List.mem_cons_self
    have b := dp_le fun x m => h x (List.mem_cons_of_mem _ m)
    unfold dpSs
    omega
/-- drawn phrases -/
def Drw (ks : List Str) (m k : Nat) (ph : List Step) : Prop := wfSs ks ph ∧ dpSs ph ≤ k ∧ ph.length ≤ m ∧ ∀ s ∈ ph, szS s ≤ gz k
theorem Drw.nil {ks : List Str} {m k : Nat} : Drw ks m k [] := ⟨by unfold wfSs; exact True.intro, Nat.zero_le _, Nat.zero_le _, fun _ m => nomatch m⟩
theorem Drw.snoc {ks : List Str} {m k : Nat} {ph : List Step} {s : Step} (h : Drw ks m k ph) (w : wfS ks s) (d : dpS s ≤ k) (z : szS s ≤ gz k) : Drw ks (m + 1) k (ph ++ [s]) := by
  obtain ⟨h1, h2, h3, h4⟩ := h
  have mm : ∀ {x}, x ∈ ph ++ [s] → x ∈ ph ∨ x = s := fun {x} m => (List.mem_append.mp m).imp id List.mem_singleton.mp
  refine ⟨wf_of fun x m => ?_, dp_le fun x m => ?_, ?_, fun x m => ?_⟩
  · rcases mm m with m | rfl
    · exact wf_mem h1 m
    · exact w
  · rcases mm m with m | rfl
    · exact Nat.le_trans (dp_mem m) h2
    · exact d
  · rw [List.length_append, List.length_singleton]
    omega
  · rcases mm m with m | rfl
    · exact h4 x m
    · exact z
theorem Drw.mono {ks : List Str} {m m' k : Nat} {ph : List Step} (h : Drw ks m k ph) (hm : m ≤ m') : Drw ks m' k ph := ⟨h.1, h.2.1, by have := h.2.2.1; omega, h.2.2.2⟩
theorem dSteps_snoc (ph : List Step) (s : Step) : dSteps (ph ++ [s]) = dSteps ph ++ [dStep s] := by
  rw [dSteps_map, dSteps_map, List.map_append]
  rfl
theorem dSteps_len (ph : List Step) : (dSteps ph).length = ph.length := by rw [dSteps_map, List.length_map]
def efM (h : Held) : Mng → Int × List Int
  | .fx e => leastE e.1 e.2
  | .ph l => efL h (0, []) l
def okMg (W L : Int) (m k : Nat) (h : Held) : Mng → Prop
  | .fx e => Eff e ∧ Bw W L e
  | .ph l => Drw (h.map (·.1)) m k l ∧ inSs W L h (0, []) l
def heldR : Held → Rows → Held
  | h, [] => h
  | h, (x, m) :: rs => heldR (h ++ [(x, efM h m)]) rs
def okR (W L : Int) (m k : Nat) : Held → Rows → Prop
  | _, [] => True
  | h, (x, mm) :: rs => (Lt x ∧ 1 ≤ x.length ∧ x.length ≤ 8 ∧ x ∉ h.map (·.1)) ∧ okMg W L m k h mm ∧ okR W L m k (h ++ [(x, efM h mm)]) rs
theorem heldR_snoc (x : Str) (m : Mng) : ∀ (rs : Rows) (h : Held), heldR h (rs ++ [(x, m)]) = heldR h rs ++ [(x, efM (heldR h rs) m)]
  | [], h => rfl
  | (y, l) :: rs, h => by
    rw [List.cons_append]
    exact heldR_snoc x m rs _
theorem heldR_names : ∀ (rs : Rows) (h : Held), (heldR h rs).map (·.1) = h.map (·.1) ++ rs.map (·.1)
  | [], h => by simp [heldR]
  | (y, l) :: rs, h => by
    rw [heldR, heldR_names rs]
    simp
theorem okR_snoc {W L : Int} {m k : Nat} {x : Str} {mm : Mng} : ∀ {rs : Rows} {h : Held}, okR W L m k h rs → (Lt x ∧ 1 ≤ x.length ∧ x.length ≤ 8 ∧ x ∉ (heldR h rs).map (·.1)) → okMg W L m k (heldR h rs) mm → okR W L m k h (rs ++ [(x, mm)])
  | [], h, _, a, b => by
    unfold heldR at a b
    rw [List.nil_append]
    unfold okR
    exact ⟨a, b, by unfold okR; exact True.intro⟩
  | (y, l) :: rs, h, o, a, b => by
    rw [List.cons_append]
    unfold okR at o ⊢
    unfold heldR at a b
    exact ⟨o.1, o.2.1, okR_snoc o.2.2 a b⟩
theorem efM_bd {W L : Int} {m k : Nat} {h : Held} {mm : Mng} (hW : 0 ≤ W) (hL : 0 ≤ L) (hW2 : W ≤ 60) (hL2 : L ≤ 60) (hb : HB h) (o : okMg W L m k h mm) : Bd (efM h mm) := by
  cases mm with
  | fx e =>
    obtain ⟨n, gs⟩ := e
    obtain ⟨e1, b1, b2⟩ := o
    have l := leastE_ok e1
    refine ⟨l.eff, l.lst, ?_, ?_⟩
    · have := l.le
      have b1 : n ≤ W := b1
      show (leastE n gs).1 ≤ 60
      omega
    · have := l.len
      have b2 : (gs.length : Int) ≤ L := b2
      show (leastE n gs).2.length ≤ 60
      omega
  | ph l =>
    obtain ⟨d, i⟩ := o
    obtain ⟨a, b⟩ := efL_eff hb d.1 eff0 lst0
    exact Bd_of a b (inSs_bw (Bw0 hW hL) i) hW2 hL2
theorem HB_snoc {h : Held} {x : Str} {e : Int × List Int} (hb : HB h) (b : Bd e) : HB (h ++ [(x, e)]) := fun y m => by
  rcases List.mem_append.mp m with m | m
  · exact hb y m
  · rw [List.mem_singleton.mp m]
    exact b
theorem heldR_bd {W L : Int} {m k : Nat} (hW : 0 ≤ W) (hL : 0 ≤ L) (hW2 : W ≤ 60) (hL2 : L ≤ 60) : ∀ {rs : Rows} {h : Held}, HB h → okR W L m k h rs → HB (heldR h rs)
  | [], h, hb, _ => hb
  | (y, l) :: rs, h, hb, o => by
    unfold okR at o
    rw [heldR]
    exact heldR_bd hW hL hW2 hL2 (HB_snoc hb (efM_bd hW hL hW2 hL2 hb o.2.1)) o.2.2
theorem HB_nil : HB [] := fun _ m => nomatch m
theorem valM_heldN {h : Held} {x : Str} (hx : x ∉ h.map (·.1)) : valM (heldM h) (Sum.inr x : Key) = none := by
  rw [valM_none_mem]
  intro q hq
  obtain ⟨y, hy, rfl⟩ := List.mem_map.mp hq
  intro z
  injection z with z
  exact hx (z ▸ List.mem_map_of_mem hy)
mutual
/-- the names are known -/
def wgS (ks : List Str) : Step → Prop
  | .nm x => x ∈ ks
  | .long _ n ph => 0 ≤ n ∧ n ≤ 10 ^ 30 ∧ wgSs ks ph
def wgSs (ks : List Str) : List Step → Prop
  | [] => True
  | s :: ss => wgS ks s ∧ wgSs ks ss
end
mutual
theorem wg_of_wf {ks ls : List Str} (k : ∀ x ∈ ks, x ∈ ls) : ∀ {s : Step}, wfS ks s → wgS ls s
  | .nm x, h => by
    unfold wfS at h
    unfold wgS
    exact k x h
  | .long _ _ _, h => by
    unfold wfS at h
    unfold wgS
    exact ⟨h.1, by have := h.2.1; omega, wgs_of_wf k h.2.2⟩
theorem wgs_of_wf {ks ls : List Str} (k : ∀ x ∈ ks, x ∈ ls) : ∀ {ph : List Step}, wfSs ks ph → wgSs ls ph
  | [], _ => by unfold wgSs; exact True.intro
  | x :: ph, h => by
    unfold wfSs at h
    unfold wgSs
    exact ⟨wg_of_wf k h.1, wgs_of_wf k h.2⟩
end
mutual
theorem wgS_mono {ks ls : List Str} (k : ∀ x ∈ ks, x ∈ ls) : ∀ {s : Step}, wgS ks s → wgS ls s
  | .nm x, h => by
    unfold wgS at h ⊢
    exact k x h
  | .long _ _ _, h => by
    unfold wgS at h ⊢
    exact ⟨h.1, h.2.1, wgSs_mono k h.2.2⟩
theorem wgSs_mono {ks ls : List Str} (k : ∀ x ∈ ks, x ∈ ls) : ∀ {ph : List Step}, wgSs ks ph → wgSs ls ph
  | [], _ => by unfold wgSs; exact True.intro
  | x :: ph, h => by
    unfold wgSs at h ⊢
    exact ⟨wgS_mono k h.1, wgSs_mono k h.2⟩
end
theorem wg_nms {ks : List Str} : ∀ {xs : List Str}, (∀ x ∈ xs, x ∈ ks) → wgSs ks (xs.map Step.nm)
  | [], _ => by unfold wgSs; exact True.intro
  | x :: xs, h => by
    rw [List.map_cons]
    unfold wgSs wgS
    exact ⟨h x List.mem_cons_self, wg_nms fun y m => h y (List.mem_cons_of_mem _ m)⟩
theorem sz_nms : ∀ xs : List Str, szSs (xs.map Step.nm) = xs.length
  | [] => rfl
  | x :: xs => by
    rw [List.map_cons, szSs, szS, sz_nms xs, List.length_cons]
    omega
theorem dp_nms : ∀ xs : List Str, dpSs (xs.map Step.nm) = 0
  | [] => rfl
  | x :: xs => by
    rw [List.map_cons, dpSs, dpS, dp_nms xs]
    rfl
/-- a row's meaning, behind the names that are known -/
def okGd (ks : List Str) : Mng → Prop
  | .fx e => Eff e ∧ e.1 ≤ 60 ∧ e.2.length ≤ 60
  | .ph l => wgSs ks l ∧ dpSs l ≤ 5 ∧ szSs l ≤ 930
structure GoodR (rs : Rows) : Prop where
  len : rs.length ≤ 40
  nd : (rs.map (·.1)).Nodup
  nm : ∀ r ∈ rs, Lt r.1 ∧ 1 ≤ r.1.length ∧ r.1.length ≤ 8
  ok : ∀ pre r post, rs = pre ++ r :: post → okGd (pre.map (·.1)) r.2
theorem okG_mono {ks ls : List Str} (k : ∀ x ∈ ks, x ∈ ls) {m : Mng} (h : okGd ks m) : okGd ls m := by
  cases m with
  | fx e => exact h
  | ph l => exact ⟨wgSs_mono k h.1, h.2⟩
theorem gz4 {k : Nat} (h : k ≤ 4) : gz k ≤ 31 := gz_mono h
/-- drawn rows are good -/
theorem good_of {W L : Int} {st ne : Nat} (hW : W ≤ 60) (hL : L ≤ 60) (hs : st ≤ 30) (hn : ne ≤ 4) : ∀ {rs : Rows} {h : Held}, okR W L st ne h rs → (h.map (·.1)).Nodup → (∀ x ∈ rs.map (·.1), x ∉ h.map (·.1)) ∧ (rs.map (·.1)).Nodup ∧ (∀ r ∈ rs, Lt r.1 ∧ 1 ≤ r.1.length ∧ r.1.length ≤ 8) ∧ ∀ pre r post, rs = pre ++ r :: post → okGd (h.map (·.1) ++ pre.map (·.1)) r.2
  | [], h, _, nd => ⟨fun _ m => (nomatch m), List.nodup_nil, fun _ m => (nomatch m), fun pre r post e => by cases pre <;> cases e⟩
  | (x, m) :: rs, h, o, nd => by
    unfold okR at o
    obtain ⟨⟨a1, a2, a3, a4⟩, b, c⟩ := o
    have nd2 : ((h ++ [(x, efM h m)]).map (·.1)).Nodup := by
      rw [List.map_append]
      refine List.nodup_append.mpr ⟨nd, by simp, fun y my z mz e => ?_⟩
      simp only [List.map_cons, List.map_nil, List.mem_singleton] at mz
      subst mz e
      exact a4 my
    obtain ⟨i1, i2, i3, i4⟩ := good_of hW hL hs hn c nd2
    have i5 : ∀ y ∈ rs.map (·.1), y ∉ h.map (·.1) ∧ y ≠ x := fun y my => by
      have := i1 y my
      rw [List.map_append] at this
      exact ⟨fun z => this (List.mem_append_left _ z), fun z => this (List.mem_append_right _ (by rw [z]; simp))⟩
    refine ⟨fun y my => ?_, ?_, fun r mr => ?_, fun pre r post e => ?_⟩
    · rw [List.map_cons] at my
      rcases List.mem_cons.mp my with rfl | my
      · exact a4
      · exact (i5 y my).1
    · rw [List.map_cons]
      exact List.nodup_cons.mpr ⟨fun z => (i5 x z).2 rfl, i2⟩
    · rcases List.mem_cons.mp mr with rfl | mr
      · exact ⟨a1, a2, a3⟩
      · exact i3 r mr
    · cases pre with
      | nil =>
        cases e
        rw [List.map_nil, List.append_nil]
        cases m with
        | fx e => exact ⟨b.1, by have := b.2.1; omega, by have := b.2.2; omega⟩
        | ph l =>
          obtain ⟨d, _⟩ := b
          refine ⟨wgs_of_wf (fun _ z => z) d.1, by have := d.2.1; omega, ?_⟩
          have z1 := sz_le d.2.2.2
          have z2 := d.2.2.1
          have z3 := gz4 hn
          exact Nat.le_trans z1 (Nat.le_trans (Nat.mul_le_mul (show l.length ≤ 30 by omega) z3) (by decide))
      | cons p pre =>
        cases e
        have := i4 pre r post rfl
        rw [List.map_append, List.append_assoc] at this
        exact this
theorem good_rows {W L : Int} {st ne : Nat} {rs : Rows} (hW : W ≤ 60) (hL : L ≤ 60) (hs : st ≤ 30) (hn : ne ≤ 4) (hl : rs.length ≤ 40) (o : okR W L st ne [] rs) : GoodR rs := by
  obtain ⟨_, b, c, d⟩ := good_of hW hL hs hn o List.nodup_nil
  exact ⟨hl, b, c, fun pre r post e => by simpa using d pre r post e⟩
theorem valM_keys {ks : List Str} {x : Str} (h : x ∈ ks) : (valM (ks.map fun y => ((Sum.inr y : Key), PyData.bool true)) (Sum.inr x : Key)).isSome = true := by
  cases q : valM (ks.map fun y => ((Sum.inr y : Key), PyData.bool true)) (Sum.inr x : Key) with
  | some _ => rfl
  | none =>
    rw [valM_none_mem] at q
    exact absurd rfl (q _ (List.mem_map.mpr ⟨x, h, rfl⟩))
mutual
theorem ck_wg {ks : List Str} : ∀ {s : Step}, wgS ks s → ckS (ks.map fun y => (Sum.inr y, .bool true)) s
  | .nm x, h => by
    unfold wgS at h
    unfold ckS
    exact valM_keys h
  | .long _ _ _, h => by
    unfold wgS at h
    unfold ckS
    exact ⟨h.1, ck_wgs h.2.2⟩
theorem ck_wgs {ks : List Str} : ∀ {ph : List Step}, wgSs ks ph → ckSs (ks.map fun y => (Sum.inr y, .bool true)) ph
  | [], _ => by unfold ckSs; exact True.intro
  | x :: ph, h => by
    unfold wgSs at h
    unfold ckSs
    exact ⟨ck_wg h.1, ck_wgs h.2⟩
end
theorem wd_name {x : Str} (h : Lt x) (h8 : x.length ≤ 8) : G.wd (.str x) ≤ 82 := by
  have := StrLaws.reprText_len x fun c m => Nat.lt_trans (lets_small c (h c m)) (by decide)
  show (reprText x).length ≤ 82
  omega
theorem wd_word (u : Bool) : G.wd (wordD u) ≤ 7 := by cases u <;> decide +kernel
theorem wd_cnt {n : Int} (h0 : 0 ≤ n) (h1 : n ≤ 10 ^ 30) : G.wd (.int n) ≤ 102 := by
  have : n.natAbs.log2 < 100 := PySem.Flt.log2_lt_of (by decide) (by omega)
  simp only [G.wd]
  omega
mutual
theorem wd_step {ks : List Str} (kn : ∀ x ∈ ks, Lt x ∧ x.length ≤ 8) : ∀ {s : Step}, wgS ks s → G.wd (dStep s) + 2 ≤ 125 * szS s
  | .nm x, h => by
    unfold wgS at h
    unfold dStep szS
    have := wd_name (kn x h).1 (kn x h).2
    omega
  | .long u n ph, h => by
    unfold wgS at h
    have a := wd_steps kn h.2.2
    have b := wd_word u
    have c := wd_cnt h.1 h.2.1
    unfold dStep szS
    simp only [G.wd, G.wds] at c ⊢
    omega
theorem wd_steps {ks : List Str} (kn : ∀ x ∈ ks, Lt x ∧ x.length ≤ 8) : ∀ {ph : List Step}, wgSs ks ph → G.wds (dSteps ph) ≤ 125 * szSs ph
  | [], _ => by simp [dSteps, szSs, G.wds]
  | x :: ph, h => by
    unfold wgSs at h
    have a := wd_step kn h.1
    have b := wd_steps kn h.2
    unfold dSteps szSs
    simp only [G.wds]
    omega
end
mutual
theorem nl_step : ∀ s : Step, G.nl (dStep s) ≤ szS s
  | .nm x => by
    unfold dStep szS
    simp [G.nl]
  | .long u n ph => by
    have a := nl_steps ph
    unfold dStep szS wordD
    simp only [G.nl, G.nls]
    omega
theorem nl_steps : ∀ ph : List Step, G.nls (dSteps ph) ≤ szSs ph
  | [] => by simp [dSteps, szSs, G.nls]
  | x :: ph => by
    have a := nl_step x
    have b := nl_steps ph
    unfold dSteps szSs
    simp only [G.nls]
    omega
end
theorem sh_steps {ks : List Str} : ∀ {ph : List Step}, wgSs ks ph → PyData.showableAll (dSteps ph) = true
  | [], _ => by simp [dSteps, PyData.showableAll]
  | .nm x :: ph, h => by
    unfold wgSs at h
    have b := sh_steps h.2
    unfold dSteps dStep
    simp only [PyData.showableAll, PyData.showable, b, Bool.and_true]
  | .long u n l :: ph, h => by
    unfold wgSs wgS at h
    have b := sh_steps h.2
    have c := sh_steps h.1.2.2
    have i := (sh_int (i := n) (by have := h.1.1; have := h.1.2.1; omega)).sh
    unfold dSteps dStep wordD
    simp only [PyData.showableAll, PyData.showable, b, c, Bool.and_true, Bool.true_and] at i ⊢
    exact i
theorem sh_M {ks : List Str} (kn : ∀ x ∈ ks, Lt x ∧ x.length ≤ 8) {m : Mng} (h : okGd ks m) : Sh 12 116253 (dM m) ∧ G.nl (dM m) ≤ 931 := by
  cases m with
  | fx e =>
    obtain ⟨e1, e2, e3⟩ := h
    have n0 := e1.nn
    constructor
    · have hi : ∀ x ∈ e.2, x.natAbs < 2 ^ 200 := fun x mx => by
        have a := e1.le x mx
        have b := e1.ge x mx
        omega
      refine (sh_tuple (k := 2) (B := 12423) (n := 2) (fun d mm => ?_) (by simp)).mono (by omega) (by omega)
      rcases List.mem_cons.mp mm with rfl | mm
      · exact (sh_int (by omega)).mono (by omega) (by omega)
      · rcases List.mem_cons.mp mm with rfl | mm
        · exact (sh_ints hi e3).mono (by omega) (by omega)
        · cases mm
    · show G.nls [_, _] ≤ 931
      simp only [G.nls, G.nl, nls_ints]
      omega
  | ph l =>
    obtain ⟨a, b, c⟩ := h
    have w := wd_steps kn a
    have d := dp_steps l
    have n := nl_steps l
    refine ⟨⟨?_, ?_, ?_⟩, ?_⟩
    · show PyData.showable (.list (dSteps l)) = true
      simp only [PyData.showable]
      exact sh_steps a
    · show PyData.depth (.list (dSteps l)) ≤ 12
      simp only [PyData.depth]
      omega
    · show G.wd (.list (dSteps l)) ≤ 116253
      simp only [G.wd]
      omega
    · show G.nl (.list (dSteps l)) ≤ 931
      simp only [G.nl]
      omega
theorem GoodR.names {rs pre post : Rows} {r : Str × Mng} (g : GoodR rs) (e : rs = pre ++ r :: post) : ∀ x ∈ pre.map (·.1), Lt x ∧ x.length ≤ 8 := fun x m => by
  obtain ⟨q, mq, rfl⟩ := List.mem_map.mp m
  have := g.nm q (e ▸ List.mem_append_left _ mq)
  exact ⟨this.1, this.2.2⟩
theorem GoodR.okM {rs : Rows} (g : GoodR rs) {r : Str × Mng} (m : r ∈ rs) : ∃ ks, (∀ x ∈ ks, Lt x ∧ x.length ≤ 8) ∧ okGd ks r.2 := by
  obtain ⟨pre, post, e⟩ := List.append_of_mem m
  exact ⟨_, g.names e, g.ok pre r post e⟩
theorem GoodR.row {rs : Rows} (g : GoodR rs) {r : Str × Mng} (m : r ∈ rs) : Sh 13 116342 (dRow r) ∧ G.nl (dRow r) ≤ 931 := by
  obtain ⟨ks, kn, o⟩ := g.okM m
  obtain ⟨s, n⟩ := sh_M kn o
  have h := g.nm r m
  have w := wd_name h.1 h.2.2
  have w2 := s.wd
  have d := s.dp
  refine ⟨⟨?_, ?_, ?_⟩, ?_⟩
  · unfold dRow
    simp only [PyData.showable, PyData.showableAll, s.sh, Bool.and_true]
  · unfold dRow
    simp only [PyData.depth, PyData.depthAll]
    omega
  · unfold dRow
    simp only [G.wd, G.wds] at w ⊢
    omega
  · unfold dRow
    simp only [G.nl, G.nls]
    omega
theorem GoodR.rows {rs : Rows} (g : GoodR rs) : Sh 14 4653763 (dRows rs) ∧ G.nl (dRows rs) ≤ 37241 := by
  constructor
  · refine sh_list (k := 13) (B := 116342) (n := 40) (fun d m => ?_) (by rw [List.length_map]; exact g.len)
    obtain ⟨r, mr, rfl⟩ := List.mem_map.mp m
    exact (g.row mr).1
  · have : ∀ ds : List D, (∀ d ∈ ds, G.nl d ≤ 931) → G.nls ds ≤ 931 * ds.length := fun ds => by
      induction ds with
      | nil => intro _; exact Nat.le_refl _
      | cons d ds ih =>
        intro h
        have a := h d List.mem_cons_self
        have b := ih fun x m => h x (List.mem_cons_of_mem _ m)
        simp only [G.nls, List.length_cons]
        omega
    have a := this (rs.map dRow) fun d m => by
      obtain ⟨r, mr, rfl⟩ := List.mem_map.mp m
      exact (g.row mr).2
    rw [List.length_map] at a
    have := g.len
    show G.nls (rs.map dRow) + 1 ≤ 37241
    omega
theorem GoodR.rc {rs : Rows} (g : GoodR rs) : rowsC rs := ⟨by have := g.len; omega, fun r m => by
  obtain ⟨ks, kn, o⟩ := g.okM m
  obtain ⟨s, n⟩ := sh_M kn o
  refine ⟨?_, by have := s.wd; omega⟩
  cases hr : r.2 with
  | fx e => exact Nat.zero_le _
  | ph l =>
    rw [hr] at o
    have := o.2.1
    show dpSs l ≤ 25
    omega⟩
theorem good_okW {rs : Rows} (g : GoodR rs) : okW [] rs := by
  have key : ∀ (post pre : Rows), rs = pre ++ post → okW (pre.map (·.1)) post := fun post => by
    induction post with
    | nil => intro pre _; unfold okW; exact True.intro
    | cons r post ih =>
      intro pre e
      obtain ⟨x, m⟩ := r
      have mr : (x, m) ∈ rs := e ▸ List.mem_append_right _ List.mem_cons_self
      have h := g.nm _ mr
      have o := g.ok pre _ post e
      have kn := g.names e
      have nd := g.nd
      rw [e, List.map_append, List.map_cons] at nd
      have nx : x ∉ pre.map (·.1) := fun z => (List.nodup_append.mp nd).2.2 x z x List.mem_cons_self rfl
      unfold okW
      refine ⟨⟨h.2.2, isNm_of h.1 h.2.1 h.2.2, nx, fun f hf => ?_, fun l hl => ?_⟩, ?_⟩
      · subst hf
        exact ⟨o.1, by have := o.2.2; omega⟩
      · subst hl
        have w : G.wd (dM (.ph l)) ≤ 116253 := (sh_M kn o).1.wd
        exact ⟨ck_wgs o.1, by have := o.2.1; omega, by omega⟩
      · have := ih (pre ++ [(x, m)]) (by rw [e]; simp)
        rw [List.map_append] at this
        exact this
  exact key rs [] rfl
theorem hd_rows (rs : Rows) : PyData.hasDictAll (rs.map dRow) = false := by
  induction rs with
  | nil => rfl
  | cons r rs ih =>
    rw [List.map_cons]
    simp only [PyData.hasDictAll, ih, Bool.or_false]
    unfold dRow
    simp only [PyData.hasDict, PyData.hasDictAll, hd_M, Bool.or_false]
theorem lst_idem {n : Int} {gs : List Int} (h : Eff (n, gs)) : leastE (leastE n gs).1 (leastE n gs).2 = leastE n gs := (leastE_ok h).lst
theorem okG_lst {ks : List Str} {m : Mng} (o : okGd ks m) : okGd ks (lstM m) := by
  cases m with
  | fx e =>
    have l := leastE_ok (n := e.1) (gs := e.2) o.1
    exact ⟨l.eff, by have := l.le; have := o.2.1; show (leastE e.1 e.2).1 ≤ 60; omega, by have := l.len; have := o.2.2; show (leastE e.1 e.2).2.length ≤ 60; omega⟩
  | ph l => exact o
theorem GoodR.lst {rs : Rows} (g : GoodR rs) : GoodR (lstR rs) := by
  have nm : ∀ qs : Rows, (lstR qs).map (·.1) = qs.map (·.1) := fun qs => by simp [lstR]
  refine ⟨by unfold lstR; rw [List.length_map]; exact g.len, by rw [nm]; exact g.nd, fun r m => ?_, fun pre r post e => ?_⟩
  · obtain ⟨q, mq, rfl⟩ := List.mem_map.mp m
    exact g.nm q mq
  · obtain ⟨p1, p2, rfl, e1, e2⟩ := List.map_eq_append_iff.mp e
    obtain ⟨q, p3, rfl, rfl, rfl⟩ := List.map_eq_cons_iff.mp e2
    have o := g.ok p1 q p3 rfl
    rw [← e1, show (List.map (fun r => (r.1, lstM r.2)) p1) = lstR p1 from rfl, nm]
    cases hq : q.2 with
    | fx e =>
      rw [hq] at o
      have l := leastE_ok (n := e.1) (gs := e.2) o.1
      exact ⟨l.eff, by have := l.le; have := o.2.1; show (leastE e.1 e.2).1 ≤ 60; omega, by have := l.len; have := o.2.2; show (leastE e.1 e.2).2.length ≤ 60; omega⟩
    | ph l =>
      rw [hq] at o
      exact o
theorem GoodR.lst2 {rs : Rows} (g : GoodR rs) : lstR (lstR rs) = lstR rs := by
  unfold lstR
  rw [List.map_map]
  refine List.map_congr_left fun r m => ?_
  obtain ⟨ks, _, o⟩ := g.okM m
  obtain ⟨x, mm⟩ := r
  show (x, lstM (lstM mm)) = (x, lstM mm)
  congr 1
  cases mm with
  | fx e => exact congrArg Mng.fx (lst_idem o.1)
  | ph l => rfl
theorem GoodR.ins {hs : Rows} (g : GoodR hs) {y : Str} {m : Mng} {k : Nat} (hl : hs.length < 40) (hy : y ∉ hs.map (·.1)) (yn : Lt y ∧ 1 ≤ y.length ∧ y.length ≤ 8) (o : okGd ((hs.take k).map (·.1)) m) : GoodR (hs.take k ++ (y, m) :: hs.drop k) := by
  have tk := List.take_append_drop k hs
  obtain ⟨a, ha⟩ : ∃ a, hs.take k = a := ⟨_, rfl⟩
  obtain ⟨b, hb⟩ : ∃ b, hs.drop k = b := ⟨_, rfl⟩
  rw [ha] at o tk ⊢
  rw [hb] at tk ⊢
  subst tk
  have nd := g.nd
  rw [List.map_append] at nd hy
  have nd1 := List.nodup_append.mp nd
  refine ⟨?_, ?_, fun r mr => ?_, fun pre r post e => ?_⟩
  · rw [List.length_append] at hl ⊢
    rw [List.length_cons]
    omega
  · rw [List.map_append, List.map_cons]
    refine List.nodup_append.mpr ⟨nd1.1, List.nodup_cons.mpr ⟨fun z => hy (List.mem_append_right _ z), nd1.2.1⟩, fun x mx z mz e => ?_⟩
    rcases List.mem_cons.mp mz with rfl | mz
    · subst e
      exact hy (List.mem_append_left _ mx)
    · exact nd1.2.2 x mx z mz e
  · rcases List.mem_append.mp mr with mr | mr
    · exact g.nm r (List.mem_append_left _ mr)
    · rcases List.mem_cons.mp mr with rfl | mr
      · exact yn
      · exact g.nm r (List.mem_append_right _ mr)
  · rcases List.append_eq_append_iff.mp e with ⟨c, rfl, e2⟩ | ⟨c, rfl, e2⟩
    · cases c with
      | nil =>
        cases e2
        rw [List.append_nil]
        exact o
      | cons x c =>
        cases e2
        have := g.ok (a ++ c) r post (by simp)
        refine okG_mono (fun z mz => ?_) this
        rw [List.map_append] at mz ⊢
        rcases List.mem_append.mp mz with mz | mz
        · exact List.mem_append_left _ mz
        · exact List.mem_append_right _ (List.mem_cons_of_mem _ mz)
    · cases c with
      | nil =>
        cases e2
        rw [List.append_nil] at o
        exact o
      | cons x c =>
        cases e2
        exact g.ok pre r (c ++ b) (by simp)
/-- the names of what is huge -/
abbrev HUGE : List Str := [("q" : String), ("qq" : String), ("qqq" : String), ("qqqqq" : String)]
theorem huge_ok : ∀ x ∈ HUGE, Lt x ∧ 1 ≤ x.length ∧ x.length ≤ 8 := by
  have : ∀ x ∈ HUGE, (∀ c ∈ x.cps.toList, c ∈ LETS.cps.toList) ∧ 1 ≤ x.length ∧ x.length ≤ 8 := by decide +kernel
  exact this
theorem lstR_names (rs : Rows) : (lstR rs).map (·.1) = rs.map (·.1) := by simp [lstR]
theorem lstR_len (rs : Rows) : (lstR rs).length = rs.length := by simp [lstR]
/-- what a book shows -/
abbrev shownD (rs : Rows) : D := .list [dRows rs, dS (rs.map (·.1)), .int rs.length]
theorem GoodR.nms {rs : Rows} (g : GoodR rs) : Sh 2 3443 (dS (rs.map (·.1))) := by
  refine (sh_list (k := 1) (B := 82) (n := 40) (fun d m => ?_) (by rw [List.length_map, List.length_map]; exact g.len)).mono (by omega) (by omega)
  obtain ⟨x, mx, rfl⟩ := List.mem_map.mp m
  obtain ⟨r, mr, rfl⟩ := List.mem_map.mp mx
  have h := g.nm r mr
  exact ⟨by simp [PyData.showable], by simp [PyData.depth], wd_name h.1 h.2.2⟩
theorem GoodR.shown {rs : Rows} (g : GoodR rs) : Sh 15 4660000 (shownD rs) ∧ G.nl (shownD rs) ≤ 37243 := by
  obtain ⟨a, n⟩ := g.rows
  have b := g.nms
  have c := sh_int (i := (rs.length : Int)) (by have := g.len; omega)
  have a2 := a.wd
  have b2 := b.wd
  have c2 := c.wd
  have a3 := a.dp
  have b3 := b.dp
  have c3 := c.dp
  have ns : G.nl (dS (rs.map (·.1))) = 1 := by
    show G.nls _ + 1 = 1
    have : ∀ ss : List Str, G.nls (ss.map PyData.str) = 0 := fun ss => by
      induction ss with
      | nil => rfl
      | cons s ss ih => rw [List.map_cons]; simp only [G.nls, ih, G.nl]
    rw [this]
  refine ⟨⟨?_, ?_, ?_⟩, ?_⟩
  · show PyData.showable (.list _) = true
    rw [PyData.showable]
    simp only [PyData.showableAll, a.sh, b.sh, c.sh, Bool.and_true]
  · show PyData.depth (.list _) ≤ 15
    rw [PyData.depth]
    simp only [PyData.depthAll]
    omega
  · show G.wd (.list _) ≤ 4660000
    rw [G.wd]
    simp only [G.wds]
    omega
  · show G.nl (.list _) ≤ 37243
    rw [G.nl]
    simp only [G.nls, ns]
    have : G.nl (.int (rs.length : Int)) = 0 := rfl
    omega
mutual
theorem lay_step {ks : List Str} (kn : ∀ x ∈ ks, Lt x) : ∀ {s : Step}, wgS ks s → PyData.canLay0 (dStep s) = true
  | .nm x, h => by
    unfold wgS at h
    unfold dStep
    simp only [PyData.canLay0, (kn x h).ok]
  | .long u n ph, h => by
    unfold wgS at h
    have a := lay_steps kn h.2.2
    have b : PyData.canLay0 (wordD u) = true := by cases u <;> decide +kernel
    unfold dStep
    simp only [PyData.canLay0, PyData.canLayAll0, a, b, Bool.and_true]
theorem lay_steps {ks : List Str} (kn : ∀ x ∈ ks, Lt x) : ∀ {ph : List Step}, wgSs ks ph → PyData.canLayAll0 (dSteps ph) = true
  | [], _ => by simp [dSteps, PyData.canLayAll0]
  | s :: ss, h => by
    unfold wgSs at h
    have a := lay_step kn h.1
    have b := lay_steps kn h.2
    unfold dSteps
    simp only [PyData.canLayAll0, a, b, Bool.and_true]
end
theorem GoodR.shaped {rs : Rows} (g : GoodR rs) : SeqAt.shaped (dRows rs) = true := by
  have d := g.rows.1.dp
  have l : PyData.canLayAll0 (rs.map dRow) = true := by
    have key : ∀ qs : Rows, (∀ r ∈ qs, r ∈ rs) → PyData.canLayAll0 (qs.map dRow) = true := fun qs => by
      induction qs with
      | nil => intro _; rfl
      | cons r qs ih =>
        intro h
        have mr := h r List.mem_cons_self
        obtain ⟨ks, kn, o⟩ := g.okM mr
        have n := (g.nm r mr).1.ok
        have lm : PyData.canLay0 (dM r.2) = true := by
          cases hm : r.2 with
          | fx e => exact SeqAt.canLay_of_shaped (shaped_dE e)
          | ph l =>
            rw [hm] at o
            have := lay_steps (fun x m => (kn x m).1) o.1
            show PyData.canLay0 (.list (dSteps l)) = true
            simp only [PyData.canLay0, this]
        rw [List.map_cons]
        simp only [PyData.canLayAll0, ih fun x m => h x (List.mem_cons_of_mem _ m), Bool.and_true]
        unfold dRow
        simp only [PyData.canLay0, PyData.canLayAll0, n, lm, Bool.and_true]
    exact key rs fun _ m => m
  unfold SeqAt.shaped
  rw [Bool.and_eq_true]
  exact ⟨by simp only [PyData.canLay0, l], decide_eq_true (by omega)⟩
theorem dSteps_nms : ∀ xs : List Str, dSteps (xs.map Step.nm) = xs.map PyData.str
  | [] => rfl
  | x :: xs => by rw [List.map_cons, dSteps, dStep, dSteps_nms xs, List.map_cons]
/-- a huge meaning -/
def hugeM (c : Int) (ys : List Str) : Mng := .ph [.long false (10 ^ 30 - c) (ys.map Step.nm), .long true (10 ^ 30) []]
theorem huge_row (x : Str) (c : Int) (ys : List Str) : dRow (x, hugeM c ys) = .tuple [.str x, .list [.tuple [.str ("times" : String), .int (10 ^ 30 - c), dS ys], .tuple [.str ("under" : String), .int (10 ^ 30), .list []]]] := by
  show PyData.tuple [.str x, .list (dSteps _)] = _
  rw [dSteps, dSteps, dSteps, dStep, dStep, dSteps_nms, dSteps]
  rfl
theorem huge_okG {nk ys : List Str} {c : Int} (c0 : 0 ≤ c) (c1 : c < 9) (hy : ∀ y ∈ ys, y ∈ nk) (yl : ys.length ≤ 8) : okGd nk (hugeM c ys) := by
  refine ⟨?_, ?_, ?_⟩
  · unfold wgSs wgSs wgSs wgS
    exact ⟨⟨by omega, by omega, wg_nms hy⟩, ⟨by decide, by decide, by unfold wgSs; exact True.intro⟩, True.intro⟩
  · simp only [dpSs, dpS, dp_nms]
    decide
  · simp only [szSs, szS, sz_nms]
    omega
def topS (i : Nat) : Stmt := PySem.Challenge.pw_pileshifts_k14_books_keep_words.main.body.getD i (.Pass ⟨0, 0, 0, 0⟩)
abbrev s_is_effect : Stmt := topS 9
abbrev N_is_effect : List Str := ["one", "needs", "gives", "spot"]
theorem sc_is_effect : FnScope N_is_effect ["one"] (defScope s_is_effect) := ⟨rfl, rfl, rfl, by decide +kernel, rfl, by decide +kernel, by decide +kernel⟩
abbrev s_least_of : Stmt := topS 10
abbrev N_least_of : List Str := ["needs", "gives", "tops", "spot", "size"]
theorem sc_least_of : FnScope N_least_of ["needs", "gives"] (defScope s_least_of) := ⟨rfl, rfl, rfl, by decide +kernel, rfl, by decide +kernel, by decide +kernel⟩
abbrev s_checked : Stmt := topS 11
abbrev N_checked : List Str := ["one", "needs", "gives"]
theorem sc_checked : FnScope N_checked ["one"] (defScope s_checked) := ⟨rfl, rfl, rfl, by decide +kernel, rfl, by decide +kernel, by decide +kernel⟩
abbrev s_join_of : Stmt := topS 12
abbrev s_under_of : Stmt := topS 13
abbrev s_power_of : Stmt := topS 14
abbrev s_is_name : Stmt := topS 18
abbrev N_is_name : List Str := ["name", "sign"]
theorem sc_is_name : FnScope N_is_name ["name"] (defScope s_is_name) := ⟨rfl, rfl, rfl, by decide +kernel, rfl, by decide +kernel, by decide +kernel⟩
abbrev s_copy_of : Stmt := topS 19
abbrev N_copy_of : List Str := ["thing", "inner"]
theorem sc_copy_of : FnScope N_copy_of ["thing"] (defScope s_copy_of) := ⟨rfl, rfl, rfl, by decide +kernel, rfl, by decide +kernel, by decide +kernel⟩
abbrev s_is_long_step : Stmt := topS 20
abbrev N_is_long_step : List Str := ["step"]
theorem sc_is_long_step : FnScope N_is_long_step ["step"] (defScope s_is_long_step) := ⟨rfl, rfl, rfl, by decide +kernel, rfl, by decide +kernel, by decide +kernel⟩
abbrev s_check_phrase : Stmt := topS 21
abbrev N_check_phrase : List Str := ["phrase", "known", "step"]
theorem sc_check_phrase : FnScope N_check_phrase ["phrase", "known"] (defScope s_check_phrase) := ⟨rfl, rfl, rfl, by decide +kernel, rfl, by decide +kernel, by decide +kernel⟩
abbrev s_names_in : Stmt := topS 22
abbrev s_phrase_effect : Stmt := topS 24
abbrev s_step_effect : Stmt := topS 23
abbrev s_Book___init__ : Stmt := inClass (topS 25) 0
abbrev N_Book___init__ : List Str := ["self", "words", "known", "name", "meaning"]
theorem sc_Book___init__ : FnScope N_Book___init__ ["self", "words"] (defScope s_Book___init__) := ⟨rfl, rfl, rfl, by decide +kernel, rfl, by decide +kernel, by decide +kernel⟩
abbrev s_Book_words : Stmt := inClass (topS 25) 1
abbrev N_Book_words : List Str := ["self", "name", "meaning"]
theorem sc_Book_words : FnScope N_Book_words ["self"] (defScope s_Book_words) := ⟨rfl, rfl, rfl, by decide +kernel, rfl, by decide +kernel, by decide +kernel⟩
abbrev s_Book_names : Stmt := inClass (topS 25) 2
abbrev N_Book_names : List Str := ["self", "name", "meaning"]
theorem sc_Book_names : FnScope N_Book_names ["self"] (defScope s_Book_names) := ⟨rfl, rfl, rfl, by decide +kernel, rfl, by decide +kernel, by decide +kernel⟩
abbrev s_Book_effects_held : Stmt := inClass (topS 25) 3
abbrev s_Book_effect : Stmt := inClass (topS 25) 4
abbrev s_Book___len__ : Stmt := inClass (topS 25) 7
abbrev N_Book___len__ : List Str := ["self"]
theorem sc_Book___len__ : FnScope N_Book___len__ ["self"] (defScope s_Book___len__) := ⟨rfl, rfl, rfl, by decide +kernel, rfl, by decide +kernel, by decide +kernel⟩
abbrev s_Book___eq__ : Stmt := inClass (topS 25) 8
abbrev N_Book___eq__ : List Str := ["self", "other"]
theorem sc_Book___eq__ : FnScope N_Book___eq__ ["self", "other"] (defScope s_Book___eq__) := ⟨rfl, rfl, rfl, by decide +kernel, rfl, by decide +kernel, by decide +kernel⟩
abbrev s__law_coin : Stmt := topS 27
abbrev N__law_coin : List Str := ["_law_purse", "_law_many", "_law_drawn", "_law_stirred"]
theorem sc__law_coin : FnScope N__law_coin ["_law_purse", "_law_many"] (defScope s__law_coin) := ⟨rfl, rfl, rfl, by decide +kernel, rfl, by decide +kernel, by decide +kernel⟩
abbrev s__law_words : Stmt := topS 28
abbrev N__law_words : List Str := ["_law_purse", "_law_many", "_law_letters", "_law_sort_here", "_law_menu", "_law_stem", "_law_start", "_law_rank", "_law_found", "_law_size", "_law_base", "_law_word", "_law_tail", "_law_spot_here", "_law_letter_here", "_law_turn"]
theorem sc__law_words : FnScope N__law_words ["_law_purse", "_law_many"] (defScope s__law_words) := ⟨rfl, rfl, rfl, by decide +kernel, rfl, by decide +kernel, by decide +kernel⟩
abbrev s__law_copied : Stmt := topS 29
abbrev N__law_copied : List Str := ["_law_thing", "_law_one"]
theorem sc__law_copied : FnScope N__law_copied ["_law_thing"] (defScope s__law_copied) := ⟨rfl, rfl, rfl, by decide +kernel, rfl, by decide +kernel, by decide +kernel⟩
abbrev s__law_ps_sack : Stmt := topS 30
abbrev N__law_ps_sack : List Str := ["_law_script", "_law_rank", "_law_cell"]
theorem sc__law_ps_sack : FnScope N__law_ps_sack ["_law_script", "_law_rank"] (defScope s__law_ps_sack) := ⟨rfl, rfl, rfl, by decide +kernel, rfl, by decide +kernel, by decide +kernel⟩
abbrev s__law_ps_least : Stmt := topS 31
abbrev N__law_ps_least : List Str := ["_law_takes", "_law_puts", "_law_size", "_law_turn"]
theorem sc__law_ps_least : FnScope N__law_ps_least ["_law_takes", "_law_puts"] (defScope s__law_ps_least) := ⟨rfl, rfl, rfl, by decide +kernel, rfl, by decide +kernel, by decide +kernel⟩
abbrev s__law_ps_order : Stmt := topS 32
abbrev N__law_ps_order : List Str := ["_law_sack", "_law_takes", "_law_pool", "_law_puts", "_law_turn"]
theorem sc__law_ps_order : FnScope N__law_ps_order ["_law_sack", "_law_takes"] (defScope s__law_ps_order) := ⟨rfl, rfl, rfl, by decide +kernel, rfl, by decide +kernel, by decide +kernel⟩
abbrev s__law_ps_drawn : Stmt := topS 33
abbrev N__law_ps_drawn : List Str := ["_law_sack", "_law_deep", "_law_most", "_law_sort_here", "_law_takes", "_law_menu", "_law_fx", "_law_puts", "_law_rank", "_law_upper", "_law_size", "_law_turn"]
theorem sc__law_ps_drawn : FnScope N__law_ps_drawn ["_law_sack", "_law_deep", "_law_most"] (defScope s__law_ps_drawn) := ⟨rfl, rfl, rfl, by decide +kernel, rfl, by decide +kernel, by decide +kernel⟩
abbrev s__law_ps_do : Stmt := topS 34
abbrev N__law_ps_do : List Str := ["_law_fx", "_law_heap", "_law_rank"]
theorem sc__law_ps_do : FnScope N__law_ps_do ["_law_fx", "_law_heap"] (defScope s__law_ps_do) := ⟨rfl, rfl, rfl, by decide +kernel, rfl, by decide +kernel, by decide +kernel⟩
abbrev s__law_ps_both : Stmt := topS 35
abbrev N__law_ps_both : List Str := ["_law_fx", "_law_gx", "_law_deep"]
theorem sc__law_ps_both : FnScope N__law_ps_both ["_law_fx", "_law_gx"] (defScope s__law_ps_both) := ⟨rfl, rfl, rfl, by decide +kernel, rfl, by decide +kernel, by decide +kernel⟩
abbrev s__law_ps_beneath : Stmt := topS 36
abbrev N__law_ps_beneath : List Str := ["_law_fx", "_law_count_here", "_law_deep", "_law_heap"]
theorem sc__law_ps_beneath : FnScope N__law_ps_beneath ["_law_fx", "_law_count_here"] (defScope s__law_ps_beneath) := ⟨rfl, rfl, rfl, by decide +kernel, rfl, by decide +kernel, by decide +kernel⟩
abbrev s__law_ps_same : Stmt := topS 37
abbrev N__law_ps_same : List Str := ["_law_told", "_law_due"]
theorem sc__law_ps_same : FnScope N__law_ps_same ["_law_told", "_law_due"] (defScope s__law_ps_same) := ⟨rfl, rfl, rfl, by decide +kernel, rfl, by decide +kernel, by decide +kernel⟩
abbrev s__law_ps_spoil : Stmt := topS 38
abbrev N__law_ps_spoil : List Str := ["_law_thing", "_law_tally", "_law_inner"]
theorem sc__law_ps_spoil : FnScope N__law_ps_spoil ["_law_thing", "_law_tally"] (defScope s__law_ps_spoil) := ⟨rfl, rfl, rfl, by decide +kernel, rfl, by decide +kernel, by decide +kernel⟩
abbrev s__law_ps_alone : Stmt := topS 39
abbrev N__law_ps_alone : List Str := ["_law_told", "_law_mirror"]
theorem sc__law_ps_alone : FnScope N__law_ps_alone ["_law_told"] (defScope s__law_ps_alone) := ⟨rfl, rfl, rfl, by decide +kernel, rfl, by decide +kernel, by decide +kernel⟩
abbrev s__law_ps_labels : Stmt := topS 40
abbrev N__law_ps_labels : List Str := ["_law_sack", "_law_many", "_law_letters", "_law_start", "_law_stem", "_law_cut", "_law_found", "_law_rank", "_law_pair", "_law_turn"]
theorem sc__law_ps_labels : FnScope N__law_ps_labels ["_law_sack", "_law_many"] (defScope s__law_ps_labels) := ⟨rfl, rfl, rfl, by decide +kernel, rfl, by decide +kernel, by decide +kernel⟩
abbrev s__law_ps_steps : Stmt := topS 41
abbrev N__law_ps_steps : List Str := ["_law_sack", "_law_labels", "_law_many", "_law_nest", "_law_top", "_law_found", "_law_turn", "_law_kind_here", "_law_inner", "_law_count_here"]
theorem sc__law_ps_steps : FnScope N__law_ps_steps ["_law_sack", "_law_labels", "_law_many", "_law_nest", "_law_top"] (defScope s__law_ps_steps) := ⟨rfl, rfl, rfl, by decide +kernel, rfl, by decide +kernel, by decide +kernel⟩
abbrev s__law_ps_phrase : Stmt := topS 43
abbrev N__law_ps_phrase : List Str := ["_law_held", "_law_steps_here", "_law_wide", "_law_long_here", "_law_found", "_law_step", "_law_part"]
theorem sc__law_ps_phrase : FnScope N__law_ps_phrase ["_law_held", "_law_steps_here", "_law_wide", "_law_long_here"] (defScope s__law_ps_phrase) := ⟨rfl, rfl, rfl, by decide +kernel, rfl, by decide +kernel, by decide +kernel⟩
abbrev s__law_ps_step : Stmt := topS 42
abbrev N__law_ps_step : List Str := ["_law_held", "_law_step", "_law_wide", "_law_long_here", "_law_inner", "_law_found", "_law_turn"]
theorem sc__law_ps_step : FnScope N__law_ps_step ["_law_held", "_law_step", "_law_wide", "_law_long_here"] (defScope s__law_ps_step) := ⟨rfl, rfl, rfl, by decide +kernel, rfl, by decide +kernel, by decide +kernel⟩
abbrev s__law_ps_rows : Stmt := topS 44
abbrev N__law_ps_rows : List Str := ["_law_sack", "_law_many", "_law_wide", "_law_long_here", "_law_steps_most", "_law_nest", "_law_labels", "_law_rows", "_law_held", "_law_rank", "_law_deep", "_law_fx", "_law_sense", "_law_steps_here", "_law_gx"]
theorem sc__law_ps_rows : FnScope N__law_ps_rows ["_law_sack", "_law_many", "_law_wide", "_law_long_here", "_law_steps_most", "_law_nest"] (defScope s__law_ps_rows) := ⟨rfl, rfl, rfl, by decide +kernel, rfl, by decide +kernel, by decide +kernel⟩
abbrev s__law_ps_plain_rows : Stmt := topS 45
abbrev N__law_ps_plain_rows : List Str := ["_law_sack", "_law_many"]
theorem sc__law_ps_plain_rows : FnScope N__law_ps_plain_rows ["_law_sack", "_law_many"] (defScope s__law_ps_plain_rows) := ⟨rfl, rfl, rfl, by decide +kernel, rfl, by decide +kernel, by decide +kernel⟩
abbrev s__law_ps_any_rows : Stmt := topS 46
abbrev N__law_ps_any_rows : List Str := ["_law_sack"]
theorem sc__law_ps_any_rows : FnScope N__law_ps_any_rows ["_law_sack"] (defScope s__law_ps_any_rows) := ⟨rfl, rfl, rfl, by decide +kernel, rfl, by decide +kernel, by decide +kernel⟩
abbrev s__law_ps_told_rows : Stmt := topS 47
abbrev N__law_ps_told_rows : List Str := ["_law_rows", "_law_found", "_law_label", "_law_sense"]
theorem sc__law_ps_told_rows : FnScope N__law_ps_told_rows ["_law_rows"] (defScope s__law_ps_told_rows) := ⟨rfl, rfl, rfl, by decide +kernel, rfl, by decide +kernel, by decide +kernel⟩
abbrev s__law_ps_huge : Stmt := topS 48
abbrev N__law_ps_huge : List Str := ["_law_sack", "_law_rows", "_law_labels", "_law_later", "_law_label", "_law_spot_here", "_law_known", "_law_steps_here", "_law_row", "_law_turn"]
theorem sc__law_ps_huge : FnScope N__law_ps_huge ["_law_sack", "_law_rows"] (defScope s__law_ps_huge) := ⟨rfl, rfl, rfl, by decide +kernel, rfl, by decide +kernel, by decide +kernel⟩
abbrev s__law_ps_shown : Stmt := topS 49
abbrev N__law_ps_shown : List Str := ["_law_made"]
theorem sc__law_ps_shown : FnScope N__law_ps_shown ["_law_made"] (defScope s__law_ps_shown) := ⟨rfl, rfl, rfl, by decide +kernel, rfl, by decide +kernel, by decide +kernel⟩
abbrev s__law_ps_right : Stmt := topS 50
abbrev N__law_ps_right : List Str := ["_law_sack", "_law_rows", "_law_passed", "_law_made", "_law_due", "_law_told", "_law_beside", "_law_found", "_law_row"]
theorem sc__law_ps_right : FnScope N__law_ps_right ["_law_sack"] (defScope s__law_ps_right) := ⟨rfl, rfl, rfl, by decide +kernel, rfl, by decide +kernel, by decide +kernel⟩
abbrev s_law : Stmt := topS 51
abbrev N_law : List Str := ["_law_script", "_law_rank"]
theorem sc_law : FnScope N_law ["_law_script"] (defScope s_law) := ⟨rfl, rfl, rfl, by decide +kernel, rfl, by decide +kernel, by decide +kernel⟩
structure Prog (K : PySem.W.Frag) (mg : Str → Option Value) where
  blt : Blt mg
  f_is_effect : Addr
  fd_is_effect : FuncData
  d_is_effect : DefAt K mg "is_effect" s_is_effect f_is_effect fd_is_effect ["one"]
  f_least_of : Addr
  fd_least_of : FuncData
  d_least_of : DefAt K mg "least_of" s_least_of f_least_of fd_least_of ["needs", "gives"]
  f_checked : Addr
  fd_checked : FuncData
  d_checked : DefAt K mg "checked" s_checked f_checked fd_checked ["one"]
  f_join_of : Addr
  fd_join_of : FuncData
  d_join_of : DefAt K mg "join_of" s_join_of f_join_of fd_join_of ["one", "other"]
  f_under_of : Addr
  fd_under_of : FuncData
  d_under_of : DefAt K mg "under_of" s_under_of f_under_of fd_under_of ["one", "number"]
  f_power_of : Addr
  fd_power_of : FuncData
  d_power_of : DefAt K mg "power_of" s_power_of f_power_of fd_power_of ["one", "number"]
  f_is_name : Addr
  fd_is_name : FuncData
  d_is_name : DefAt K mg "is_name" s_is_name f_is_name fd_is_name ["name"]
  f_copy_of : Addr
  fd_copy_of : FuncData
  d_copy_of : DefAt K mg "copy_of" s_copy_of f_copy_of fd_copy_of ["thing"]
  f_is_long_step : Addr
  fd_is_long_step : FuncData
  d_is_long_step : DefAt K mg "is_long_step" s_is_long_step f_is_long_step fd_is_long_step ["step"]
  f_check_phrase : Addr
  fd_check_phrase : FuncData
  d_check_phrase : DefAt K mg "check_phrase" s_check_phrase f_check_phrase fd_check_phrase ["phrase", "known"]
  f_names_in : Addr
  fd_names_in : FuncData
  d_names_in : DefAt K mg "names_in" s_names_in f_names_in fd_names_in ["phrase"]
  f_phrase_effect : Addr
  fd_phrase_effect : FuncData
  d_phrase_effect : DefAt K mg "phrase_effect" s_phrase_effect f_phrase_effect fd_phrase_effect ["phrase", "held"]
  f_step_effect : Addr
  fd_step_effect : FuncData
  d_step_effect : DefAt K mg "step_effect" s_step_effect f_step_effect fd_step_effect ["step", "held"]
  f_Book___init__ : Addr
  fd_Book___init__ : FuncData
  d_Book___init__ : MetAt K "__init__" "Book.__init__" s_Book___init__ f_Book___init__ fd_Book___init__ ["self", "words"]
  f_Book_words : Addr
  fd_Book_words : FuncData
  d_Book_words : MetAt K "words" "Book.words" s_Book_words f_Book_words fd_Book_words ["self"]
  f_Book_names : Addr
  fd_Book_names : FuncData
  d_Book_names : MetAt K "names" "Book.names" s_Book_names f_Book_names fd_Book_names ["self"]
  f_Book_effects_held : Addr
  fd_Book_effects_held : FuncData
  d_Book_effects_held : MetAt K "effects_held" "Book.effects_held" s_Book_effects_held f_Book_effects_held fd_Book_effects_held ["self", "wanted"]
  f_Book_effect : Addr
  fd_Book_effect : FuncData
  d_Book_effect : MetAt K "effect" "Book.effect" s_Book_effect f_Book_effect fd_Book_effect ["self", "name"]
  f_Book___len__ : Addr
  fd_Book___len__ : FuncData
  d_Book___len__ : MetAt K "__len__" "Book.__len__" s_Book___len__ f_Book___len__ fd_Book___len__ ["self"]
  f_Book___eq__ : Addr
  fd_Book___eq__ : FuncData
  d_Book___eq__ : MetAt K "__eq__" "Book.__eq__" s_Book___eq__ f_Book___eq__ fd_Book___eq__ ["self", "other"]
  f__law_coin : Addr
  fd__law_coin : FuncData
  d__law_coin : DefAt K mg "_law_coin" s__law_coin f__law_coin fd__law_coin ["_law_purse", "_law_many"]
  f__law_words : Addr
  fd__law_words : FuncData
  d__law_words : DefAt K mg "_law_words" s__law_words f__law_words fd__law_words ["_law_purse", "_law_many"]
  f__law_copied : Addr
  fd__law_copied : FuncData
  d__law_copied : DefAt K mg "_law_copied" s__law_copied f__law_copied fd__law_copied ["_law_thing"]
  f__law_ps_sack : Addr
  fd__law_ps_sack : FuncData
  d__law_ps_sack : DefAt K mg "_law_ps_sack" s__law_ps_sack f__law_ps_sack fd__law_ps_sack ["_law_script", "_law_rank"]
  f__law_ps_least : Addr
  fd__law_ps_least : FuncData
  d__law_ps_least : DefAt K mg "_law_ps_least" s__law_ps_least f__law_ps_least fd__law_ps_least ["_law_takes", "_law_puts"]
  f__law_ps_order : Addr
  fd__law_ps_order : FuncData
  d__law_ps_order : DefAt K mg "_law_ps_order" s__law_ps_order f__law_ps_order fd__law_ps_order ["_law_sack", "_law_takes"]
  f__law_ps_drawn : Addr
  fd__law_ps_drawn : FuncData
  d__law_ps_drawn : DefAt K mg "_law_ps_drawn" s__law_ps_drawn f__law_ps_drawn fd__law_ps_drawn ["_law_sack", "_law_deep", "_law_most"]
  f__law_ps_do : Addr
  fd__law_ps_do : FuncData
  d__law_ps_do : DefAt K mg "_law_ps_do" s__law_ps_do f__law_ps_do fd__law_ps_do ["_law_fx", "_law_heap"]
  f__law_ps_both : Addr
  fd__law_ps_both : FuncData
  d__law_ps_both : DefAt K mg "_law_ps_both" s__law_ps_both f__law_ps_both fd__law_ps_both ["_law_fx", "_law_gx"]
  f__law_ps_beneath : Addr
  fd__law_ps_beneath : FuncData
  d__law_ps_beneath : DefAt K mg "_law_ps_beneath" s__law_ps_beneath f__law_ps_beneath fd__law_ps_beneath ["_law_fx", "_law_count_here"]
  f__law_ps_same : Addr
  fd__law_ps_same : FuncData
  d__law_ps_same : DefAt K mg "_law_ps_same" s__law_ps_same f__law_ps_same fd__law_ps_same ["_law_told", "_law_due"]
  f__law_ps_spoil : Addr
  fd__law_ps_spoil : FuncData
  d__law_ps_spoil : DefAt K mg "_law_ps_spoil" s__law_ps_spoil f__law_ps_spoil fd__law_ps_spoil ["_law_thing", "_law_tally"]
  f__law_ps_alone : Addr
  fd__law_ps_alone : FuncData
  d__law_ps_alone : DefAt K mg "_law_ps_alone" s__law_ps_alone f__law_ps_alone fd__law_ps_alone ["_law_told"]
  f__law_ps_labels : Addr
  fd__law_ps_labels : FuncData
  d__law_ps_labels : DefAt K mg "_law_ps_labels" s__law_ps_labels f__law_ps_labels fd__law_ps_labels ["_law_sack", "_law_many"]
  f__law_ps_steps : Addr
  fd__law_ps_steps : FuncData
  d__law_ps_steps : DefAt K mg "_law_ps_steps" s__law_ps_steps f__law_ps_steps fd__law_ps_steps ["_law_sack", "_law_labels", "_law_many", "_law_nest", "_law_top"]
  f__law_ps_phrase : Addr
  fd__law_ps_phrase : FuncData
  d__law_ps_phrase : DefAt K mg "_law_ps_phrase" s__law_ps_phrase f__law_ps_phrase fd__law_ps_phrase ["_law_held", "_law_steps_here", "_law_wide", "_law_long_here"]
  f__law_ps_step : Addr
  fd__law_ps_step : FuncData
  d__law_ps_step : DefAt K mg "_law_ps_step" s__law_ps_step f__law_ps_step fd__law_ps_step ["_law_held", "_law_step", "_law_wide", "_law_long_here"]
  f__law_ps_rows : Addr
  fd__law_ps_rows : FuncData
  d__law_ps_rows : DefAt K mg "_law_ps_rows" s__law_ps_rows f__law_ps_rows fd__law_ps_rows ["_law_sack", "_law_many", "_law_wide", "_law_long_here", "_law_steps_most", "_law_nest"]
  f__law_ps_plain_rows : Addr
  fd__law_ps_plain_rows : FuncData
  d__law_ps_plain_rows : DefAt K mg "_law_ps_plain_rows" s__law_ps_plain_rows f__law_ps_plain_rows fd__law_ps_plain_rows ["_law_sack", "_law_many"]
  f__law_ps_any_rows : Addr
  fd__law_ps_any_rows : FuncData
  d__law_ps_any_rows : DefAt K mg "_law_ps_any_rows" s__law_ps_any_rows f__law_ps_any_rows fd__law_ps_any_rows ["_law_sack"]
  f__law_ps_told_rows : Addr
  fd__law_ps_told_rows : FuncData
  d__law_ps_told_rows : DefAt K mg "_law_ps_told_rows" s__law_ps_told_rows f__law_ps_told_rows fd__law_ps_told_rows ["_law_rows"]
  f__law_ps_huge : Addr
  fd__law_ps_huge : FuncData
  d__law_ps_huge : DefAt K mg "_law_ps_huge" s__law_ps_huge f__law_ps_huge fd__law_ps_huge ["_law_sack", "_law_rows"]
  f__law_ps_shown : Addr
  fd__law_ps_shown : FuncData
  d__law_ps_shown : DefAt K mg "_law_ps_shown" s__law_ps_shown f__law_ps_shown fd__law_ps_shown ["_law_made"]
  f__law_ps_right : Addr
  fd__law_ps_right : FuncData
  d__law_ps_right : DefAt K mg "_law_ps_right" s__law_ps_right f__law_ps_right fd__law_ps_right ["_law_sack"]
  f_law : Addr
  fd_law : FuncData
  d_law : DefAt K mg "law" s_law f_law fd_law ["_law_script"]
  C_Book : Addr
  cl_Book : Cls K C_Book
  mg_Book : mg "Book" = some (.ref C_Book)
  mk_Book : Mk K C_Book f_Book___init__
  pr_Book_words : Addr
  pp_Book_words : PropOf K C_Book "words" pr_Book_words f_Book_words
  me_Book_names : Meth K C_Book "names" f_Book_names
  me_Book_effects_held : Meth K C_Book "effects_held" f_Book_effects_held
  me_Book_effect : Meth K C_Book "effect" f_Book_effect
  ic_Book : C8.InsC K C_Book
  na_Book_kept : NoAttr K C_Book "kept"
  le_Book : LenO K C_Book f_Book___len__
  eq_Book : EqO K C_Book f_Book___eq__
  t_LETTERS : Tok
  g_LETTERS : mg "LETTERS" = some (.str ("abcdefghijklmnopqrstuvwxyz" : String) t_LETTERS)
  t_LONGEST : Tok
  g_LONGEST : mg "LONGEST" = some (.int 8 t_LONGEST)
section
variable {P : Program} {w : World} {K : PySem.W.Frag} {mg : Str → Option Value} {base : Heap}
def w_is_effect : Tw := fun ds Q => ∃ n gs, ds = [.tuple [.int n, dI gs]] ∧ gs.length ≤ 1000000 ∧ Q (.bool (decide (0 ≤ n) && gs.all fun x => decide (1 ≤ x) && decide (x ≤ n)))
theorem ok_is_effect (p : Prog K mg) : FnG P w K mg base CX0 1 p.f_is_effect p.fd_is_effect ["one"] (spT w_is_effect) := by
  refine okG p.d_is_effect.F sc_is_effect (fun vs H Q E h => ?_) (fun cdv A outer s H vs Q E hg hr h => ?_)
  · obtain ⟨S, ds, G, r, ⟨n, gs, rfl, _⟩, _⟩ := h
    exact r.length
  · obtain ⟨S, ds, G, r, ⟨n, gs, rfl, len, q⟩, k⟩ := h
    obtain ⟨v, rfl, hS⟩ := enter1 r
    obtain ⟨t, v1, v2, rfl, hS⟩ := hS.ftup2 (by walk_at "mem")
    obtain rfl := hS.fint (by walk_at "mem")
    obtain ⟨a, rfl, ha⟩ := hS.rints (.fz (by walk_at "mem"))
    refine ⟨_, (pss_cons (ps_asg (pv 0) (pg_tup rfl (pgs_cons (pg_name (i := 1) sc_is_effect.nd rfl (Or.inr rfl)) (pgs_cons (pg_name (i := 2) sc_is_effect.nd rfl (Or.inl rfl)) pgs_nil))))
      (pss_one (ps_ret (pe_and (pe_cmpR op_ge (pv 1) pe_int (nomark _)) (pe_one (pe_callB (cr_all rfl) (by rfl) p.blt.all (by decide +kernel) (pa_cons (pe_lc (own := [("spot", 3)]) (g := gName 3) (tt := tYes) rfl sc_is_effect.nd (pi_list (pv 2)) (blkOk_by (N := N_is_effect) (sc := defScope s_is_effect) (by decide +kernel)) (fun _ _ _ _ _ => pg_name (i := 3) sc_is_effect.nd rfl (Or.inl rfl)) (fun _ _ _ _ _ => pts_nil) (fun _ _ _ _ _ => (pe_chain op_le op_le pe_int (pv 3) (pv 1)))) pa_nil))))))), ?_⟩
    refine ⟨_, rfl, t, _, rfl, SqT.of (hS.tp (by walk_at "mem")), rfl, _, _, rfl, _, _, rfl, rfl, ?_⟩
    refine ⟨_, rfl, _, _, rfl, rfl, _, rfl, ?_⟩
    by_cases h0 : 0 ≤ n
    · rw [decide_eq_true h0] at q ⊢
      refine iteT ?_
      refine ⟨_, rfl, a, rfl, ⟨_, SqL.of ha⟩, fun D hD => ?_⟩
      refine lc_ints (fun pre H1 => Same H H1 ∧ H1 D = some (.lst ((pre.map fun x => decide (1 ≤ x) && decide (x ≤ n)).map V.bl))) ⟨same_upd hD, upd_same⟩ (fun pre H1 h => h.1 _ _ ha) (fun pre x post H1 e h => ?_) (fun H1 h => ?_)
      · refine ⟨rfl, _, rfl, _, _, rfl, rfl, _, rfl, ?_⟩
        have fin : ∀ b : Bool, b = (decide (1 ≤ x) && decide (x ≤ n)) → ∃ acc, H1 D = some (.lst acc) ∧ acc.length < sizeLine ∧ (fun (pre : List Int) (H1 : Hp) => Same H H1 ∧ H1 D = some (.lst ((pre.map fun x => decide (1 ≤ x) && decide (x ≤ n)).map V.bl))) (pre ++ [x]) (upd H1 D (.lst (acc ++ [V.bl b]))) := fun b eb => by
          subst e
          refine ⟨_, h.2, szlt (by simp at len ⊢; omega), fun c o eo => ?_, ?_⟩
          · rw [upd_ne (ne_of_none eo hD)]
            exact h.1 _ _ eo
          · rw [upd_same, eb]
            simp
        refine iteB (fun h1 => ?_) (fun h1 => ?_)
        · refine ⟨_, rfl, _, _, rfl, rfl, ?_⟩
          exact fin _ (by rw [h1]; rfl)
        · exact fin _ (by rw [h1]; rfl)
      · refine ⟨D, _, rfl, SqL.of h.2, ?_⟩
        have e2 : ((gs.map fun x => decide (1 ≤ x) && decide (x ≤ n)).all id) = gs.all fun x => decide (1 ≤ x) && decide (x ≤ n) := by
          rw [List.all_map]
          rfl
        rw [e2]
        exact k _ _ _ q h.1 ⟨[], .bl _, by simp, by simp⟩
    · rw [decide_eq_false h0] at q ⊢
      exact iteF (k _ _ _ q (Same.refl _) ⟨[], .bl _, by simp, by simp⟩)
def w_least_of : Tw := fun ds Q => ∃ n gs, ds = [.int n, dI gs] ∧ (∀ x ∈ gs, 1 ≤ x) ∧ gs.length ≤ 1000000 ∧ Q (dE (leastE n gs))
theorem ok_least_of (p : Prog K mg) : FnG P w K mg base CX0 1 p.f_least_of p.fd_least_of ["needs", "gives"] (spT w_least_of) := by
  refine okG p.d_least_of.F sc_least_of (fun vs H Q E h => ?_) (fun cdv A outer s H vs Q E hg hr h => ?_)
  · obtain ⟨S, ds, G, r, ⟨n, gs, rfl, _⟩, _⟩ := h
    exact r.length
  · obtain ⟨S, ds, G, r, ⟨n, gs, rfl, pos, len, q⟩, kk⟩ := h
    obtain ⟨v1, v2, rfl, hS⟩ := enter2 r
    obtain rfl := hS.fint (by walk_at "mem")
    obtain ⟨a, rfl, ha⟩ := hS.rints (.fz (by walk_at "mem"))
    refine ⟨_, (pss_cons (ps_set (i := 2) sc_least_of.nd rfl (Or.inl rfl) (pe_lst (pa_cons pe_int pa_nil)))
      (pss_cons (ps_for PassesOwn.never rfl (pi_list (pv 1)) (pg_name (i := 3) sc_least_of.nd rfl (Or.inl rfl))
      (pss_one (ps_expr (pe_bm PySem.F.plainAttrs_list PySem.F.slot_list_append PySem.F.type_list_append mt_append (pv 2) (pa_cons (pe_callB (call_max2 rfl) (by rfl) p.blt.max (by decide +kernel) (pa_cons (pe_ix ix_list (pv 2) (pe_un un_neg pe_int) (fun _ _ => rfl)) (pa_cons (pv 3) pa_nil))) pa_nil)))))
      (pss_cons (ps_set (i := 4) sc_least_of.nd rfl (Or.inl rfl) (pe_callB call_len_seq (by rfl) p.blt.len PySem.boot_len (pa_cons (pv 1) pa_nil)))
      (pss_cons (ps_while PassesOwn.never (PW.pt (pw_and (pt_cmpR op_gt (pv 4) pe_int (nomark _)) (pw_and (pt_cmpR op_eq (pe_ix ix_list (pv 1) (pe_op op_sub (pv 4) pe_int) (fun _ _ => rfl)) (pv 0) (nomark _)) (pw_and1 (pt_cmpR op_lt (pe_ix ix_list (pv 2) (pe_op op_sub (pv 4) pe_int) (fun _ _ => rfl)) (pv 0) (nomark _))))))
      (pss_one (ps_par (i := 4) (j := 0) rfl sc_least_of.nd rfl rfl (by decide) rfl rfl (pa_cons (pe_op op_sub (pv 4) pe_int) (pa_cons (pe_op op_sub (pv 0) pe_int) pa_nil)) (by rfl))))
      (pss_one (ps_ret (pe_tup (pa_cons (pv 0) (pa_cons (pe_callTy call_list_of (by rfl) p.blt.list (by decide +kernel) (pa_cons (pe_slice sl_list (pv 1) po_none (po_some (pv 4))) pa_nil)) pa_nil))))))))), ?_⟩
    -- tops = [0]
    refine ⟨szle (by simp), fun t ht => ?_⟩
    have hS1 := hS.mkInts (ns := [0]) ht
    have hat : H a = some (.lst (gs.map V.int)) := ha
    -- the loop over gives
    refine ⟨_, rfl, a, rfl, ⟨_, SqL.of (same_upd ht _ _ ha)⟩, for_ints (ns := gs) (fun pre σ H1 => ∃ y3 y4, σ = [some (.int n), some (.ref a), some (.ref t), y3, y4] ∧ St H .none .none [(.int n, .int n), (.ref a, dI gs)] [(.ref t, dI (tops pre))] [] H1) ⟨none, none, rfl, hS1⟩ (fun pre σ H1 h => ?_) (fun pre x post σ H1 e h => ?_) (fun σ H1 h => ?_)⟩
    · obtain ⟨_, _, _, h⟩ := h
      obtain ⟨a', e, h'⟩ := h.rints (v := .ref a) (.fz (by walk_at "mem"))
      cases e
      exact h'
    · obtain ⟨y3, y4, rfl, h⟩ := h
      obtain ⟨ht1, k⟩ := h.putInts
      have hl : (tops pre).length = pre.length + 1 := tops_len pre
      have hlast : (tops pre)[pre.length]? = some (top pre) := by
        rw [tops_at (Nat.le_refl _), List.take_length]
      have hlastI : atI ((tops pre).map V.int) (-1) = some (.int (top pre)) := by
        unfold atI
        have e1 : ixN ((tops pre).map V.int).length (-1) = some pre.length := by
          unfold ixN
          rw [ints_len, hl, if_neg (by decide), if_pos (by omega)]
          congr 1
          omega
        rw [e1]
        exact ints_at hlast
      refine ⟨_, rfl, .inl ⟨rfl, _, SqL.of ht1⟩, _, rfl, _, rfl, _, _, _, _, rfl, rfl, SqL.of ht1, hlastI, _, rfl, _, _, rfl, t, _, _, rfl, rfl, ht1, szlt ?_, ?_⟩
      · rw [ints_len, hl]
        subst e
        simp at len
        omega
      · refine ⟨some (.int x), y4, rfl, ?_⟩
        have k' := k (tops (pre ++ [x]))
        rw [tops_app] at k'
        rw [tops_app]
        have e2 : (if x > top pre then x else top pre) = max (top pre) x := by omega
        rw [e2]
        simpa using k'
    · obtain ⟨y3, y4, rfl, h⟩ := h
      obtain ⟨ht1, _⟩ := h.putInts
      obtain ⟨a', e, ha1⟩ := h.rints (v := .ref a) (.fz (by walk_at "mem"))
      cases e
      -- size = len(gives)
      refine ⟨_, rfl, a, _, rfl, .inl (SqL.of ha1), ?_⟩
      rw [ints_len]
      -- the while
      refine ⟨fun m σ H2 => H2 = H1 ∧ ∃ n', σ = [some (.int n'), some (.ref a), some (.ref t), y3, some (.int (m : Int))] ∧ m ≤ gs.length ∧ trim gs gs.length n = trim gs m n', ⟨gs.length, rfl, n, rfl, Nat.le_refl _, rfl⟩, fun m σ H2 h2 => ?_⟩
      obtain ⟨rfl, n', rfl, hm, et⟩ := h2
      refine ⟨_, rfl, _, _, rfl, rfl, _, rfl, ?_⟩
      -- the way out: (needs, list(gives[:size]))
      have out : trim gs m n' = (m, n') → tRet (tTup (tCons (tVar 0) (tCons (tCB (fun xs H Q => ∃ p ys, xs = [.ref p] ∧ (SqL K H p ys ∨ SqT K H p ys) ∧ ∀ l, H l = none → Q (.ref l) (upd H l (.lst ys))) (tCons (tSl (rSlL K) (tVar 1) tNoPart (tPart (tVar 4))) tNil)) tNil))) ⟨fun _ H' => Q .non H', Q, fun _ _ => False, fun _ _ => False⟩ [some (.int n'), some (.ref a), some (.ref t), y3, some (.int (m : Int))] H2 := fun eo => by
        have eL : leastE n gs = (n', gs.take m) := by
          unfold leastE
          rw [et, eo]
        rw [eL] at q
        refine ⟨_, rfl, _, rfl, _, rfl, _, rfl, a, _, rfl, SqL.of ha1, fun c hc => ?_⟩
        rw [cutV_to, ← List.map_take]
        have hS2 := h.mkInts (ns := gs.take m) hc
        obtain ⟨hc1, _⟩ := hS2.putInts
        refine ⟨c, _, rfl, .inl (SqL.of hc1), fun l hl => ?_⟩
        have hS3 := hS2.mkInts (ns := gs.take m) hl
        refine ⟨szle (by simp), fun u hu => ?_⟩
        have hS4 := (hS3.mkTup hu).take (.tp2 (List.Mem.head _) (.int n') (.own .hd))
        obtain ⟨sm, nw⟩ := hS4.leave
        exact kk _ _ _ q sm nw
      cases m with
      | zero =>
        refine iteF ?_
        refine iteF (out ?_)
        rfl
      | succ k =>
        have hk : gs[k]? = some gs[k] := List.getElem?_eq_getElem (by omega)
        rw [decide_eq_true (show (0 : Int) < ((k + 1 : Nat) : Int) by omega)]
        refine iteT ?_
        have ei : ((k + 1 : Nat) : Int) - 1 = (k : Int) := by omega
        refine ⟨_, rfl, _, rfl, _, _, rfl, rfl, _, _, _, _, rfl, rfl, SqL.of ha1, at_nat ei (ints_at hk), _, rfl, rfl, _, rfl, ?_⟩
        rw [dec_eq_int]
        have g1 : 1 ≤ gs[k] := pos _ (List.getElem_mem ..)
        by_cases e1 : gs[k] = n'
        · rw [decide_eq_true e1]
          refine iteT ?_
          have htop : (tops gs)[k]? = some (top (gs.take k)) := tops_at (by omega)
          refine ⟨_, rfl, _, rfl, _, _, rfl, rfl, _, _, _, _, rfl, rfl, SqL.of ht1, at_nat ei (ints_at htop), _, rfl, _, _, rfl, rfl, _, rfl, ?_⟩
          by_cases e2 : top (gs.take k) < n'
          · rw [decide_eq_true e2]
            refine iteT ⟨fun σ' H' => ∃ m', m' < k + 1 ∧ (H' = H2 ∧ ∃ n', σ' = [some (.int n'), some (.ref a), some (.ref t), y3, some (.int (m' : Int))] ∧ m' ≤ gs.length ∧ trim gs gs.length n = trim gs m' n'), fun σ' H' z => z, ?_⟩
            refine ⟨_, rfl, _, _, rfl, rfl, _, rfl, _, _, rfl, rfl, _, _, rfl, k, by omega, rfl, n' - 1, ?_, by omega, ?_⟩
            · exact congrArg (fun z => [some (V.int (n' - 1)), some (V.ref a), some (V.ref t), y3, some (V.int z)]) ei
            · rw [et]
              conv => lhs; unfold trim
              rw [if_pos ⟨by rw [hk, e1], (top_lt (by omega)).mp e2⟩]
          · rw [decide_eq_false e2]
            refine iteF (out ?_)
            unfold trim
            rw [if_neg fun z => e2 ((top_lt (by omega)).mpr z.2)]
        · rw [decide_eq_false e1]
          refine iteF (iteF (out ?_))
          unfold trim
          rw [if_neg fun z => e1 (by rw [hk] at z; exact Option.some.inj z.1)]
def w_checked : Tw := fun ds Q => ∃ n gs, ds = [.tuple [.int n, dI gs]] ∧ Eff (n, gs) ∧ gs.length ≤ 1000000 ∧ Q (dE (leastE n gs))
theorem ok_checked (p : Prog K mg) : FnG P w K mg base CX0 2 p.f_checked p.fd_checked ["one"] (spT w_checked) := by
  refine okG p.d_checked.F sc_checked (fun vs H Q E h => ?_) (fun cdv A outer s H vs Q E hg hr h => ?_)
  · obtain ⟨S, ds, G, r, ⟨n, gs, rfl, _⟩, _⟩ := h
    exact r.length
  · obtain ⟨S, ds, G, r, ⟨n, gs, rfl, ef, len, q⟩, k⟩ := h
    obtain ⟨v, rfl, hS⟩ := enter1 r
    obtain ⟨t, v1, v2, rfl, hS⟩ := hS.ftup2 (by walk_at "mem")
    obtain rfl := hS.fint (by walk_at "mem")
    refine ⟨_, (pss_cons (ps_asg (pv 0) (pg_tup rfl (pgs_cons (pg_name (i := 1) sc_checked.nd rfl (Or.inl rfl)) (pgs_cons (pg_name (i := 2) sc_checked.nd rfl (Or.inl rfl)) pgs_nil))))
      (pss_cons (ps_if (pt_not (pt_val (pe_callG ((ok_is_effect p).mono (by decide)) hg hr (by rfl) p.d_is_effect.gl p.d_is_effect.kp p.d_is_effect.bd pass0 (pa_cons (pv 0) pa_nil))))
      (pss_one ps_never) pss_nil)
      (pss_one (ps_ret (pe_callG ((ok_least_of p).mono (by decide)) hg hr (by rfl) p.d_least_of.gl p.d_least_of.kp p.d_least_of.bd pass0 (pa_cons (pv 1) (pa_cons (pv 2) pa_nil))))))), ?_⟩
    refine ⟨_, rfl, t, _, rfl, SqT.of (hS.tp (by walk_at "mem")), rfl, _, _, rfl, _, _, rfl, rfl, ?_⟩
    -- if not is_effect(one)
    refine ⟨_, rfl, hS.call (vs := [.ref t]) (.cons (.fz (by walk_at "mem")) .nil) ⟨n, gs, rfl, len, fun v' H1 h1 => ?_⟩⟩
    obtain ⟨rfl, h1⟩ := h1.bool
    have et : (decide (0 ≤ n) && gs.all fun x => decide (1 ≤ x) && decide (x ≤ n)) = true := by
      rw [Bool.and_eq_true, decide_eq_true_eq, List.all_eq_true]
      refine ⟨ef.nn, fun x hx => ?_⟩
      rw [Bool.and_eq_true, decide_eq_true_eq, decide_eq_true_eq]
      exact ⟨ef.ge x hx, ef.le x hx⟩
    rw [et]
    refine ⟨_, rfl, iteF ?_⟩
    -- return least_of(needs, gives)
    refine ⟨_, rfl, _, rfl, h1.call (vs := [.int n, v2]) (.cons (.int n) (.cons (.fz (by walk_at "mem")) .nil)) ⟨n, gs, rfl, ef.ge, len, fun v' H2 h2 => ?_⟩⟩
    obtain ⟨sm, nw⟩ := h2.leave
    exact k _ _ _ q sm nw
def w_join_of : Tw := fun ds Q => ∃ n gs d ls, ds = [.tuple [.int n, dI gs], .tuple [.int d, dI ls]] ∧ Eff (n, gs) ∧ Eff (d, ls) ∧ n ≤ 10000 ∧ d ≤ 10000 ∧ gs.length ≤ 10000 ∧ ls.length ≤ 10000 ∧ Q (dE (joinE (n, gs) (d, ls)))
def w_under_of : Tw := fun ds Q => ∃ n gs c, ds = [.tuple [.int n, dI gs], .int c] ∧ 0 ≤ c ∧ c ≤ 10000 ∧ gs.length ≤ 100000 ∧ Q (dE (underE (n, gs) c))
def w_power_of : Tw := fun ds Q => ∃ n gs k, ds = [dE (n, gs), .int k] ∧ Eff (n, gs) ∧ Lst (n, gs) ∧ 0 ≤ k ∧ k ≤ 100 ∧ n ≤ 60 ∧ gs.length ≤ 60 ∧ Q (dE (powE (n, gs) k.toNat))
def kr_power_of_1 : KS := (kIfS (kTest (kOp (vEq false) (kOp (vI noC fun i j => Builtin.bitAnd i j) (kOp (vI (fun _ j => 0 ≤ j) fun i j => i / 2 ^ j.toNat) (kVar 1) (kVar 3)) (kC (.int 1))) (kC (.int 1))))
  (kAsg (kCallT w_join_of 2 (kCons (kVar 2) (kCons (kVar 0) kNil))) (kgName 2))
  kNext)
def kb_power_of_2 : KS := (kSeq (kAsg (kCallT w_join_of 2 (kCons (kVar 2) (kCons (kVar 2) kNil))) (kgName 2))
  kr_power_of_1)
def kr_power_of_3 : KS := (kRet (kMov 2))
def kr_power_of_4 : KS := (kSeq (kFor (kRngD (kOp (vI noC fun i j => i - j) (kUn vBits (kVar 1)) (kC (.int 1))) (kUn vNeg (kC (.int 1))) (kUn vNeg (kC (.int 1)))) (kgName 3) kb_power_of_2)
  kr_power_of_3)
local macro_rules | `(tactic| walk_at "go") => `(tactic| ((first | unfold kr_power_of_1 | unfold kr_power_of_3 | unfold kr_power_of_4); walk_at "ev"))
def w_is_name : Tw := fun ds Q => ∃ x : Str, ds = [.str x] ∧ x.length ≤ 10000000 ∧ Q (.bool (isNm x))
theorem ar_is_name : ∀ ds G, w_is_name ds G → ds.length = 1 := by
  rintro ds G ⟨_, rfl, _⟩
  rfl
def k_is_name : KS := (kRet (kAndV (kChain (vB fun i j => decide (i ≤ j)) (vB fun i j => decide (i ≤ j)) (kC (.int 1)) (kF 1 vLenS (kCons (kVar 0) kNil)) (kC (.int 8))) (kF 1 (vAll fun bs => bs.all id) (kCons (kLc (kItS (kVar 0)) 1 kYes (kOp (vInS false) (kVar 1) (kC (.str ("abcdefghijklmnopqrstuvwxyz" : String))))) kNil))))
theorem val_is_name : ∀ ds G, w_is_name ds G → k_is_name ⟨ds.map Sl.fz ++ [.jk], [], 0⟩ (edT G) := by
  rintro ds Gq ⟨x, rfl, hx, q⟩
  unfold k_is_name
  walk_at "ev"
  refine ⟨hx, ?_⟩
  cases c1 : decide ((1 : Int) ≤ (x.length : Int)) with
  | false =>
    have h1 := of_decide_eq_false c1
    have e : isNm x = false := by
      unfold isNm
      rw [show decide (1 ≤ x.length) = false from decide_eq_false (by omega)]
      rfl
    rw [e] at q
    exact q
  | true =>
    have h1 := of_decide_eq_true c1
    dsimp only
    refine iteB (fun c2 => ?_) (fun c2 => ?_)
    · have h2 := of_decide_eq_true c2
      have xl : x.cps.toList.length = x.length := by simp [Str.length]
      refine lc_inv (j := 1) true x.cps.toList (fun c => .str ⟨#[c]⟩) (fun pre acc m => acc = (pre.map fun c => decide (c ∈ LETS.cps.toList)).map PyData.bool ∧ pre.length ≤ x.length ∧ m = 0) rfl rfl (fun pre acc m hp => by obtain ⟨rfl, h, _⟩ := hp; rw [List.length_map, List.length_map]; omega) (fun pre c post acc m Y X hl hp hY hX => ?_) (fun acc m hp => ?_) [] 0 ⟨rfl, Nat.zero_le _, rfl⟩
      · obtain ⟨rfl, h, rfl⟩ := hp
        have hlen := congrArg List.length hl
        rw [xl, List.length_append, List.length_cons] at hlen
        walk_at "ev"
        refine ⟨c, rfl, ?_⟩
        exact hY _ true _ 0 rfl rfl ⟨by simp, by rw [List.length_append, List.length_singleton]; omega, rfl⟩
      · obtain ⟨rfl, h, rfl⟩ := hp
        walk_at "ev"
        have e : isNm x = (x.cps.toList.map fun c => decide (c ∈ LETS.cps.toList)).all id := by
          unfold isNm
          rw [decide_eq_true (show 1 ≤ x.length by omega), decide_eq_true (show x.length ≤ 8 by omega), Bool.true_and, Bool.true_and, List.all_map]
          rfl
        rw [e] at q
        exact q
    · have h2 := of_decide_eq_false c2
      have e : isNm x = false := by
        unfold isNm
        rw [show decide (x.length ≤ 8) = false from decide_eq_false (by omega)]
        simp
      rw [e] at q
      exact q
theorem ok_is_name (p : Prog K mg) : FnG P w K mg base CX0 1 p.f_is_name p.fd_is_name ["name"] (spT w_is_name) :=
  okT p.d_is_name.F sc_is_name (by decide) ar_is_name (fun cdv A outer s H E hg hr => ⟨_, (pss_one (ps_ret (pe_and (pe_chain op_le op_le pe_int (pe_callB call_len_str (by rfl) p.blt.len PySem.boot_len (pa_cons (pv 0) pa_nil)) (pe_glob (v := .int 8) (by rfl) p.g_LONGEST ⟨_, rfl⟩)) (pe_one (pe_callB (cr_all rfl) (by rfl) p.blt.all (by decide +kernel) (pa_cons (pe_lc (own := [("sign", 1)]) (g := gName 1) (tt := tYes) rfl sc_is_name.nd (pi_str (pv 0)) (blkOk_by (N := N_is_name) (sc := defScope s_is_name) (by decide +kernel)) (fun _ _ _ _ _ => pg_name (i := 1) sc_is_name.nd rfl (Or.inl rfl)) (fun _ _ _ _ _ => pts_nil) (fun _ _ _ _ _ => (pe_cmpR (show OpR _ (compareOp .In) (fun x y H Q => ∃ (c : Nat) (z : Str), x = V.str ⟨#[c]⟩ ∧ y = V.str z ∧ Q (.bl (decide (c ∈ z.cps.toList))) H) from op_in_sign) (pv 1) (pe_glob (v := .str ("abcdefghijklmnopqrstuvwxyz" : String)) (by rfl) p.g_LETTERS ⟨_, rfl⟩) rfl))) pa_nil)))))),
    fun C xc => (so_ret (so_andV (so_chain sr_B sr_B (so_c (sca_int _)) (so_f sc_lenS (so_cons (so_var (i := 0)) so_nil)) (so_c (sca_int _))) (so_f sc_bools (so_cons (so_lc (so_itS (so_var (i := 0))) so_yes (so_op sr_inSg (so_var (i := 1)) (so_c (sca_str _)))) so_nil))))⟩) val_is_name
def w_copy_of (n : Nat) : Tw := fun ds Q => ∃ d : D, ds = [d] ∧ d.depth < n ∧ d.hasDict = false ∧ G.wd d ≤ 10000000 ∧ Q d
theorem no_copy_of : ∀ ds Gq, ¬ w_copy_of 0 ds Gq := by
  rintro ds Gq ⟨d, _, h, _⟩
  omega
theorem ar_copy_of (n : Nat) : ∀ ds Gq, w_copy_of n ds Gq → ds.length = 1 := by
  rintro ds Gq ⟨d, rfl, _⟩
  rfl
def kr_copy_of_1 (n : Nat) : KS := (kRet (kMov 0))
def kr_copy_of_2 (n : Nat) : KS := (kSeq (kIfS (kTest (kIs "tuple" (kVar 0)))
  (kRet (kTupOf (kCons (kLc (kIt false (kFrz 0)) 1 kYes (kCallT (w_copy_of n) 1 (kCons (kVar 1) kNil))) kNil)))
  kNext)
  (kr_copy_of_1 n))
def k_copy_of (n : Nat) : KS := (kSeq (kIfS (kTest (kIs "list" (kVar 0)))
  (kRet (kLc (kIt true (kFrz 0)) 1 kYes (kCallT (w_copy_of n) 1 (kCons (kVar 1) kNil))))
  kNext)
  (kr_copy_of_2 n))
local macro_rules | `(tactic| walk_at "go") => `(tactic| ((first | unfold kr_copy_of_1 | unfold kr_copy_of_2); walk_at "ev"))
theorem val_copy_of (n : Nat) : ∀ ds G, w_copy_of (n + 1) ds G → k_copy_of n ⟨ds.map Sl.fz ++ [.jk], [], 0⟩ (edT G) := by
  rintro ds Gq ⟨d, rfl, dp, hd, sz, q⟩
  unfold k_copy_of
  have isO : ∀ {x : D}, x.hasDict = false → G.isObj x = false := fun {x} h => by
    cases x <;> first | rfl | exact nomatch h
  cases d with
  | list xs =>
    simp only [PyData.depth] at dp
    simp only [G.wd] at sz
    simp only [PyData.hasDict] at hd
    have hl := wds_len xs
    walk_at "ev"
    have key := fun Q => lc_inv (j := 1) (kt := kYes) (ke := kCallT (w_copy_of n) 1 (kCons (kVar 1) kNil)) (q := Q) (sl := [.fz (.list xs), .jk]) (T := [.fz (.list xs)]) true xs id (fun pre acc m => acc = pre ∧ pre.length ≤ xs.length ∧ m = 0) rfl rfl (fun pre acc m hp => by obtain ⟨rfl, h1, _⟩ := hp; omega) (fun pre x post acc m Y X hl2 hp hY hX => by
      obtain ⟨rfl, h1, rfl⟩ := hp
      have mx : x ∈ xs := hl2 ▸ List.mem_append_right _ List.mem_cons_self
      have hlen := congrArg List.length hl2
      rw [List.length_append, List.length_cons] at hlen
      have z1 := depth_mem mx
      have z2 := wd_mem mx
      walk_at "ev"
      refine ⟨x, rfl, by omega, hasDict_mem hd mx, by omega, ?_⟩
      exact hY (own x) true x 0 con_own rfl ⟨rfl, by rw [List.length_append, List.length_singleton]; omega, rfl⟩)
    have e2 := key (fun γ2 => match γ2.tm with
      | s :: tm => (G.okS s = true ∧ tm = [Sl.fz (PyData.list xs)]) ∧ rtN Gq s
      | _ => False) (fun acc m hp => by
        obtain ⟨rfl, _⟩ := hp
        exact ⟨⟨rfl, rfl⟩, q⟩) [] 0 ⟨rfl, Nat.zero_le _, rfl⟩
    rw [List.map_id] at e2
    exact e2
  | tuple xs =>
    simp only [PyData.depth] at dp
    simp only [G.wd] at sz
    simp only [PyData.hasDict] at hd
    have hl := wds_len xs
    walk_at "ev"
    walk_at "go"
    have key := fun Q => lc_inv (j := 1) (kt := kYes) (ke := kCallT (w_copy_of n) 1 (kCons (kVar 1) kNil)) (q := Q) (sl := [.fz (.tuple xs), .jk]) (T := [.fz (.tuple xs)]) true xs id (fun pre acc m => acc = pre ∧ pre.length ≤ xs.length ∧ m = 0) rfl rfl (fun pre acc m hp => by obtain ⟨rfl, h1, _⟩ := hp; omega) (fun pre x post acc m Y X hl2 hp hY hX => by
      obtain ⟨rfl, h1, rfl⟩ := hp
      have mx : x ∈ xs := hl2 ▸ List.mem_append_right _ List.mem_cons_self
      have hlen := congrArg List.length hl2
      rw [List.length_append, List.length_cons] at hlen
      have z1 := depth_mem mx
      have z2 := wd_mem mx
      walk_at "ev"
      refine ⟨x, rfl, by omega, hasDict_mem hd mx, by omega, ?_⟩
      exact hY (own x) true x 0 con_own rfl ⟨rfl, by rw [List.length_append, List.length_singleton]; omega, rfl⟩)
    have main : ∀ Q : VSt → Prop, Q ⟨[.fz (.tuple xs), .jk], [.ow true (.list xs), .fz (.tuple xs)], 0⟩ → lcL 1 kYes (kCallT (w_copy_of n) 1 (kCons (kVar 1) kNil)) xs ⟨[.fz (.tuple xs), .jk], [.ow true (.list []), .fz (.tuple xs)], 0⟩ Q := fun Q h => by
      have e2 := key Q (fun acc m hp => by
        obtain ⟨rfl, _, rfl⟩ := hp
        exact h) [] 0 ⟨rfl, Nat.zero_le _, rfl⟩
      rw [List.map_id] at e2
      exact e2
    refine main _ ?_
    walk_at "ev"
    split
    · rename_i h
      exact ⟨h, q⟩
    · exact q
  | dict m => exact nomatch hd
  | none => walk_at "ev"; walk_at "go"; walk_at "go"; exact q
  | bool b => walk_at "ev"; walk_at "go"; walk_at "go"; exact q
  | int i => walk_at "ev"; walk_at "go"; walk_at "go"; exact q
  | str x => walk_at "ev"; walk_at "go"; walk_at "go"; exact q
theorem group_copy_of (p : Prog K mg) : ∀ n : Nat, FnG P w K mg base CX0 (1 * n + 1) p.f_copy_of p.fd_copy_of ["thing"] (spT (w_copy_of n)) := by
  intro n
  induction n with
  | zero => exact fn_none (noT no_copy_of)
  | succ n ih =>
    have ih_copy_of := ih
    have h_copy_of : FnG P w K mg base CX0 (1 * (n + 1) + 1) p.f_copy_of p.fd_copy_of ["thing"] (spT (w_copy_of (n + 1))) := okT p.d_copy_of.F sc_copy_of (by decide) (ar_copy_of (n + 1)) (fun cdv A outer s H E hg hr => ⟨_, (pss_cons (ps_if (pt_val (pe_callB call_isi (by rfl) p.blt.isinstance (by decide +kernel) (pa_cons (pv 0) (pa_cons (pe_bltn (v := .ty "list") (by rfl) p.blt.list (by decide +kernel) rfl) pa_nil))))
      (pss_one (ps_ret (pe_lc (own := [("inner", 1)]) (g := gName 1) (tt := tYes) rfl sc_copy_of.nd (pi_list (pv 0)) (blkOk_by (N := N_copy_of) (sc := defScope s_copy_of) (by decide +kernel)) (fun _ _ _ _ _ => pg_name (i := 1) sc_copy_of.nd rfl (Or.inl rfl)) (fun _ _ _ _ _ => pts_nil) (fun _ _ _ _ _ => (pe_callG (ih_copy_of.mono (by omega)) hg hr (by rfl) p.d_copy_of.gl p.d_copy_of.kp p.d_copy_of.bd pass0 (pa_cons (pv 1) pa_nil)))))) pss_nil)
      (pss_cons (ps_if (pt_val (pe_callB call_isi (by rfl) p.blt.isinstance (by decide +kernel) (pa_cons (pv 0) (pa_cons (pe_bltn (v := .ty "tuple") (by rfl) p.blt.tuple (by decide +kernel) rfl) pa_nil))))
      (pss_one (ps_ret (pe_callTy call_tuple_of (by rfl) p.blt.tuple (by decide +kernel) (pa_cons (pe_lc (own := [("inner", 1)]) (g := gName 1) (tt := tYes) rfl sc_copy_of.nd (pi_tup (pv 0)) (blkOk_by (N := N_copy_of) (sc := defScope s_copy_of) (by decide +kernel)) (fun _ _ _ _ _ => pg_name (i := 1) sc_copy_of.nd rfl (Or.inl rfl)) (fun _ _ _ _ _ => pts_nil) (fun _ _ _ _ _ => (pe_callG (ih_copy_of.mono (by omega)) hg hr (by rfl) p.d_copy_of.gl p.d_copy_of.kp p.d_copy_of.bd pass0 (pa_cons (pv 1) pa_nil)))) pa_nil)))) pss_nil)
      (pss_one (ps_ret (pv 0))))),
    fun C xc => (so_seq (so_ifS (so_test (so_is kitT_list (so_var (i := 0))))
      (so_ret (so_lc (so_itL (so_frz (i := 0))) so_yes (so_callT (so_cons (so_var (i := 1)) so_nil)))) so_next)
      (so_seq (so_ifS (so_test (so_is kitT_tuple (so_var (i := 0))))
      (so_ret (so_tupOf (so_cons (so_lc (so_itT (so_frz (i := 0))) so_yes (so_callT (so_cons (so_var (i := 1)) so_nil))) so_nil))) so_next)
      (so_ret (so_mov (i := 0)))))⟩) (val_copy_of n)
    exact h_copy_of
theorem ok_copy_of (p : Prog K mg) (n : Nat) : FnG P w K mg base CX0 (1 * n + 1) p.f_copy_of p.fd_copy_of ["thing"] (spT (w_copy_of n)) := (group_copy_of p n)
def w_is_long_step : Tw := fun ds Q => ∃ u n l, ds = [.tuple [wordD u, .int n, .list l]] ∧ 0 ≤ n ∧ Q (.bool true)
theorem ar_is_long_step : ∀ ds G, w_is_long_step ds G → ds.length = 1 := by
  rintro ds G ⟨_, _, _, rfl, _⟩
  rfl
def k_is_long_step : KS := (kRet (kAndV (kOp (vEq false) (kF 1 vLen (kCons (kVar 0) kNil)) (kC (.int 3))) (kAndV (kOp (vIn false) (kIx false (kVar 0) (kC (.int 0))) (kLit (.tuple [(.str ("under" : String)), (.str ("times" : String))]))) (kOp (vB fun i j => decide (j ≤ i)) (kIx false (kVar 0) (kC (.int 1))) (kC (.int 0))))))
theorem val_is_long_step : ∀ ds G, w_is_long_step ds G → k_is_long_step ⟨ds.map Sl.fz ++ [], [], 0⟩ (edT G) := by
  rintro ds Gq ⟨u, n, l, rfl, n0, q⟩
  unfold k_is_long_step
  have n1 : decide (0 ≤ n) = true := decide_eq_true n0
  cases u with
  | true =>
    unfold wordD
    walk_at "ev"
    rw [if_pos (by decide), if_pos (by decide +kernel), n1]
    exact q
  | false =>
    unfold wordD
    walk_at "ev"
    rw [if_pos (by decide), if_pos (by decide +kernel), n1]
    exact q
theorem ok_is_long_step (p : Prog K mg) : FnG P w K mg base CX0 1 p.f_is_long_step p.fd_is_long_step ["step"] (spT w_is_long_step) :=
  okT p.d_is_long_step.F sc_is_long_step (by decide) ar_is_long_step (fun cdv A outer s H E hg hr => ⟨_, (pss_one (ps_ret (pe_and (pe_cmpR op_eq (pe_callB call_len_seq (by rfl) p.blt.len PySem.boot_len (pa_cons (pv 0) pa_nil)) pe_int (nomark _)) (pe_and (pe_cmpR op_in_seq (pe_ix ix_tup (pv 0) pe_int (fun _ _ => rfl)) (pe_tup (pa_cons pe_str (pa_cons pe_str pa_nil))) rfl) (pe_one (pe_cmpR op_ge (pe_ix ix_tup (pv 0) pe_int (fun _ _ => rfl)) pe_int (nomark _))))))),
    fun C xc => (so_ret (so_andV (so_op sr_eq (so_f sc_len (so_cons (so_var (i := 0)) so_nil)) (so_c (sca_int _))) (so_andV (so_op sr_in (so_ixT (so_var (i := 0)) (so_c (sca_int _))) (so_lit_tup (so_lits_cons (so_lit_c (sca_str _) rfl) (so_lits_cons (so_lit_c (sca_str _) rfl) so_lits_nil)))) (so_op sr_B (so_ixT (so_var (i := 0)) (so_c (sca_int _))) (so_c (sca_int _))))))⟩) val_is_long_step
def w_check_phrase (n : Nat) : Tw := fun ds Q => ∃ ph m, ds = [.list (dSteps ph), dictD m] ∧ dpSs ph < n ∧ ckSs m ph ∧ Q .none
theorem no_check_phrase : ∀ ds Gq, ¬ w_check_phrase 0 ds Gq := by
  rintro ds Gq ⟨s, h, _, hd, _⟩
  omega
theorem ar_check_phrase (n : Nat) : ∀ ds Gq, w_check_phrase n ds Gq → ds.length = 2 := by
  rintro ds Gq ⟨s, h, rfl, _⟩
  rfl
def kb_check_phrase_1 (n : Nat) : KS := (kIfS (kTest (kIs "str" (kVar 2)))
  (kIfS (kTest (kDIn true (kVar 2) 1))
  kNever
  kNext)
  (kIfS (kTNot (kTest (kCallT w_is_long_step 1 (kCons (kVar 2) kNil))))
  kNever
  (kDrop (kCallT (w_check_phrase n) 2 (kCons (kIx false (kVar 2) (kC (.int 2))) (kCons (kVar 1) kNil))))))
def k_check_phrase (n : Nat) : KS := (kFor (kIt true (kFrz 0)) (kgName 2) (kb_check_phrase_1 n))
theorem val_check_phrase (n : Nat) : ∀ ds G, w_check_phrase (n + 1) ds G → k_check_phrase n ⟨ds.map Sl.fz ++ [.jk], [], 0⟩ (edT G) := by
  rintro ds Gq ⟨ph, m, rfl, hd, ck, q⟩
  rw [dSteps_map]
  unfold k_check_phrase
  walk_at "ev"
  refine forL_inv ph dStep (fun pre γ => ∃ x, γ = ⟨[.fz (.list (ph.map dStep)), .fz (dictD m), x], [.fz (.list (ph.map dStep))], 0⟩) (fun pre x post γ N hl ht hP hN => ?_) (fun γ ht hP => ?_) _ rfl ⟨.jk, rfl⟩
  · obtain ⟨y, rfl⟩ := hP
    have mx : x ∈ ph := hl ▸ List.mem_append_right pre List.mem_cons_self
    have dx := dp_mem mx
    have cx := ck_mem ck mx
    have fin : N ⟨[.fz (.list (ph.map dStep)), .fz (dictD m), .fz (dStep x)], [.fz (.list (ph.map dStep))], 0⟩ := hN _ rfl ⟨_, rfl⟩
    unfold kb_check_phrase_1
    cases x with
    | nm s =>
      unfold dStep at fin ⊢
      unfold ckS at cx
      walk_at "ev"
      rw [cx]
      exact fin
    | long u k inner =>
      unfold dStep at fin ⊢
      unfold ckS at cx
      walk_at "ev"
      unfold dpS at dx
      refine ⟨u, k, _, rfl, cx.1, ?_⟩
      walk_at "ev"
      exact ⟨inner, m, rfl, by omega, cx.2, fin⟩
  · obtain ⟨y, rfl⟩ := hP
    walk_at "ev"
    exact q
theorem group_check_phrase (p : Prog K mg) : ∀ n : Nat, FnG P w K mg base CX0 (1 * n + 62) p.f_check_phrase p.fd_check_phrase ["phrase", "known"] (spT (w_check_phrase n)) := by
  intro n
  induction n with
  | zero => exact fn_none (noT no_check_phrase)
  | succ n ih =>
    have ih_check_phrase := ih
    have h_check_phrase : FnG P w K mg base CX0 (1 * (n + 1) + 62) p.f_check_phrase p.fd_check_phrase ["phrase", "known"] (spT (w_check_phrase (n + 1))) := okT p.d_check_phrase.F sc_check_phrase (by decide) (ar_check_phrase (n + 1)) (fun cdv A outer s H E hg hr => ⟨_, (pss_one (ps_for PassesOwn.never rfl (pi_list (pv 0)) (pg_name (i := 2) sc_check_phrase.nd rfl (Or.inl rfl))
      (pss_one (ps_if (pt_val (pe_callB call_isi (by rfl) p.blt.isinstance (by decide +kernel) (pa_cons (pv 2) (pa_cons (pe_bltn (v := .ty "str") (by rfl) p.blt.str (by decide +kernel) rfl) pa_nil))))
      (pss_one (ps_if (pt_cmp (pc_dnotin (Nat.lt_of_le_of_lt (Nat.add_le_add_left (show 1 ≤ 64 by decide) _) hr.units) (pv 2) (pv 1)))
      (pss_one ps_never) pss_nil)) (pss_one (ps_if (pt_not (pt_val (pe_callG ((ok_is_long_step p).mono (by omega)) hg hr (by rfl) p.d_is_long_step.gl p.d_is_long_step.kp p.d_is_long_step.bd pass0 (pa_cons (pv 2) pa_nil))))
      (pss_one ps_never) (pss_one (ps_expr (pe_callG (ih_check_phrase.mono (by omega)) hg hr (by rfl) p.d_check_phrase.gl p.d_check_phrase.kp p.d_check_phrase.bd pass0 (pa_cons (pe_ix ix_tup (pv 2) pe_int (fun _ _ => rfl)) (pa_cons (pv 1) pa_nil))))))))))),
    fun C xc => (so_for (so_itL (so_frz (i := 0))) (so_gname (i := 2))
      (so_ifS (so_test (so_is kitT_str (so_var (i := 2))))
      (so_ifS (so_test (so_dnotin (i := 1) (so_var (i := 2))))
      so_never so_next) (so_ifS (so_tnot (so_test (so_callT (so_cons (so_var (i := 2)) so_nil))))
      so_never (so_drop (so_callT (so_cons (so_ixT (so_var (i := 2)) (so_c (sca_int _))) (so_cons (so_var (i := 1)) so_nil)))))))⟩) (val_check_phrase n)
    exact h_check_phrase
theorem ok_check_phrase (p : Prog K mg) (n : Nat) : FnG P w K mg base CX0 (1 * n + 62) p.f_check_phrase p.fd_check_phrase ["phrase", "known"] (spT (w_check_phrase n)) := (group_check_phrase p n)
def w_names_in (n : Nat) : Tw := fun ds Q => ∃ ph, ds = [.list (dSteps ph)] ∧ dpSs ph < n ∧ szSs ph ≤ 100000 ∧ Q (dS (nmSs ph))
def kb_names_in_1 (n : Nat) : KS := (kIfS (kTest (kIs "str" (kVar 2)))
  (kDrop (kApp (kVar 1) (kVar 2)))
  (kDrop (kExt (kVar 1) (kCallT (w_names_in n) 1 (kCons (kIx false (kVar 2) (kC (.int 2))) kNil)))))
def kr_names_in_2 (n : Nat) : KS := (kRet (kMov 1))
def kr_names_in_3 (n : Nat) : KS := (kSeq (kFor (kIt true (kFrz 0)) (kgName 2) (kb_names_in_1 n))
  (kr_names_in_2 n))
local macro_rules | `(tactic| walk_at "go") => `(tactic| ((first | unfold kr_names_in_2 | unfold kr_names_in_3); walk_at "ev"))
def w_step_effect (n : Nat) : Tw := fun ds Q => ∃ s h, ds = [dStep s, heldD h] ∧ dpS s < n ∧ okS h s ∧ Q (dE (efS h s))
def w_phrase_effect (n : Nat) : Tw := fun ds Q => ∃ ph h, ds = [.list (dSteps ph), heldD h] ∧ dpSs ph < n ∧ okL h (0, []) ph ∧ Q (dE (efL h (0, []) ph))
def kr_step_effect_1 (n : Nat) : KS := (kRet (kIf (kTest (kOp (vEq false) (kVar 2) (kC (.str ("under" : String))))) (kCallT w_under_of 2 (kCons (kVar 5) (kCons (kVar 3) kNil))) (kCallT w_power_of 2 (kCons (kVar 5) (kCons (kVar 3) kNil)))))
def kr_step_effect_2 (n : Nat) : KS := (kSeq (kAsg (kCallT (w_phrase_effect n) 2 (kCons (kVar 4) (kCons (kVar 1) kNil))) (kgName 5))
  (kr_step_effect_1 n))
def kr_step_effect_3 (n : Nat) : KS := (kSeq (kAsg (kFrz 0) (kgTup 3 (kgCons (kgName 2) (kgCons (kgName 3) (kgCons (kgName 4) kgNil)))))
  (kr_step_effect_2 n))
local macro_rules | `(tactic| walk_at "go") => `(tactic| ((first | unfold kr_step_effect_1 | unfold kr_step_effect_2 | unfold kr_step_effect_3); walk_at "ev"))
def kb_phrase_effect_1 (n : Nat) : KS := (kAsg (kCallT w_join_of 2 (kCons (kVar 2) (kCons (kCallS (w_step_effect (n + 1)) 2 (kCons (kFrz 3) (kCons (kFrz 1) kNil))) kNil))) (kgName 2))
def kr_phrase_effect_2 (n : Nat) : KS := (kRet (kMov 2))
def kr_phrase_effect_3 (n : Nat) : KS := (kSeq (kFor (kIt true (kFrz 0)) (kgName 3) (kb_phrase_effect_1 n))
  (kr_phrase_effect_2 n))
local macro_rules | `(tactic| walk_at "go") => `(tactic| ((first | unfold kr_phrase_effect_2 | unfold kr_phrase_effect_3); walk_at "ev"))
def w_Book___init__ (p : Prog K mg) : TwI := fun ds Q => ∃ rs : Rows, ds = [objD p.C_Book [] [], dRows rs] ∧ rs.length ≤ 100000 ∧ okW [] rs ∧ Q .none (dBook p.C_Book (lstR rs))
theorem ar_Book___init__ (p : Prog K mg) : ∀ ds G, w_Book___init__ p ds G → ds.length = 2 := by
  rintro ds G ⟨_, rfl, _⟩
  rfl
def kr_Book___init___1 (p : Prog K mg) : KS := (kDrop (kApp (kFld p.C_Book "kept" (kVar 0)) (kMk false 2 (kCons (kVar 3) (kCons (kCallT (w_copy_of 60) 1 (kCons (kVar 4) kNil)) kNil)))))
def kr_Book___init___2 (p : Prog K mg) : KS := (kDPut 2 (kC (.bool true)) (kVar 3))
def kr_Book___init___3 (p : Prog K mg) : KS := (kSeq (kIfS (kTest (kIs "tuple" (kVar 4)))
  (kDrop (kApp (kFld p.C_Book "kept" (kVar 0)) (kMk false 2 (kCons (kVar 3) (kCons (kCallT w_checked 1 (kCons (kVar 4) kNil)) kNil)))))
  (kSeq (kDrop (kCallT (w_check_phrase 24) 2 (kCons (kVar 4) (kCons (kVar 2) kNil))))
  (kr_Book___init___1 p)))
  (kr_Book___init___2 p))
def kr_Book___init___4 (p : Prog K mg) : KS := (kSeq (kIfS (kTest (kDIn false (kVar 3) 2))
  kNever
  kNext)
  (kr_Book___init___3 p))
def kb_Book___init___5 (p : Prog K mg) : KS := (kSeq (kIfS (kTNot (kTest (kCallT w_is_name 1 (kCons (kVar 3) kNil))))
  kNever
  kNext)
  (kr_Book___init___4 p))
def kr_Book___init___6 (p : Prog K mg) : KS := (kFor (kIt true (kFrz 1)) (kgTup 2 (kgCons (kgName 3) (kgCons (kgName 4) kgNil))) (kb_Book___init___5 p))
def kr_Book___init___7 (p : Prog K mg) : KS := (kSeq (kAsg kDNew (kgName 2))
  (kr_Book___init___6 p))
def k_Book___init__ (p : Prog K mg) : KS := (kSeq (kFldPut p.C_Book 0 "kept" (kLit (.list [])))
  (kr_Book___init___7 p))
local macro_rules | `(tactic| walk_at "go") => `(tactic| ((first | unfold kr_Book___init___1 | unfold kr_Book___init___2 | unfold kr_Book___init___3 | unfold kr_Book___init___4 | unfold kr_Book___init___6 | unfold kr_Book___init___7); walk_at "ev"))
theorem val_Book___init__ (p : Prog K mg) : ∀ d0 ds G, w_Book___init__ p (d0 :: ds) G → k_Book___init__ p ⟨.io d0 :: (ds.map Sl.fz ++ [.jk, .jk, .jk]), [], 0⟩ (edI G) := by
  rintro d0 ds Gq ⟨rs, e0, hl, ok, q⟩
  simp only [List.cons.injEq] at e0
  obtain ⟨rfl, rfl⟩ := e0
  unfold k_Book___init__
  walk_at "ev"
  rw [if_pos (by decide)]
  walk_at "go"
  walk_at "go"
  have okA : ∀ {a b : Rows} {ks : List Str}, okW ks (a ++ b) → okW (ks ++ a.map (·.1)) b := by
    intro a
    induction a with
    | nil => intro b ks o; simpa using o
    | cons r a ih =>
      obtain ⟨x, m⟩ := r
      intro b ks o
      rw [List.cons_append] at o
      unfold okW at o
      have := ih o.2
      rw [List.append_assoc] at this
      simpa using this
  refine forL_inv rs dRow (fun pre γ => ∃ b c, γ = ⟨[.io (dBook p.C_Book (lstR pre)), .fz (dRows rs), .dc ((pre.map (·.1)).map fun y => (Sum.inr y, .bool true)), b, c], [.fz (.list (rs.map dRow))], 0⟩) (fun pre x post γ N hl ht hP hN => ?_) (fun γ ht hP => ?_) _ rfl ⟨.jk, .jk, rfl⟩
  · obtain ⟨b, c, rfl⟩ := hP
    obtain ⟨x, m⟩ := x
    have mx : (x, m) ∈ rs := hl ▸ List.mem_append_right _ List.mem_cons_self
    have hlen := congrArg List.length hl
    rw [List.length_append, List.length_cons] at hlen
    have o := okA (hl ▸ ok)
    rw [List.nil_append] at o
    unfold okW at o
    obtain ⟨⟨x8, xn, xk, o1, o2⟩, _⟩ := o
    have vn : valM ((pre.map (·.1)).map fun y => ((Sum.inr y : Key), PyData.bool true)) (Sum.inr x : Key) = none := by
      rw [valM_none_mem]
      intro q hq
      obtain ⟨y, hy, rfl⟩ := List.mem_map.mp hq
      intro z
      injection z with z
      exact xk (z ▸ hy)
    have fin : ∀ s, s = Sl.io (dBook p.C_Book (lstR (pre ++ [(x, m)]))) → ∀ c', N ⟨[s, .fz (dRows rs), .dc (putM ((pre.map (·.1)).map fun y => ((Sum.inr y : Key), PyData.bool true)) (Sum.inr x) (.bool true)), .fz (.str x), c'], [.fz (.list (rs.map dRow))], 0⟩ := fun s hs c' => hN _ rfl ⟨.fz (.str x), c', by rw [hs, putM_new vn]; simp⟩
    rw [show dRow (x, m) = .tuple [.str x, dM m] from rfl]
    walk_at "ev"
    unfold kb_Book___init___5
    walk_at "ev"
    refine ⟨x, rfl, by omega, ?_⟩
    rw [xn]
    walk_at "ev"
    walk_at "go"
    rw [vn]
    walk_at "ev"
    walk_at "go"
    cases m with
    | fx e =>
      rw [show dM (.fx e) = .tuple [.int e.1, dI e.2] from rfl]
      obtain ⟨f1, f2⟩ := o1 e rfl
      walk_at "ev"
      refine ⟨e.1, e.2, rfl, f1, f2, ?_⟩
      have lp : (lstR pre).length < 10000000 := by unfold lstR; rw [List.length_map]; omega
      walk_at "ev"
      refine ⟨lp, ?_⟩
      walk_at "go"
      refine ⟨by omega, fin _ ?_ _⟩
      exact congrArg (fun r => Sl.io (bookD p.C_Book r)) (lstR_snoc pre x (.fx e)).symm
    | ph l =>
      rw [show dM (.ph l) = .list (dSteps l) from rfl]
      obtain ⟨g1, g2, g3⟩ := o2 l rfl
      walk_at "ev"
      refine ⟨l, _, rfl, by omega, g1, ?_⟩
      have lp : (lstR pre).length < 10000000 := by unfold lstR; rw [List.length_map]; omega
      have d3 := dp_M (.ph l)
      have d4 : dpM (.ph l) = dpSs l := rfl
      walk_at "ev"
      walk_at "go"
      refine ⟨.list (dSteps l), rfl, by show (dM (.ph l)).depth < 60; omega, hd_M (.ph l), by show G.wd (dM (.ph l)) ≤ 10000000; omega, ?_⟩
      walk_at "ev"
      refine ⟨lp, ?_⟩
      walk_at "go"
      refine ⟨by omega, fin _ ?_ _⟩
      exact congrArg (fun r => Sl.io (bookD p.C_Book r)) (lstR_snoc pre x (.ph l)).symm
  · obtain ⟨b, c, rfl⟩ := hP
    walk_at "ev"
    exact q
theorem ok_Book___init__ (p : Prog K mg) : FnG P w K mg base CX0 87 p.f_Book___init__ p.fd_Book___init__ ["self", "words"] (spI (w_Book___init__ p)) :=
  okI p.d_Book___init__.F sc_Book___init__ (by decide) (ar_Book___init__ p) (fun cdv A outer s H E hg hr => ⟨_, (pss_cons (ps_fld (pv 0) (pe_lst pa_nil) rfl)
      (pss_cons (ps_set (i := 2) sc_Book___init__.nd rfl (Or.inl rfl) pe_dnewK)
      (pss_one (ps_for PassesOwn.never rfl (pi_list (pv 1)) (pg_tup rfl (pgs_cons (pg_name (i := 3) sc_Book___init__.nd rfl (Or.inl rfl)) (pgs_cons (pg_name (i := 4) sc_Book___init__.nd rfl (Or.inl rfl)) pgs_nil)))
      (pss_cons (ps_if (pt_not (pt_val (pe_callG ((ok_is_name p).mono (by decide)) hg hr (by rfl) p.d_is_name.gl p.d_is_name.kp p.d_is_name.bd pass0 (pa_cons (pv 3) pa_nil))))
      (pss_one ps_never) pss_nil)
      (pss_cons (ps_if (pt_cmp (pc_din (Nat.lt_of_le_of_lt (Nat.add_le_add_left (show 1 ≤ 64 by decide) _) hr.units) (pv 3) (pv 2)))
      (pss_one ps_never) pss_nil)
      (pss_cons (ps_if (pt_val (pe_callB call_isi (by rfl) p.blt.isinstance (by decide +kernel) (pa_cons (pv 4) (pa_cons (pe_bltn (v := .ty "tuple") (by rfl) p.blt.tuple (by decide +kernel) rfl) pa_nil))))
      (pss_one (ps_expr (pe_bm PySem.F.plainAttrs_list PySem.F.slot_list_append PySem.F.type_list_append mt_append (pe_fld (pv 0) rfl) (pa_cons (pe_tup (pa_cons (pv 3) (pa_cons (pe_callG ((ok_checked p).mono (by decide)) hg hr (by rfl) p.d_checked.gl p.d_checked.kp p.d_checked.bd pass0 (pa_cons (pv 4) pa_nil)) pa_nil))) pa_nil)))) (pss_cons (ps_expr (pe_callG ((ok_check_phrase p 24).mono (by decide)) hg hr (by rfl) p.d_check_phrase.gl p.d_check_phrase.kp p.d_check_phrase.bd pass0 (pa_cons (pv 4) (pa_cons (pv 2) pa_nil))))
      (pss_one (ps_expr (pe_bm PySem.F.plainAttrs_list PySem.F.slot_list_append PySem.F.type_list_append mt_append (pe_fld (pv 0) rfl) (pa_cons (pe_tup (pa_cons (pv 3) (pa_cons (pe_callG ((ok_copy_of p 60).mono (by decide)) hg hr (by rfl) p.d_copy_of.gl p.d_copy_of.kp p.d_copy_of.bd pass0 (pa_cons (pv 4) pa_nil)) pa_nil))) pa_nil))))))
      (pss_one (ps_dput (Nat.lt_of_le_of_lt (Nat.add_le_add_left (show 1 ≤ 64 by decide) _) hr.units) (pv 2) (pv 3) pe_bl (by rfl)))))))))),
    fun C xc => (so_seq (so_fldPut p.cl_Book p.na_Book_kept (so_lit_lst so_lits_nil))
      (so_seq (so_asg so_dnew (so_gname (i := 2)))
      (so_for (so_itL (so_frz (i := 1))) (so_gtup (so_gcons (so_gname (i := 3)) (so_gcons (so_gname (i := 4)) so_gnil)))
      (so_seq (so_ifS (so_tnot (so_test (so_callT (so_cons (so_var (i := 3)) so_nil))))
      so_never so_next)
      (so_seq (so_ifS (so_test (so_din (i := 2) (so_var (i := 3))))
      so_never so_next)
      (so_seq (so_ifS (so_test (so_is kitT_tuple (so_var (i := 4))))
      (so_drop (so_app (so_fld p.cl_Book p.na_Book_kept (so_var (i := 0))) (so_tup (so_cons (so_var (i := 3)) (so_cons (so_callT (so_cons (so_var (i := 4)) so_nil)) so_nil))))) (so_seq (so_drop (so_callT (so_cons (so_var (i := 4)) (so_cons (so_var (i := 2)) so_nil))))
      (so_drop (so_app (so_fld p.cl_Book p.na_Book_kept (so_var (i := 0))) (so_tup (so_cons (so_var (i := 3)) (so_cons (so_callT (so_cons (so_var (i := 4)) so_nil)) so_nil)))))))
      (so_dput (i := 2) (so_c (sca_bl _)) (so_var (i := 3)))))))))⟩) (val_Book___init__ p)
def w_Book_words (p : Prog K mg) : Tw := fun ds Q => ∃ rs : Rows, ds = [dBook p.C_Book rs] ∧ rowsC rs ∧ Q (dRows rs)
theorem ar_Book_words (p : Prog K mg) : ∀ ds G, w_Book_words p ds G → ds.length = 1 := by
  rintro ds G ⟨_, rfl, _⟩
  rfl
def k_Book_words (p : Prog K mg) : KS := (kRet (kLc2 (kIt true (kFld p.C_Book "kept" (kVar 0))) 1 2 kYes (kMk false 2 (kCons (kVar 1) (kCons (kCallT (w_copy_of 60) 1 (kCons (kVar 2) kNil)) kNil)))))
theorem val_Book_words (p : Prog K mg) : ∀ ds G, w_Book_words p ds G → k_Book_words p ⟨ds.map Sl.fz ++ [.jk, .jk], [], 0⟩ (edT G) := by
  rintro ds Gq ⟨rs, rfl, l, q⟩
  unfold k_Book_words
  walk_at "ev"
  obtain ⟨l1, l2⟩ := l
  refine lc2_inv (i := 1) (j := 2) (by decide) true rs (fun r => .str r.1) (fun r => dM r.2) (fun pre acc m => acc = pre.map dRow ∧ pre.length ≤ rs.length ∧ m = 0) rfl rfl rfl (fun pre acc m hp => by obtain ⟨rfl, h, _⟩ := hp; rw [List.length_map]; omega) (fun pre x post acc m Y X hl hp hY hX => ?_) (fun acc m hp => ?_) [] 0 ⟨rfl, Nat.zero_le _, rfl⟩
  · obtain ⟨rfl, h, rfl⟩ := hp
    have hlen := congrArg List.length hl
    rw [List.length_append, List.length_cons] at hlen
    have mx : x ∈ rs := hl ▸ List.mem_append_right _ List.mem_cons_self
    obtain ⟨d1, d2⟩ := l2 x mx
    have d3 := dp_M x.2
    walk_at "ev"
    refine ⟨dM x.2, rfl, by omega, hd_M _, by omega, ?_⟩
    walk_at "ev"
    have fin : ∀ s, con s = some (true, .tuple [.str x.1, dM x.2]) → Y ⟨[.fz (dBook p.C_Book rs), .fz (.str x.1), .fz (dM x.2)], [s, .ow true (.list (pre.map dRow)), .fz (.list (rs.map dRow))], 0⟩ := fun s hs => hY s true _ 0 hs rfl ⟨by rw [List.map_append]; rfl, by rw [List.length_append, List.length_singleton]; omega, rfl⟩
    split
    · rename_i h
      exact fin _ (by simp [con, nolist, nolists, h])
    · exact fin _ rfl
  · obtain ⟨rfl, h, rfl⟩ := hp
    exact ⟨⟨rfl, rfl⟩, q⟩
theorem ok_Book_words (p : Prog K mg) : FnG P w K mg base CX0 62 p.f_Book_words p.fd_Book_words ["self"] (spT (w_Book_words p)) :=
  okT p.d_Book_words.F sc_Book_words (by decide) (ar_Book_words p) (fun cdv A outer s H E hg hr => ⟨_, (pss_one (ps_ret (pe_lc (own := [("name", 1), ("meaning", 2)]) (g := gTup K 2 (gCons (gName 1) (gCons (gName 2) gNil))) (tt := tYes) rfl sc_Book_words.nd (pi_list (pe_fld (pv 0) rfl)) (blkOk_by (N := N_Book_words) (sc := defScope s_Book_words) (by decide +kernel)) (fun _ _ _ _ _ => pg_tup rfl (pgs_cons (pg_name (i := 1) sc_Book_words.nd rfl (Or.inl rfl)) (pgs_cons (pg_name (i := 2) sc_Book_words.nd rfl (Or.inl rfl)) pgs_nil))) (fun _ _ _ _ _ => pts_nil) (fun _ _ _ _ _ => (pe_tup (pa_cons (pv 1) (pa_cons (pe_callG ((ok_copy_of p 60).mono (by decide)) hg hr (by rfl) p.d_copy_of.gl p.d_copy_of.kp p.d_copy_of.bd pass0 (pa_cons (pv 2) pa_nil)) pa_nil))))))),
    fun C xc => (so_ret (so_lc2 (i := 1) (j := 2) (by decide) (so_itL (so_fld p.cl_Book p.na_Book_kept (so_var (i := 0)))) so_yes (so_tup (so_cons (so_var (i := 1)) (so_cons (so_callT (so_cons (so_var (i := 2)) so_nil)) so_nil)))))⟩) (val_Book_words p)
def w_Book_names (p : Prog K mg) : Tw := fun ds Q => ∃ rs : Rows, ds = [dBook p.C_Book rs] ∧ rs.length ≤ 100000 ∧ Q (dS (rs.map (·.1)))
theorem ar_Book_names (p : Prog K mg) : ∀ ds G, w_Book_names p ds G → ds.length = 1 := by
  rintro ds G ⟨_, rfl, _⟩
  rfl
def k_Book_names (p : Prog K mg) : KS := (kRet (kLc2 (kIt true (kFld p.C_Book "kept" (kVar 0))) 1 2 kYes (kVar 1)))
theorem val_Book_names (p : Prog K mg) : ∀ ds G, w_Book_names p ds G → k_Book_names p ⟨ds.map Sl.fz ++ [.jk, .jk], [], 0⟩ (edT G) := by
  rintro ds Gq ⟨rs, rfl, l, q⟩
  unfold k_Book_names
  walk_at "ev"
  refine lc2_inv (i := 1) (j := 2) (by decide) true rs (fun r => .str r.1) (fun r => dM r.2) (fun pre acc m => acc = (pre.map (·.1)).map PyData.str ∧ pre.length ≤ rs.length ∧ m = 0) rfl rfl rfl (fun pre acc m hp => by obtain ⟨rfl, h, _⟩ := hp; rw [List.length_map, List.length_map]; omega) (fun pre x post acc m Y X hl hp hY hX => ?_) (fun acc m hp => ?_) [] 0 ⟨rfl, Nat.zero_le _, rfl⟩
  · obtain ⟨rfl, h, rfl⟩ := hp
    have hlen := congrArg List.length hl
    rw [List.length_append, List.length_cons] at hlen
    walk_at "ev"
    exact hY _ true _ 0 rfl rfl ⟨by simp, by rw [List.length_append, List.length_singleton]; omega, rfl⟩
  · obtain ⟨rfl, h, rfl⟩ := hp
    exact ⟨⟨rfl, rfl⟩, q⟩
theorem ok_Book_names (p : Prog K mg) : FnG P w K mg base CX0 1 p.f_Book_names p.fd_Book_names ["self"] (spT (w_Book_names p)) :=
  okT p.d_Book_names.F sc_Book_names (by decide) (ar_Book_names p) (fun cdv A outer s H E hg hr => ⟨_, (pss_one (ps_ret (pe_lc (own := [("name", 1), ("meaning", 2)]) (g := gTup K 2 (gCons (gName 1) (gCons (gName 2) gNil))) (tt := tYes) rfl sc_Book_names.nd (pi_list (pe_fld (pv 0) rfl)) (blkOk_by (N := N_Book_names) (sc := defScope s_Book_names) (by decide +kernel)) (fun _ _ _ _ _ => pg_tup rfl (pgs_cons (pg_name (i := 1) sc_Book_names.nd rfl (Or.inl rfl)) (pgs_cons (pg_name (i := 2) sc_Book_names.nd rfl (Or.inl rfl)) pgs_nil))) (fun _ _ _ _ _ => pts_nil) (fun _ _ _ _ _ => (pv 1))))),
    fun C xc => (so_ret (so_lc2 (i := 1) (j := 2) (by decide) (so_itL (so_fld p.cl_Book p.na_Book_kept (so_var (i := 0)))) so_yes (so_var (i := 1))))⟩) (val_Book_names p)
def w_Book_effects_held (p : Prog K mg) : Tw := fun ds Q => ∃ (rs : Rows) (ws : List Str), ds = [dBook p.C_Book rs, dS ws] ∧ ws.length ≤ 100000 ∧ rowsZ rs ∧ (rs.map (·.1)).Nodup ∧ okB (needL ws rs.reverse) [] rs ∧ Q (dictD (heldM (heldB (needL ws rs.reverse) [] rs)))
/-- the keys that stand in a dict -/
def KS1 (m : List (Key × D)) (S : List Str) : Prop := (∀ x, (valM m (Sum.inr x : Key)).isSome = decide (x ∈ S)) ∧ m.length ≤ S.length
theorem KS1.put {m : List (Key × D)} {S : List Str} (h : KS1 m S) (x : Str) (c : D) : KS1 (putM m (Sum.inr x) c) (S ++ [x]) := by
  refine ⟨fun y => ?_, ?_⟩
  · rw [valM_put]
    by_cases e : x = y
    · subst e
      simp
    · rw [if_neg (by intro z; injection z with z; exact e z), h.1 y]
      simp [Ne.symm e]
  · have := h.2
    unfold putM
    split
    · rw [List.length_map, List.length_append]; omega
    · rw [List.length_append, List.length_append, List.length_singleton, List.length_singleton]; omega
def kb_Book_effects_held_1 (p : Prog K mg) : KS := (kDPut 3 (kC (.bool true)) (kVar 5))
def kb_Book_effects_held_2 (p : Prog K mg) : KS := (kIfS (kTAnd (kTest (kDIn false (kVar 2) 3)) (kTest (kIs "list" (kVar 4))))
  (kFor (kIt true (kCallT (w_names_in 24) 1 (kCons (kVar 4) kNil))) (kgName 5) (kb_Book_effects_held_1 p))
  kNext)
def kb_Book_effects_held_3 (p : Prog K mg) : KS := (kIfS (kTest (kDIn false (kVar 2) 3))
  (kDPut 6 (kFz (kIf (kTest (kIs "tuple" (kVar 4))) (kFrz 4) (kCallT (w_phrase_effect 24) 2 (kCons (kVar 4) (kCons (kVar 6) kNil))))) (kVar 2))
  kNext)
def kr_Book_effects_held_4 (p : Prog K mg) : KS := (kRet (kFrz 6))
def kr_Book_effects_held_5 (p : Prog K mg) : KS := (kSeq (kFor (kIt true (kFld p.C_Book "kept" (kVar 0))) (kgTup 2 (kgCons (kgName 2) (kgCons (kgName 4) kgNil))) (kb_Book_effects_held_3 p))
  (kr_Book_effects_held_4 p))
def kr_Book_effects_held_6 (p : Prog K mg) : KS := (kSeq (kAsg kDNew (kgName 6))
  (kr_Book_effects_held_5 p))
def kr_Book_effects_held_7 (p : Prog K mg) : KS := (kSeq (kFor (kIt true (kRev (kFld p.C_Book "kept" (kVar 0)))) (kgTup 2 (kgCons (kgName 2) (kgCons (kgName 4) kgNil))) (kb_Book_effects_held_2 p))
  (kr_Book_effects_held_6 p))
local macro_rules | `(tactic| walk_at "go") => `(tactic| ((first | unfold kr_Book_effects_held_4 | unfold kr_Book_effects_held_5 | unfold kr_Book_effects_held_6 | unfold kr_Book_effects_held_7); walk_at "ev"))
def kr_Book_effect_1 (p : Prog K mg) : KS := (kRet (kMk false 2 (kCons (kVar 2) (kCons (kListOf (kCons (kVar 3) kNil)) kNil))))
def kr_Book_effect_2 (p : Prog K mg) : KS := (kSeq (kAsg (kDGetE (kMethS p.C_Book "effects_held" (w_Book_effects_held p) 1 (kFrz 0) (kCons (kMk true 1 (kCons (kVar 1) kNil)) kNil)) (kVar 1)) (kgTup 2 (kgCons (kgName 2) (kgCons (kgName 3) kgNil))))
  (kr_Book_effect_1 p))
local macro_rules | `(tactic| walk_at "go") => `(tactic| ((first | unfold kr_Book_effect_1 | unfold kr_Book_effect_2); walk_at "ev"))
def w_Book___len__ (p : Prog K mg) : Tw := fun ds Q => ∃ rs : Rows, ds = [dBook p.C_Book rs] ∧ rs.length ≤ 100000 ∧ Q (.int rs.length)
theorem ar_Book___len__ (p : Prog K mg) : ∀ ds G, w_Book___len__ p ds G → ds.length = 1 := by
  rintro ds G ⟨_, rfl, _⟩
  rfl
def k_Book___len__ (p : Prog K mg) : KS := (kRet (kF 1 vLen (kCons (kFld p.C_Book "kept" (kVar 0)) kNil)))
theorem val_Book___len__ (p : Prog K mg) : ∀ ds G, w_Book___len__ p ds G → k_Book___len__ p ⟨ds.map Sl.fz ++ [], [], 0⟩ (edT G) := by
  rintro ds Gq ⟨rs, rfl, l, q⟩
  unfold k_Book___len__
  walk_at "ev"
  exact q
theorem ok_Book___len__ (p : Prog K mg) : FnG P w K mg base CX0 1 p.f_Book___len__ p.fd_Book___len__ ["self"] (spT (w_Book___len__ p)) :=
  okT p.d_Book___len__.F sc_Book___len__ (by decide) (ar_Book___len__ p) (fun cdv A outer s H E hg hr => ⟨_, (pss_one (ps_ret (pe_callB call_len_seq (by rfl) p.blt.len PySem.boot_len (pa_cons (pe_fld (pv 0) rfl) pa_nil)))),
    fun C xc => (so_ret (so_f sc_len (so_cons (so_fld p.cl_Book p.na_Book_kept (so_var (i := 0))) so_nil)))⟩) (val_Book___len__ p)
def w_Book___eq__ (p : Prog K mg) : Tw := fun ds Q => ∃ rs qs : Rows, ds = [dBook p.C_Book rs, dBook p.C_Book qs] ∧ SeqAt.shaped (dRows rs) = true ∧ SeqAt.shaped (dRows qs) = true ∧ Q (.bool (PyData.eqv (dRows rs) (dRows qs)))
theorem ar_Book___eq__ (p : Prog K mg) : ∀ ds G, w_Book___eq__ p ds G → ds.length = 2 := by
  rintro ds G ⟨_, _, rfl, _⟩
  rfl
def k_Book___eq__ (p : Prog K mg) : KS := (kRet (kAndV (kIsC p.C_Book (kVar 1)) (kOp (vEqD false) (kFld p.C_Book "kept" (kVar 0)) (kFld p.C_Book "kept" (kVar 1)))))
theorem val_Book___eq__ (p : Prog K mg) : ∀ ds G, w_Book___eq__ p ds G → k_Book___eq__ p ⟨ds.map Sl.fz ++ [], [], 0⟩ (edT G) := by
  rintro ds Gq ⟨rs, qs, rfl, s1, s2, q⟩
  unfold k_Book___eq__
  walk_at "ev"
  exact ⟨s1, s2, q⟩
theorem ok_Book___eq__ (p : Prog K mg) : FnG P w K mg base CX0 1 p.f_Book___eq__ p.fd_Book___eq__ ["self", "other"] (spT (w_Book___eq__ p)) :=
  okT p.d_Book___eq__.F sc_Book___eq__ (by decide) (ar_Book___eq__ p) (fun cdv A outer s H E hg hr => ⟨_, (pss_one (ps_ret (pe_and (pe_callB (C8.call_isC p.ic_Book) (by rfl) p.blt.isinstance (by decide +kernel) (pa_cons (pv 1) (pa_cons (pe_glob (v := .ref p.C_Book) (by rfl) p.mg_Book rfl) pa_nil))) (pe_one (pe_cmpR (op_eqD hr.units) (pe_fld (pv 0) rfl) (pe_fld (pv 1) rfl) (nomark _)))))),
    fun C xc => (so_ret (so_andV (so_isC (so_var (i := 1))) (so_op sr_eqD (so_fld p.cl_Book p.na_Book_kept (so_var (i := 0))) (so_fld p.cl_Book p.na_Book_kept (so_var (i := 1))))))⟩) (val_Book___eq__ p)
/-- any number below the bound -/
def w__law_coin : Tw := fun ds Q => ∃ m : Int, ds = [.int m] ∧ 0 < m ∧ m < 2 ^ 200 ∧ ∀ r : Int, 0 ≤ r → r < m → Q (.int r)
theorem ok__law_coin (p : Prog K mg) : FnG P w K mg base CX0 3 p.f__law_coin p.fd__law_coin ["_law_purse", "_law_many"] (spP 1 w__law_coin) := by
  refine okG p.d__law_coin.F sc__law_coin (fun vs H Q E h => ?_) (fun cdv A outer s H vs Q E hg hr h => ?_)
  · obtain ⟨p, b, vs', S, ds, G, rfl, _, _, r, _, ⟨m, rfl, _⟩, _⟩ := h
    exact congrArg Nat.succ r.length
  · obtain ⟨u, b, vs', S, ds, G, rfl, hp, hb, r, np, ⟨m, rfl, m0, m1, q⟩, k⟩ := h
    obtain ⟨x, y, z, e, y0, y1, z0, z1⟩ := hp
    cases r with
    | cons r r' =>
      cases r'
      cases r
      have hu : SqL K H u [.int x, .int y, .int z] := SqL.of e
      have ml : m.natAbs.log2 < 9000 := (wide_div (i := 0) (b := 200) m0 (by omega) (by decide) (by decide)).2
      have zb : z.natAbs < 2 ^ 100 := by omega
      refine ⟨_, (pss_cons (ps_if (pt_cmpR op_gt (pe_ix ix_list (pv 0) pe_int (fun _ _ => rfl)) pe_int (nomark _))
      (pss_cons (ps_set (i := 2) sc__law_coin.nd rfl (Or.inl rfl) (pe_op op_mod (pe_callTy call_int1 (by rfl) p.blt.int (by decide +kernel) (pa_cons (pe_ix ix_list (pv 0) pe_int (fun _ _ => rfl)) pa_nil)) (pv 1)))
      (pss_cons (ps_asg (pe_op op_fdivW (pe_ix ix_list (pv 0) pe_int (fun _ _ => rfl)) (pv 1)) (pg_sub (pv 0) pe_int set_list))
      (pss_one (ps_ret (pv 2))))) pss_nil)
      (pss_cons (ps_asg (pe_op op_add (pe_ix ix_list (pv 0) pe_int (fun _ _ => rfl)) pe_int) (pg_sub (pv 0) pe_int set_list))
      (pss_cons (ps_set (i := 3) sc__law_coin.nd rfl (Or.inl rfl) (pe_op op_mod (pe_op op_powW (pe_callTy call_int1 (by rfl) p.blt.int (by decide +kernel) (pa_cons (pe_op op_add (pe_ix ix_list (pv 0) pe_int (fun _ _ => rfl)) (pe_op op_mulB pe_int (pe_ix ix_list (pv 0) pe_int (fun _ _ => rfl)))) pa_nil)) pe_int) (pe_op op_add (pe_op op_powW pe_int pe_int) pe_int)))
      (pss_cons (ps_set (i := 3) sc__law_coin.nd rfl (Or.inl rfl) (pe_op op_mod (pe_op op_powW (pe_callTy call_int1 (by rfl) p.blt.int (by decide +kernel) (pa_cons (pe_op op_add (pv 3) (pe_op op_mulB pe_int (pe_ix ix_list (pv 0) pe_int (fun _ _ => rfl)))) pa_nil)) pe_int) (pe_op op_add (pe_op op_powW pe_int pe_int) pe_int)))
      (pss_one (ps_ret (pe_op op_mod (pe_callTy call_int1 (by rfl) p.blt.int (by decide +kernel) (pa_cons (pe_op op_fdivW (pv 3) pe_int) pa_nil)) (pv 1)))))))), ?_⟩
      -- if purse[0] > 0
      refine ⟨_, rfl, _, _, _, _, rfl, rfl, hu, atI_nat (j := 0) rfl, _, _, rfl, rfl, _, rfl, ?_⟩
      refine iteB (fun _ => ?_) (fun _ => ?_)
      · refine ⟨_, rfl, _, _, _, _, rfl, rfl, hu, atI_nat (j := 0) rfl, .inl ⟨_, rfl, _, rfl, _, _, rfl, rfl, m0, ?_⟩⟩
        refine ⟨_, rfl, _, _, _, _, rfl, rfl, hu, atI_nat (j := 0) rfl, _, rfl, _, _, rfl, rfl, ⟨m0, ml⟩, _, rfl, _, _, _, 0, rfl, rfl, e, rfl, _, rfl, ?_⟩
        refine k _ _ _ (q (x % m) (Int.emod_nonneg _ (by omega)) (Int.emod_lt_of_pos _ m0)) (fun a o eo na => ?_) ⟨x / m, y, z, upd_same, y0, y1, z0, by omega⟩ ⟨[], .int _, by simp, by simp⟩
        rw [upd_ne na]
        exact eo
      · -- purse[2] = purse[2] + 1
        refine ⟨_, rfl, _, _, _, _, rfl, rfl, hu, atI_nat (j := 2) rfl, _, _, rfl, rfl, _, rfl, _, _, _, 2, rfl, rfl, e, rfl, ?_⟩
        have hu2 : SqL K (upd H u (.lst [.int x, .int y, .int (z + 1)])) u [.int x, .int y, .int (z + 1)] := SqL.of upd_same
        have c1 : CMulB 2038074743 (z + 1) := by
          have h1 := bits_of (i := 2038074743) (n := 40) (by decide) (by decide)
          have h2 := bits_of (i := z + 1) (n := 200) (by decide) (by omega)
          show _ < _
          omega
        have c2 : CPowW (y + 2038074743 * (z + 1)) 3 := by
          have h2 := bits_of (i := y + 2038074743 * (z + 1)) (n := 200) (by decide) (by omega)
          refine ⟨by decide, ?_⟩
          omega
        have c3 : CMulB 982451653 (z + 1) := by
          have h1 := bits_of (i := 982451653) (n := 40) (by decide) (by decide)
          have h2 := bits_of (i := z + 1) (n := 200) (by decide) (by omega)
          show _ < _
          omega
        have M1 : (0 : Int) < 10 ^ (25 : Int).toNat + 13 := by decide
        have M2 : (0 : Int) < 10 ^ (24 : Int).toNat + 7 := by decide
        have c4 : ∀ t : Int, CPowW (t % (10 ^ (25 : Int).toNat + 13) + 982451653 * (z + 1)) 2 := fun t => by
          have l1 := Int.emod_nonneg t (show (10 : Int) ^ (25 : Int).toNat + 13 ≠ 0 by decide)
          have l2 := Int.emod_lt_of_pos t M1
          have l3 : (10 : Int) ^ (25 : Int).toNat + 13 < 2 ^ 100 := by decide
          have h2 := bits_of (i := t % (10 ^ (25 : Int).toNat + 13) + 982451653 * (z + 1)) (n := 200) (by decide) (by omega)
          refine ⟨by decide, ?_⟩
          omega
        refine ⟨_, rfl, _, _, _, _, rfl, rfl, hu2, atI_nat (j := 1) rfl, _, rfl, _, _, _, _, rfl, rfl, hu2, atI_nat (j := 2) rfl, _, _, rfl, rfl, c1, _, _, rfl, rfl, .inl ⟨_, rfl, _, _, rfl, rfl, c2, _, _, rfl, rfl, ⟨by decide, by decide⟩, _, _, rfl, rfl, _, _, rfl, rfl, M1, ?_⟩⟩
        refine ⟨_, rfl, _, rfl, _, _, _, _, rfl, rfl, hu2, atI_nat (j := 2) rfl, _, _, rfl, rfl, c3, _, _, rfl, rfl, .inl ⟨_, rfl, _, _, rfl, rfl, c4 _, _, _, rfl, rfl, ⟨by decide, by decide⟩, _, _, rfl, rfl, _, _, rfl, rfl, M2, ?_⟩⟩
        refine ⟨_, rfl, _, _, rfl, rfl, ⟨by decide, by decide +kernel⟩, .inl ⟨_, rfl, _, rfl, _, _, rfl, rfl, m0, ?_⟩⟩
        refine k _ _ _ (q _ (Int.emod_nonneg _ (by omega)) (Int.emod_lt_of_pos _ m0)) (fun a o eo na => ?_) ⟨x, y, z + 1, upd_same, y0, y1, by omega, by omega⟩ ⟨[], .int _, by simp, by simp⟩
        rw [upd_ne na]
        exact eo
/-- [1 + coin(m) for turn in range(n)] -/
theorem coins_lc {σ : L2.St} {H H0 : Hp} {M : Option Addr} {u : Addr} {b : Int} {Fz Ow : List (V × D)} {Tp : List (Addr × List V)} {i j k : Nat} {n m : Int} {Q : VK}
    (hS : St H0 M (some (u, b)) Fz Ow Tp H) (hi : σ[i]? = some (some (.int n))) (h0 : σ[0]? = some (some (.ref u))) (hk : σ[k]? = some (some (.int m))) (nj0 : j ≠ 0) (njk : j ≠ k) (n0 : 0 ≤ n) (n1 : n ≤ 100000) (m0 : 0 < n → 0 < m) (m1 : m < 2 ^ 200) (hb : b + n ≤ 2 ^ 100)
    (q : ∀ (gs : List Int) (Dl : Addr) (H' : Hp), (gs.length : Int) = n → (∀ x ∈ gs, 1 ≤ x ∧ x ≤ m) → St H0 M (some (u, b + n)) Fz ((.ref Dl, dI gs) :: Ow) Tp H' → Q (.ref Dl) H') :
    tLc (iRng1 (tCons (tVar i) tNil)) (gName j) tYes (tOp (rI0 fun i j => V.int (i + j)) (tC (.int 1)) (tCall (spP 1 w__law_coin) [] E0 (tCons (tVar 0) (tCons (tVar k) tNil)))) [j] σ H Q := by
  refine ⟨_, hi, n, rfl, by omega, by omega, fun Dl hD => ?_⟩
  refine lc_range (fun i H1 => ∃ gs : List Int, gs.length = i ∧ (∀ x ∈ gs, 1 ≤ x ∧ x ≤ m) ∧ St H0 M (some (u, b + i)) Fz ((.ref Dl, dI gs) :: Ow) Tp H1) ⟨[], rfl, by simp, by simpa using hS.mkInts (ns := []) hD⟩ (fun i H1 hi1 hI => ?_) (fun H1 hI => ?_)
  · obtain ⟨gs, el, hg, h1⟩ := hI
    have e1 : ∀ x, (List.set (wipe σ [j]) j x)[0]? = σ[0]? := fun x => by
      show ((σ.set j none).set j x)[0]? = _
      rw [List.set_set, List.getElem?_set_ne nj0]
    have e2 : ∀ x, (List.set (wipe σ [j]) j x)[k]? = σ[k]? := fun x => by
      show ((σ.set j none).set j x)[k]? = _
      rw [List.set_set, List.getElem?_set_ne njk]
    refine ⟨?_, ?_⟩
    · show ((σ.set j none).set j _).set j none = σ.set j none
      rw [List.set_set, List.set_set]
    · unfold tYes; dsimp only
      rw [if_pos rfl]
      refine ⟨_, (e1 _).trans h0, _, (e2 _).trans hk, h1.callP (vs := [.int m]) (by omega) (.cons (.int _) .nil) ⟨m, rfl, m0 (by omega), m1, fun r r0 r1 v' H2 h2 => ?_⟩⟩
      obtain ⟨rfl, h3⟩ := h2.int
      obtain ⟨hD2, kp⟩ := h3.putInts
      refine ⟨_, _, rfl, rfl, _, hD2, szlt (by rw [ints_len]; omega), gs ++ [1 + r], by simp [el], fun x hx => ?_, ?_⟩
      · rcases List.mem_append.mp hx with hx | hx
        · exact hg x hx
        · simp at hx
          omega
      · have h4 := kp (gs ++ [1 + r])
        have eb : b + (i : Int) + 1 = b + ((i + 1 : Nat) : Int) := by omega
        rw [eb] at h4
        simpa using h4
  · obtain ⟨gs, el, hg, h1⟩ := hI
    have eb : b + ((n.toNat : Nat) : Int) = b + n := by omega
    rw [eb] at h1
    exact q gs Dl H1 (by omega) hg h1
def w__law_words : Tw := fun ds Q => ∃ m : Int, ds = [.int m] ∧ 0 ≤ m ∧ m ≤ 13 ∧ ∀ xs : List Str, Nms m.toNat xs → Q (dS xs)
theorem ar__law_words : ∀ ds G, w__law_words ds G → ds.length + 1 = 2 := by
  rintro ds G ⟨_, rfl, _⟩
  rfl
def kr__law_words_1 : KS := (kRet (kLc (kRng1 (kVar 1)) 7 kYes (kIx true (kVar 4) (kOp (vI (fun _ j => 0 < j) fun i j => i % j) (kF 1 vInt (kCons (kOp (vI noC fun i j => i + j) (kVar 6) (kOp (vI CMulB fun i j => i * j) (kC (.int 3)) (kVar 7))) kNil)) (kC (.int 14))))))
def kr__law_words_2 : KS := (kRet (kLc (kRng1 (kVar 1)) 7 kYes (kSlS (kVar 5) kNo (kPart (kOp (vI noC fun i j => i + j) (kOp (vI noC fun i j => i + j) (kVar 6) (kVar 7)) (kC (.int 1)))))))
def kr__law_words_3 : KS := (kDrop (kApp (kVar 8) (kJoin ("" : String) (kLc (kRng1 (kVar 9)) 15 kYes (kOp vIxS (kVar 2) (kCallP 1 w__law_coin 1 (kCons (kVar 0) (kCons (kC (.int 26)) kNil))))))))
def kb__law_words_4 : KS := (kSeq (kAsg (kOp (vI noC fun i j => i + j) (kC (.int 1)) (kCallP 1 w__law_coin 1 (kCons (kVar 0) (kCons (kC (.int 8)) kNil)))) (kgName 9))
  kr__law_words_3)
def kb__law_words_5 : KS := (kDrop (kApp (kVar 8) (kIx true (kMk true 2 (kCons (kOp vCatS (kSlS (kVar 11) kNo (kPart (kC (.int 3)))) (kVar 10)) (kCons (kOp vCatS (kVar 10) (kSlS (kVar 11) kNo (kPart (kC (.int 3))))) kNil))) (kCallP 1 w__law_coin 1 (kCons (kVar 0) (kCons (kC (.int 2)) kNil))))))
def kr__law_words_6 : KS := (kAsg (kSl (kVar 8) kNo (kPart (kVar 1))) (kgName 8))
def kr__law_words_7 : KS := (kSeq (kFor (kIt true (kFrz 4)) (kgName 11) kb__law_words_5)
  kr__law_words_6)
def kr__law_words_8 : KS := (kSeq (kAsg (kMk true 1 (kCons (kVar 10) kNil)) (kgName 8))
  kr__law_words_7)
def kr__law_words_9 : KS := (kDrop (kApp (kVar 8) (kOp vCatS (kOp vCatS (kSlS (kVar 12) kNo (kPart (kVar 13))) (kVar 14)) (kSlS (kVar 12) (kPart (kVar 13)) kNo))))
def kb__law_words_10 : KS := (kSeq (kAsg (kOp vIxS (kVar 2) (kOp (vI (fun _ j => 0 < j) fun i j => i % j) (kF 1 vInt (kCons (kOp (vI noC fun i j => i + j) (kVar 6) (kVar 7)) kNil)) (kC (.int 26)))) (kgName 14))
  kr__law_words_9)
def kr__law_words_11 : KS := (kRet (kMov 8))
def kr__law_words_12 : KS := (kSeq (kFor (kRng1 (kVar 1)) (kgName 7) kb__law_words_10)
  kr__law_words_11)
def kr__law_words_13 : KS := (kSeq (kPar 13 8 (kCons (kCallP 1 w__law_coin 1 (kCons (kVar 0) (kCons (kOp (vI noC fun i j => i + j) (kF 1 vLenS (kCons (kVar 12) kNil)) (kC (.int 1))) kNil))) (kCons (kLit (.list [])) kNil)))
  kr__law_words_12)
def kr__law_words_14 : KS := (kSeq (kAsg (kMk false 2 (kCons (kCallP 1 w__law_coin 1 (kCons (kVar 0) (kCons (kC (.int 26)) kNil))) (kCons (kSlS (kVar 5) kNo (kPart (kCallP 1 w__law_coin 1 (kCons (kVar 0) (kCons (kC (.int 8)) kNil))))) kNil))) (kgTup 2 (kgCons (kgName 6) (kgCons (kgName 12) kgNil))))
  kr__law_words_13)
def kr__law_words_15 : KS := (kSeq (kIfS (kTest (kOp (vEq false) (kLenSetT (kVar 8)) (kVar 1)))
  (kRet (kMov 8))
  kNext)
  kr__law_words_14)
def kr__law_words_16 : KS := (kSeq (kIfS (kTest (kOp (vEq false) (kVar 3) (kC (.int 4))))
  (kSeq (kAsg (kSlS (kVar 5) kNo (kPart (kOp (vI noC fun i j => i + j) (kC (.int 1)) (kCallP 1 w__law_coin 1 (kCons (kVar 0) (kCons (kC (.int 5)) kNil)))))) (kgName 10))
  kr__law_words_8)
  kNext)
  kr__law_words_15)
def kr__law_words_17 : KS := (kSeq (kIfS (kTest (kOp (vEq false) (kVar 3) (kC (.int 3))))
  (kFor (kRng1 (kVar 1)) (kgName 7) kb__law_words_4)
  kNext)
  kr__law_words_16)
def kr__law_words_18 : KS := (kSeq (kAsg (kLit (.list [])) (kgName 8))
  kr__law_words_17)
def kr__law_words_19 : KS := (kSeq (kIfS (kTAnd (kTest (kOp (vEq false) (kVar 3) (kC (.int 1)))) (kTest (kOp (vB fun i j => decide (i < j)) (kVar 1) (kC (.int 9)))))
  (kSeq (kAsg (kCallP 1 w__law_coin 1 (kCons (kVar 0) (kCons (kOp (vI noC fun i j => i - j) (kC (.int 9)) (kVar 1)) kNil))) (kgName 6))
  kr__law_words_2)
  kNext)
  kr__law_words_18)
def kr__law_words_20 : KS := (kSeq (kIfS (kTAnd (kTest (kOp (vEq false) (kVar 3) (kC (.int 0)))) (kTest (kOp (vB fun i j => decide (i < j)) (kVar 1) (kC (.int 15)))))
  (kSeq (kAsg (kCallP 1 w__law_coin 1 (kCons (kVar 0) (kCons (kC (.int 14)) kNil))) (kgName 6))
  kr__law_words_1)
  kNext)
  kr__law_words_19)
def kr__law_words_21 : KS := (kSeq (kAsg (kJoin ("" : String) (kLc (kRng1 (kC (.int 8))) 15 kYes (kOp vIxS (kVar 2) (kCallP 1 w__law_coin 1 (kCons (kVar 0) (kCons (kC (.int 26)) kNil)))))) (kgName 5))
  kr__law_words_20)
def kr__law_words_22 : KS := (kSeq (kAsg (kCat (kVar 4) (kLit (.list [(.str ("times" : String)), (.str ("a" : String)), (.str ("b" : String)), (.str ("tuck" : String)), (.str ("pick" : String)), (.str ("two" : String)), (.str ("no" : String))]))) (kgName 4))
  kr__law_words_21)
def kr__law_words_23 : KS := (kSeq (kAsg (kLit (.list [(.str ("dup" : String)), (.str ("drop" : String)), (.str ("swap" : String)), (.str ("over" : String)), (.str ("rot" : String)), (.str ("nip" : String)), (.str ("under" : String))])) (kgName 4))
  kr__law_words_22)
def k__law_words : KS := (kSeq (kAsg (kMk false 2 (kCons (kC (.str ("abcdefghijklmnopqrstuvwxyz" : String))) (kCons (kCallP 1 w__law_coin 1 (kCons (kVar 0) (kCons (kC (.int 5)) kNil))) kNil))) (kgTup 2 (kgCons (kgName 2) (kgCons (kgName 3) kgNil))))
  kr__law_words_23)
local macro_rules | `(tactic| walk_at "go") => `(tactic| ((first | unfold kr__law_words_1 | unfold kr__law_words_2 | unfold kr__law_words_3 | unfold kr__law_words_6 | unfold kr__law_words_7 | unfold kr__law_words_8 | unfold kr__law_words_9 | unfold kr__law_words_11 | unfold kr__law_words_12 | unfold kr__law_words_13 | unfold kr__law_words_14 | unfold kr__law_words_15 | unfold kr__law_words_16 | unfold kr__law_words_17 | unfold kr__law_words_18 | unfold kr__law_words_19 | unfold kr__law_words_20 | unfold kr__law_words_21 | unfold kr__law_words_22 | unfold kr__law_words_23); walk_at "ev"))
theorem val__law_words : ∀ ds G, w__law_words ds G → k__law_words ⟨.pu :: (ds.map Sl.fz ++ [.jk, .jk, .jk, .jk, .jk, .jk, .jk, .jk, .jk, .jk, .jk, .jk, .jk, .jk]), [], 400⟩ (edP G) := by
  rintro ds Gq ⟨m, rfl, m0, m1, q⟩
  unfold k__law_words
  have l26 : LETS.length = 26 := by decide +kernel
  have l26' : (("abcdefghijklmnopqrstuvwxyz" : String) : Str).length = 26 := l26
  walk_at "ev"
  refine ⟨⟨by decide, by decide⟩, 5, rfl, by decide, by decide, fun o o0 o1 => ?_⟩
  walk_at "ev"
  walk_at "go"
  walk_at "go"
  walk_at "go"
  refine ⟨by decide, ?_⟩
  refine ⟨⟨by decide, by decide⟩, ?_⟩
  have lc8 : ∀ c : Nat, c ∈ LETS.cps.toList → (⟨#[c]⟩ : Str).length = 1 ∧ Lt ⟨#[c]⟩ := fun c h => ⟨rfl, Lt.one h⟩
  refine lc_inv true (rg 0 8) PyData.int (fun pre acc m => ∃ ys : List Str, acc = ys.map PyData.str ∧ ys.length = pre.length ∧ m = 399 - pre.length ∧ pre.length ≤ 8 ∧ ∀ y ∈ ys, y.length = 1 ∧ Lt y) rfl rfl (fun pre acc m hp => ?_) (fun pre x post acc m Y X hl hp hY hX => ?_) (fun acc m' hp => ?_) [] _ ⟨[], rfl, rfl, by simp, by simp, by simp⟩
  · obtain ⟨ys, rfl, h1, h2, h3, h4⟩ := hp
    rw [List.length_map]
    omega
  · obtain ⟨ys, rfl, h1, h2, h3, h4⟩ := hp
    have hlen := congrArg List.length hl
    rw [rg_length, List.length_append, List.length_cons] at hlen
    walk_at "ev"
    refine ⟨⟨by decide, by omega⟩, 26, rfl, by decide, by decide, fun g g0 g1 => ?_⟩
    walk_at "ev"
    refine vIxS_any g0 (by rw [l26']; exact g1) (by rw [l26']; decide) fun c hc => ?_
    refine hY _ true (.str ⟨#[c]⟩) _ rfl rfl ⟨ys ++ [⟨#[c]⟩], by simp, by simp [h1], by rw [List.length_append, List.length_singleton]; omega, by rw [List.length_append, List.length_singleton]; omega, fun y hy => ?_⟩
    rcases List.mem_append.mp hy with hy | hy
    · exact h4 y hy
    · rw [List.mem_singleton.mp hy]
      exact lc8 c hc
  · obtain ⟨ys, rfl, h1, h2, h3, h4⟩ := hp
    rw [rg_length] at h1 h2 h3
    have h1 : ys.length = 8 := h1
    walk_at "ev"
    have e0 : (("" : String) : Str).length = 0 := by decide +kernel
    refine ⟨by rw [sum_ones h4, e0]; omega, ?_⟩
    obtain ⟨w1, w2⟩ := join_word h4
    obtain ⟨st, hst⟩ : ∃ st : Str, Txt.join ("" : String) ys = st := ⟨_, rfl⟩
    rw [hst] at w1 w2 ⊢
    rw [h1] at w1
    have km : 391 ≤ m' := by omega
    have mz : (m.toNat : Int) = m := by omega
    have h12 : ∀ (s6 : Int) (s7 s8 s9 s10 s11 : Sl) (tl : Str) (k : Int) (mn : Sl), 0 ≤ s6 → s6 < 26 → tl.length ≤ 7 → Lt tl → 1 ≤ k → noAl 13 [] = true → kr__law_words_13 ⟨[.pu, .fz (.int m), .fz (.str LETS), .fz (.int o), mn, .fz (.str st), .fz (.int s6), s7, s8, s9, s10, s11, .fz (.str tl), .jk, .jk, .jk], [], k⟩ (edP Gq) := by
      intro s6 s7 s8 s9 s10 s11 tl k mn g0 g1 tl7 tlL k1 _
      walk_at "go"
      refine ⟨by omega, ⟨by decide, by omega⟩, (tl.length : Int) + 1, rfl, by omega, by omega, fun sp p0 p1 => ?_⟩
      walk_at "ev"
      walk_at "go"
      refine ⟨⟨by omega, by omega⟩, ?_⟩
      refine forL_inv (rg 0 m) PyData.int (fun pre γ => ∃ s7 s14, γ = ⟨[.pu, .fz (.int m), .fz (.str LETS), .fz (.int o), mn, .fz (.str st), .fz (.int s6), s7, .ow true (dS (pre.map (W2 tl s6 sp))), s9, s10, s11, .fz (.str tl), .fz (.int sp), s14, .jk], [], k - 1⟩) (fun pre x post γ N hl ht hP hN => ?_) (fun γ ht hP => ?_) _ rfl ⟨_, _, rfl⟩
      · obtain ⟨b, c, rfl⟩ := hP
        have hx : 0 ≤ x ∧ x < m := mem_rg.mp (hl ▸ List.mem_append_right pre List.mem_cons_self)
        have hlen := congrArg List.length hl
        rw [rg_length, List.length_append, List.length_cons] at hlen
        walk_at "ev"
        unfold kb__law_words_10
        walk_at "ev"
        refine ⟨by decide, vIxS_get (by omega) (by rw [l26]; omega) (by rw [l26]; decide) ?_⟩
        have c1 : (cutS tl none (some sp)).length ≤ 8 := by
          have := len_cut_to (x := tl) (i := sp.toNat) (by omega)
          rw [show ((sp.toNat : Nat) : Int) = sp by omega] at this
          omega
        have c2 : (cutS tl (some sp) none).length ≤ 8 := by
          have := len_cut_from (x := tl) (i := sp.toNat)
          rw [show ((sp.toNat : Nat) : Int) = sp by omega] at this
          omega
        walk_at "go"
        refine ⟨by omega, by show _ + 1 ≤ _; omega, by omega, by rw [Str.length_append]; show _ + 1 + _ ≤ _; omega, by omega, ?_⟩
        rw [show cutS tl none (some sp) ++ ⟨#[LETS.cps.toList.getD ((s6 + x) % 26).toNat 0]⟩ ++ cutS tl (some sp) none = W2 tl s6 sp x from rfl, dS_snoc]
        exact hN _ rfl ⟨_, _, rfl⟩
      · obtain ⟨b, c, rfl⟩ := hP
        walk_at "go"
        exact ⟨by omega, q _ (W2_nms tlL tl7 p0 p1 m0 m1)⟩
    have h15 : ∀ (fs : List Str) (s6 s7 s9 s10 s11 : Sl) (k : Int) (mn : Sl), 3 ≤ k → (fs.length = m.toNat ∨ fs = []) → (∀ x ∈ fs, Lt x ∧ 1 ≤ x.length ∧ x.length ≤ 8) → kr__law_words_15 ⟨[.pu, .fz (.int m), .fz (.str LETS), .fz (.int o), mn, .fz (.str st), s6, s7, .ow true (dS fs), s9, s10, s11, .jk, .jk, .jk, .jk], [], k⟩ (edP Gq) := by
      intro fs s6 s7 s9 s10 s11 k mn k3 fl ff
      walk_at "go"
      have fl2 : fs.length ≤ 13 := by
        rcases fl with fl | rfl
        · omega
        · exact Nat.zero_le _
      refine ⟨by omega, iteB (fun c => ?_) (fun c => ?_)⟩
      · have c := of_decide_eq_true c
        have ml := mtS_le fs
        have e : fs.length = m.toNat := by
          rcases fl with fl | rfl
          · exact fl
          · have : (mtS ([] : List Str)).length = 0 := rfl
            simp only [List.length_nil]
            omega
        exact ⟨by omega, q _ ⟨e, mtS_full (by omega), ff⟩⟩
      · walk_at "go"
        refine ⟨⟨by decide, by omega⟩, 26, rfl, by decide, by decide, fun g g0 g1 => ?_⟩
        walk_at "ev"
        refine ⟨⟨by decide, by omega⟩, 8, rfl, by decide, by decide, fun h g2 g3 => ?_⟩
        walk_at "ev"
        have c1 : (cutS st none (some h)).length ≤ 7 := by
          have := len_cut_to (x := st) (i := h.toNat) (by omega)
          rw [show ((h.toNat : Nat) : Int) = h by omega] at this
          omega
        exact ⟨by omega, h12 g s7 _ s9 s10 s11 _ _ mn g0 g1 c1 (w2.cut _ _) (by omega) rfl⟩
    have h18 : kr__law_words_18 ⟨[.pu, .fz (.int m), .fz (.str LETS), .fz (.int o), .ow true (dS MENU), .fz (.str st), .jk, .jk, .jk, .jk, .jk, .jk, .jk, .jk, .jk, .jk], [], m'⟩ (edP Gq) := by
      walk_at "go"
      walk_at "go"
      refine iteB (fun c3 => ?_) (fun c3 => ?_)
      · refine ⟨⟨by omega, by omega⟩, ?_⟩
        refine forL_inv (rg 0 m) PyData.int (fun pre γ => ∃ (fs : List Str) (s7 s9 : Sl) (k : Int), γ = ⟨[.pu, .fz (.int m), .fz (.str LETS), .fz (.int o), .ow true (dS MENU), .fz (.str st), .jk, s7, .ow true (dS fs), s9, .jk, .jk, .jk, .jk, .jk, .jk], [], k⟩ ∧ fs.length = pre.length ∧ (∀ x ∈ fs, Lt x ∧ 1 ≤ x.length ∧ x.length ≤ 8) ∧ m' - 9 * pre.length ≤ k) (fun pre x post γ N hl ht hP hN => ?_) (fun γ ht hP => ?_) _ rfl ⟨[], _, _, _, rfl, rfl, (fun _ z => nomatch z), by simp⟩
        · obtain ⟨fs, s7, s9, k, rfl, f1, f2, f3⟩ := hP
          have hlen := congrArg List.length hl
          rw [rg_length, List.length_append, List.length_cons] at hlen
          walk_at "ev"
          unfold kb__law_words_4
          walk_at "ev"
          refine ⟨⟨by decide, by omega⟩, 8, rfl, by decide, by decide, fun z z0 z1 => ?_⟩
          walk_at "ev"
          walk_at "go"
          refine ⟨⟨by omega, by omega⟩, ?_⟩
          refine ⟨by decide, ?_⟩
          refine lc_inv (j := 15) true (rg 0 (1 + z)) PyData.int (fun pre acc m2 => ∃ ys : List Str, acc = ys.map PyData.str ∧ ys.length = pre.length ∧ m2 = k - 1 - pre.length ∧ pre.length ≤ (1 + z).toNat ∧ ∀ y ∈ ys, y.length = 1 ∧ Lt y) rfl rfl (fun pre acc m2 hp => ?_) (fun pre x post acc m2 Y X hl hp hY hX => ?_) (fun acc m2 hp => ?_) [] _ ⟨[], rfl, rfl, by simp, by simp, by simp⟩
          · obtain ⟨ys, rfl, h1, h2, h3, h4⟩ := hp
            rw [List.length_map]
            omega
          · obtain ⟨ys, rfl, h1, h2, h3, h4⟩ := hp
            have hlen := congrArg List.length hl
            rw [rg_length, List.length_append, List.length_cons] at hlen
            walk_at "ev"
            refine ⟨⟨by decide, by omega⟩, 26, rfl, by decide, by decide, fun g g0 g1 => ?_⟩
            walk_at "ev"
            refine vIxS_any g0 (by rw [l26]; exact g1) (by rw [l26]; decide) fun c hc => ?_
            refine hY _ true (.str ⟨#[c]⟩) _ rfl rfl ⟨ys ++ [⟨#[c]⟩], by simp, by simp [h1], by rw [List.length_append, List.length_singleton]; omega, by rw [List.length_append, List.length_singleton]; omega, fun y hy => ?_⟩
            rcases List.mem_append.mp hy with hy | hy
            · exact h4 y hy
            · rw [List.mem_singleton.mp hy]
              exact lc8 c hc
          · obtain ⟨ys, rfl, g1, g2, g3, g4⟩ := hp
            rw [rg_length] at g1 g2 g3
            walk_at "ev"
            obtain ⟨v1, v2⟩ := join_word g4
            have v3 : (Txt.join ("" : String) ys).length = (1 + z).toNat := by rw [v1, g1]; congr 1; omega
            refine ⟨by rw [sum_ones g4, e0]; omega, by omega, ?_⟩
            refine hN _ rfl ⟨fs ++ [Txt.join ("" : String) ys], .fz (.int x), .fz (.int (1 + z)), m2, by simp, by simp [f1], fun y hy => ?_, by rw [List.length_append, List.length_singleton]; omega⟩
            rcases List.mem_append.mp hy with hy | hy
            · exact f2 y hy
            · rw [List.mem_singleton.mp hy]
              exact ⟨v2, by omega, by omega⟩
        · obtain ⟨fs, s7, s9, k, rfl, f1, f2, f3⟩ := hP
          rw [rg_length] at f1 f3
          walk_at "go"
          refine iteB (fun c4 => ?_) (fun c4 => ?_)
          · have := of_decide_eq_true c3
            have := of_decide_eq_true c4
            omega
          · exact h15 fs _ _ _ _ _ _ _ (by omega) (.inl (by omega)) f2
      · walk_at "go"
        refine iteB (fun c4 => ?_) (fun c4 => ?_)
        · refine ⟨⟨by decide, by omega⟩, 5, rfl, by decide, by decide, fun g g0 g1 => ?_⟩
          walk_at "ev"
          refine ⟨by omega, ?_⟩
          have b1 := len_cut_to (x := st) (i := (1 + g).toNat) (by omega)
          rw [show (((1 + g).toNat : Nat) : Int) = 1 + g by omega] at b1
          have b2 := w2.cut none (some (1 + g))
          obtain ⟨bs, hbs⟩ : ∃ bs : Str, cutS st none (some (1 + g)) = bs := ⟨_, rfl⟩
          rw [hbs] at b1 b2 ⊢
          walk_at "go"
          walk_at "go"
          have e3 : ∀ x : Str, (cutS x none (some 3)).length ≤ 3 := fun x => by
            by_cases c : 3 ≤ x.length
            · exact Nat.le_of_eq (len_cut_to (i := 3) c)
            · rw [len_cps]
              show ((cutS x none (some ((3 : Nat) : Int))).cps.toList).length ≤ 3
              rw [cutS_to]
              exact Nat.le_trans (List.length_take_le _ _) (Nat.le_refl _)
          show forL (kgName 11) kb__law_words_5 _ (MENU.map PyData.str) _ _
          refine forL_inv MENU PyData.str (fun pre γ => ∃ (fs : List Str) (s11 : Sl) (k : Int), γ = ⟨[.pu, .fz (.int m), .fz (.str LETS), .fz (.int o), .fz (dS MENU), .fz (.str st), .jk, .jk, .ow true (dS fs), .jk, .fz (.str bs), s11, .jk, .jk, .jk, .jk], [.fz (dS MENU)], k⟩ ∧ fs.length = pre.length + 1 ∧ (∀ x ∈ fs, Lt x ∧ 1 ≤ x.length ∧ x.length ≤ 8) ∧ m' - 1 - pre.length ≤ k) (fun pre x post γ N hl ht hP hN => ?_) (fun γ ht hP => ?_) _ rfl ⟨[bs], _, _, rfl, rfl, (fun x m => by rw [List.mem_singleton.mp m]; exact ⟨b2, by omega, by omega⟩), by simp⟩
          · obtain ⟨fs, s11, k, rfl, f1, f2, f3⟩ := hP
            have hlen := congrArg List.length hl
            rw [List.length_append, List.length_cons] at hlen
            have hlen : 14 = pre.length + (post.length + 1) := hlen
            have mx := menu_ok x (hl ▸ List.mem_append_right _ List.mem_cons_self)
            walk_at "ev"
            unfold kb__law_words_5
            walk_at "ev"
            have x3 := e3 x
            refine ⟨by omega, by omega, by omega, by omega, ⟨by decide, by omega⟩, 2, rfl, by decide, by decide, fun g g0 g1 => ?_⟩
            walk_at "ev"
            have fin : ∀ s : Str, Lt s → 1 ≤ s.length → s.length ≤ 8 → N ⟨[.pu, .fz (.int m), .fz (.str LETS), .fz (.int o), .fz (dS MENU), .fz (.str st), .jk, .jk, .ow true (.list (fs.map PyData.str ++ [.str s])), .jk, .fz (.str bs), .fz (.str x), .jk, .jk, .jk, .jk], [.fz (dS MENU)], k - 1⟩ := fun s s1 s2 s3 => hN _ rfl ⟨fs ++ [s], .fz (.str x), k - 1, by simp, by simp [f1], fun y m => by
              rcases List.mem_append.mp m with m | m
              · exact f2 y m
              · rw [List.mem_singleton.mp m]
                exact ⟨s1, s2, s3⟩, by rw [List.length_append, List.length_singleton]; omega⟩
            show ixD ([cutS x none (some 3) ++ bs, bs ++ cutS x none (some 3)].map PyData.str) _ _
            refine ixD_strs g0 (by show _ < 2; omega) fun s ms _ _ => ?_
            walk_at "ev"
            have ok : Lt s ∧ 1 ≤ s.length ∧ s.length ≤ 8 := by
              rcases List.mem_cons.mp ms with rfl | ms
              · rw [Str.length_append]
                exact ⟨(mx.1.cut _ _).app b2, by omega, by omega⟩
              · rw [List.mem_singleton.mp ms, Str.length_append]
                exact ⟨b2.app (mx.1.cut _ _), by omega, by omega⟩
            exact ⟨by omega, rfl, fin s ok.1 ok.2.1 ok.2.2⟩
          · obtain ⟨fs, s11, k, rfl, f1, f2, f3⟩ := hP
            have f1 : fs.length = 15 := f1
            have f3 : m' - 1 - 14 ≤ k := f3
            walk_at "go"
            rw [nolists_strs, if_pos rfl]
            walk_at "ev"
            have ct : G.cutD (fs.map PyData.str) none (some m) = (fs.take m.toNat).map PyData.str := by
              have e := cutD_to (fs.map PyData.str) m.toNat
              rw [mz] at e
              rw [e, List.map_take]
            rw [ct, nolists_strs]
            exact h15 (fs.take m.toNat) _ _ _ _ _ _ _ (by omega) (.inl (by rw [List.length_take]; omega)) fun x hx => f2 x (List.take_subset _ _ hx)
        · exact h15 [] _ _ _ _ _ _ _ (by omega) (.inr rfl) fun _ z => nomatch z
    have h19 : kr__law_words_19 ⟨[.pu, .fz (.int m), .fz (.str LETS), .fz (.int o), .ow true (dS MENU), .fz (.str st), .jk, .jk, .jk, .jk, .jk, .jk, .jk, .jk, .jk, .jk], [], m'⟩ (edP Gq) := by
      walk_at "go"
      refine iteB (fun c1 => iteB (fun c2 => ?_) fun c2 => h18) fun c1 => h18
      have c2 := of_decide_eq_true c2
      refine ⟨⟨by decide, by omega⟩, 9 - m, rfl, by omega, by omega, fun g g0 g1 => ?_⟩
      walk_at "ev"
      walk_at "go"
      refine ⟨⟨by omega, by omega⟩, ?_⟩
      refine lc_inv true (rg 0 m) PyData.int (fun pre acc k => acc = (pre.map fun r => cutS st none (some (g + r + 1))).map PyData.str ∧ k = m' - 1 ∧ pre.length ≤ m.toNat) rfl rfl (fun pre acc k hp => ?_) (fun pre x post acc k Y X hl hp hY hX => ?_) (fun acc k hp => ?_) [] _ ⟨rfl, rfl, Nat.zero_le _⟩
      · obtain ⟨rfl, _, h5⟩ := hp
        rw [List.length_map, List.length_map]
        omega
      · obtain ⟨rfl, rfl, h5⟩ := hp
        have hlen := congrArg List.length hl
        rw [rg_length, List.length_append, List.length_cons] at hlen
        walk_at "ev"
        refine ⟨by omega, hY _ true (.str (cutS st none (some (g + x + 1)))) _ rfl rfl ⟨?_, rfl, by rw [List.length_append, List.length_singleton]; omega⟩⟩
        rw [← dS_snoc (fun r => cutS st none (some (g + r + 1)))]
      · obtain ⟨rfl, rfl, h5⟩ := hp
        walk_at "ev"
        exact ⟨by omega, q _ (W1_nms w2 w1 g0 g1 m0)⟩
    walk_at "go"
    refine iteB (fun c1 => ?_) (fun c1 => ?_)
    · refine iteB (fun c2 => ?_) (fun c2 => ?_)
      · refine ⟨⟨by decide, by omega⟩, 14, rfl, by decide, by decide, fun g g0 g1 => ?_⟩
        walk_at "ev"
        walk_at "go"
        refine ⟨⟨by omega, by omega⟩, ?_⟩
        refine lc_inv true (rg 0 m) PyData.int (fun pre acc k => acc = (pre.map (W0 g)).map PyData.str ∧ k = m' - 1 ∧ pre.length ≤ m.toNat) rfl rfl (fun pre acc k hp => ?_) (fun pre x post acc k Y X hl hp hY hX => ?_) (fun acc k hp => ?_) [] _ ⟨rfl, rfl, Nat.zero_le _⟩
        · obtain ⟨rfl, _, h5⟩ := hp
          rw [List.length_map, List.length_map]
          omega
        · obtain ⟨rfl, rfl, h5⟩ := hp
          have hx : 0 ≤ x ∧ x < m := mem_rg.mp (hl ▸ List.mem_append_right pre List.mem_cons_self)
          have hlen := congrArg List.length hl
          rw [rg_length, List.length_append, List.length_cons] at hlen
          walk_at "ev"
          refine ⟨cmulB_of (by omega) (by omega), by decide, ?_⟩
          show ixD (MENU.map PyData.str) _ _
          refine ixD_strs (by omega) (by show _ < 14; omega) fun s _ hs _ => ?_
          refine hY _ true (.str s) _ rfl rfl ⟨?_, rfl, by rw [List.length_append, List.length_singleton]; omega⟩
          rw [← dS_snoc]
          have : W0 g x = s := by
            rw [← hs]
            unfold W0
            rw [List.getD_eq_getElem?_getD, List.getD_eq_getElem?_getD]
            have hi : ((g + 3 * x) % 14).toNat < MENU.length := by
              show _ < 14
              omega
            rw [List.getElem?_eq_getElem hi]
            rfl
          rw [this]
        · obtain ⟨rfl, rfl, h5⟩ := hp
          walk_at "ev"
          exact ⟨by omega, q _ (W0_nms g0 g1 m0 m1)⟩
      · exact h19
    · exact h19
theorem ok__law_words (p : Prog K mg) : FnG P w K mg base CX0 4 p.f__law_words p.fd__law_words ["_law_purse", "_law_many"] (spP 400 w__law_words) :=
  okP p.d__law_words.F sc__law_words (by decide) ar__law_words (by decide) (fun cdv A outer s H E hg hr => ⟨_, (pss_cons (ps_asg (pe_tup (pa_cons pe_str (pa_cons (pe_callG ((ok__law_coin p).mono (by decide)) hg hr (by rfl) p.d__law_coin.gl p.d__law_coin.kp p.d__law_coin.bd pass0 (pa_cons (pv 0) (pa_cons pe_int pa_nil))) pa_nil))) (pg_tup rfl (pgs_cons (pg_name (i := 2) sc__law_words.nd rfl (Or.inr rfl)) (pgs_cons (pg_name (i := 3) sc__law_words.nd rfl (Or.inl rfl)) pgs_nil))))
      (pss_cons (ps_set (i := 4) sc__law_words.nd rfl (Or.inr rfl) (pe_lst (pa_cons pe_str (pa_cons pe_str (pa_cons pe_str (pa_cons pe_str (pa_cons pe_str (pa_cons pe_str (pa_cons pe_str pa_nil)))))))))
      (pss_cons (ps_set (i := 4) sc__law_words.nd rfl (Or.inr rfl) (pe_op op_cat (pv 4) (pe_lst (pa_cons pe_str (pa_cons pe_str (pa_cons pe_str (pa_cons pe_str (pa_cons pe_str (pa_cons pe_str (pa_cons pe_str pa_nil))))))))))
      (pss_cons (ps_set (i := 5) sc__law_words.nd rfl (Or.inr rfl) (pe_join pe_str (pe_lc (own := [("_law_turn", 15)]) (g := gName 15) (tt := tYes) rfl sc__law_words.nd (pi_range1 (by rfl) p.blt.range (pa_cons pe_int pa_nil)) (blkOk_by (N := N__law_words) (sc := defScope s__law_words) (by decide +kernel)) (fun _ _ _ _ _ => pg_name (i := 15) sc__law_words.nd rfl (Or.inl rfl)) (fun _ _ _ _ _ => pts_nil) (fun _ _ _ _ _ => (pe_ix ix_str (pv 2) (pe_callG ((ok__law_coin p).mono (by decide)) hg hr (by rfl) p.d__law_coin.gl p.d__law_coin.kp p.d__law_coin.bd pass0 (pa_cons (pv 0) (pa_cons pe_int pa_nil))) (fun _ _ => rfl))))))
      (pss_cons (ps_if (PW.pt (pw_and (pt_cmpR op_eq (pv 3) pe_int (nomark _)) (pw_and1 (pt_cmpR op_lt (pv 1) pe_int (nomark _)))))
      (pss_cons (ps_set (i := 6) sc__law_words.nd rfl (Or.inr rfl) (pe_callG ((ok__law_coin p).mono (by decide)) hg hr (by rfl) p.d__law_coin.gl p.d__law_coin.kp p.d__law_coin.bd pass0 (pa_cons (pv 0) (pa_cons pe_int pa_nil))))
      (pss_one (ps_ret (pe_lc (own := [("_law_rank", 7)]) (g := gName 7) (tt := tYes) rfl sc__law_words.nd (pi_range1 (by rfl) p.blt.range (pa_cons (pv 1) pa_nil)) (blkOk_by (N := N__law_words) (sc := defScope s__law_words) (by decide +kernel)) (fun _ _ _ _ _ => pg_name (i := 7) sc__law_words.nd rfl (Or.inl rfl)) (fun _ _ _ _ _ => pts_nil) (fun _ _ _ _ _ => (pe_ix (show IxR _ (rIxL K) from ix_list) (pv 4) (pe_op op_mod (pe_callTy call_int1 (by rfl) p.blt.int (by decide +kernel) (pa_cons (pe_op op_add (pv 6) (pe_op op_mulB pe_int (pv 7))) pa_nil)) pe_int) (fun _ _ => rfl))))))) pss_nil)
      (pss_cons (ps_if (PW.pt (pw_and (pt_cmpR op_eq (pv 3) pe_int (nomark _)) (pw_and1 (pt_cmpR op_lt (pv 1) pe_int (nomark _)))))
      (pss_cons (ps_set (i := 6) sc__law_words.nd rfl (Or.inr rfl) (pe_callG ((ok__law_coin p).mono (by decide)) hg hr (by rfl) p.d__law_coin.gl p.d__law_coin.kp p.d__law_coin.bd pass0 (pa_cons (pv 0) (pa_cons (pe_op op_sub pe_int (pv 1)) pa_nil))))
      (pss_one (ps_ret (pe_lc (own := [("_law_rank", 7)]) (g := gName 7) (tt := tYes) rfl sc__law_words.nd (pi_range1 (by rfl) p.blt.range (pa_cons (pv 1) pa_nil)) (blkOk_by (N := N__law_words) (sc := defScope s__law_words) (by decide +kernel)) (fun _ _ _ _ _ => pg_name (i := 7) sc__law_words.nd rfl (Or.inl rfl)) (fun _ _ _ _ _ => pts_nil) (fun _ _ _ _ _ => (pe_slice sl_str (pv 5) po_none (po_some (pe_op op_add (pe_op op_add (pv 6) (pv 7)) pe_int)))))))) pss_nil)
      (pss_cons (ps_set (i := 8) sc__law_words.nd rfl (Or.inl rfl) (pe_lst pa_nil))
      (pss_cons (ps_if (pt_cmpR op_eq (pv 3) pe_int (nomark _))
      (pss_one (ps_for PassesOwn.never rfl (pi_range1 (by rfl) p.blt.range (pa_cons (pv 1) pa_nil)) (pg_name (i := 7) sc__law_words.nd rfl (Or.inl rfl))
      (pss_cons (ps_set (i := 9) sc__law_words.nd rfl (Or.inl rfl) (pe_op op_add pe_int (pe_callG ((ok__law_coin p).mono (by decide)) hg hr (by rfl) p.d__law_coin.gl p.d__law_coin.kp p.d__law_coin.bd pass0 (pa_cons (pv 0) (pa_cons pe_int pa_nil)))))
      (pss_one (ps_expr (pe_bm PySem.F.plainAttrs_list PySem.F.slot_list_append PySem.F.type_list_append mt_append (pv 8) (pa_cons (pe_join pe_str (pe_lc (own := [("_law_turn", 15)]) (g := gName 15) (tt := tYes) rfl sc__law_words.nd (pi_range1 (by rfl) p.blt.range (pa_cons (pv 9) pa_nil)) (blkOk_by (N := N__law_words) (sc := defScope s__law_words) (by decide +kernel)) (fun _ _ _ _ _ => pg_name (i := 15) sc__law_words.nd rfl (Or.inl rfl)) (fun _ _ _ _ _ => pts_nil) (fun _ _ _ _ _ => (pe_ix ix_str (pv 2) (pe_callG ((ok__law_coin p).mono (by decide)) hg hr (by rfl) p.d__law_coin.gl p.d__law_coin.kp p.d__law_coin.bd pass0 (pa_cons (pv 0) (pa_cons pe_int pa_nil))) (fun _ _ => rfl))))) pa_nil))))))) pss_nil)
      (pss_cons (ps_if (pt_cmpR op_eq (pv 3) pe_int (nomark _))
      (pss_cons (ps_set (i := 10) sc__law_words.nd rfl (Or.inl rfl) (pe_slice sl_str (pv 5) po_none (po_some (pe_op op_add pe_int (pe_callG ((ok__law_coin p).mono (by decide)) hg hr (by rfl) p.d__law_coin.gl p.d__law_coin.kp p.d__law_coin.bd pass0 (pa_cons (pv 0) (pa_cons pe_int pa_nil)))))))
      (pss_cons (ps_set (i := 8) sc__law_words.nd rfl (Or.inl rfl) (pe_lst (pa_cons (pv 10) pa_nil)))
      (pss_cons (ps_for PassesOwn.never rfl (pi_list (pv 4)) (pg_name (i := 11) sc__law_words.nd rfl (Or.inl rfl))
      (pss_one (ps_expr (pe_bm PySem.F.plainAttrs_list PySem.F.slot_list_append PySem.F.type_list_append mt_append (pv 8) (pa_cons (pe_ix ix_list (pe_lst (pa_cons (pe_op op_add_str (pe_slice sl_str (pv 11) po_none (po_some pe_int)) (pv 10)) (pa_cons (pe_op op_add_str (pv 10) (pe_slice sl_str (pv 11) po_none (po_some pe_int))) pa_nil))) (pe_callG ((ok__law_coin p).mono (by decide)) hg hr (by rfl) p.d__law_coin.gl p.d__law_coin.kp p.d__law_coin.bd pass0 (pa_cons (pv 0) (pa_cons pe_int pa_nil))) (fun _ _ => rfl)) pa_nil)))))
      (pss_one (ps_set (i := 8) sc__law_words.nd rfl (Or.inl rfl) (pe_slice sl_list (pv 8) po_none (po_some (pv 1)))))))) pss_nil)
      (pss_cons (ps_if (pt_cmpR op_eq (pe_lenSetT (by rfl) p.blt.len (by rfl) p.blt.set (pv 8)) (pv 1) (nomark _))
      (pss_one (ps_ret (pv 8))) pss_nil)
      (pss_cons (ps_asg (pe_tup (pa_cons (pe_callG ((ok__law_coin p).mono (by decide)) hg hr (by rfl) p.d__law_coin.gl p.d__law_coin.kp p.d__law_coin.bd pass0 (pa_cons (pv 0) (pa_cons pe_int pa_nil))) (pa_cons (pe_slice sl_str (pv 5) po_none (po_some (pe_callG ((ok__law_coin p).mono (by decide)) hg hr (by rfl) p.d__law_coin.gl p.d__law_coin.kp p.d__law_coin.bd pass0 (pa_cons (pv 0) (pa_cons pe_int pa_nil))))) pa_nil))) (pg_tup rfl (pgs_cons (pg_name (i := 6) sc__law_words.nd rfl (Or.inr rfl)) (pgs_cons (pg_name (i := 12) sc__law_words.nd rfl (Or.inl rfl)) pgs_nil))))
      (pss_cons (ps_par (i := 13) (j := 8) rfl sc__law_words.nd rfl rfl (by decide) rfl rfl (pa_cons (pe_callG ((ok__law_coin p).mono (by decide)) hg hr (by rfl) p.d__law_coin.gl p.d__law_coin.kp p.d__law_coin.bd pass0 (pa_cons (pv 0) (pa_cons (pe_op op_add (pe_callB call_len_str (by rfl) p.blt.len PySem.boot_len (pa_cons (pv 12) pa_nil)) pe_int) pa_nil))) (pa_cons (pe_lst pa_nil) pa_nil)) (by rfl))
      (pss_cons (ps_for PassesOwn.never rfl (pi_range1 (by rfl) p.blt.range (pa_cons (pv 1) pa_nil)) (pg_name (i := 7) sc__law_words.nd rfl (Or.inl rfl))
      (pss_cons (ps_set (i := 14) sc__law_words.nd rfl (Or.inl rfl) (pe_ix ix_str (pv 2) (pe_op op_mod (pe_callTy call_int1 (by rfl) p.blt.int (by decide +kernel) (pa_cons (pe_op op_add (pv 6) (pv 7)) pa_nil)) pe_int) (fun _ _ => rfl)))
      (pss_one (ps_expr (pe_bm PySem.F.plainAttrs_list PySem.F.slot_list_append PySem.F.type_list_append mt_append (pv 8) (pa_cons (pe_op op_add_str (pe_op op_add_str (pe_slice sl_str (pv 12) po_none (po_some (pv 13))) (pv 14)) (pe_slice sl_str (pv 12) (po_some (pv 13)) po_none)) pa_nil))))))
      (pss_one (ps_ret (pv 8)))))))))))))))),
    fun C xc => (so_seq (so_asg (so_tup (so_cons (so_c (sca_str _)) (so_cons (so_callP (so_cons (so_var (i := 0)) (so_cons (so_c (sca_int _)) so_nil))) so_nil))) (so_gtup (so_gcons (so_gname (i := 2)) (so_gcons (so_gname (i := 3)) so_gnil))))
      (so_seq (so_asg (so_lit_lst (so_lits_cons (so_lit_c (sca_str _) rfl) (so_lits_cons (so_lit_c (sca_str _) rfl) (so_lits_cons (so_lit_c (sca_str _) rfl) (so_lits_cons (so_lit_c (sca_str _) rfl) (so_lits_cons (so_lit_c (sca_str _) rfl) (so_lits_cons (so_lit_c (sca_str _) rfl) (so_lits_cons (so_lit_c (sca_str _) rfl) so_lits_nil)))))))) (so_gname (i := 4)))
      (so_seq (so_asg (so_cat (so_var (i := 4)) (so_lit_lst (so_lits_cons (so_lit_c (sca_str _) rfl) (so_lits_cons (so_lit_c (sca_str _) rfl) (so_lits_cons (so_lit_c (sca_str _) rfl) (so_lits_cons (so_lit_c (sca_str _) rfl) (so_lits_cons (so_lit_c (sca_str _) rfl) (so_lits_cons (so_lit_c (sca_str _) rfl) (so_lits_cons (so_lit_c (sca_str _) rfl) so_lits_nil))))))))) (so_gname (i := 4)))
      (so_seq (so_asg (so_join (so_lc (so_rng1 (so_c (sca_int _))) so_yes (so_op sr_ixS (so_var (i := 2)) (so_callP (so_cons (so_var (i := 0)) (so_cons (so_c (sca_int _)) so_nil)))))) (so_gname (i := 5)))
      (so_seq (so_ifS (so_tand (so_test (so_op sr_eq (so_var (i := 3)) (so_c (sca_int _)))) (so_test (so_op sr_B (so_var (i := 1)) (so_c (sca_int _)))))
      (so_seq (so_asg (so_callP (so_cons (so_var (i := 0)) (so_cons (so_c (sca_int _)) so_nil))) (so_gname (i := 6)))
      (so_ret (so_lc (so_rng1 (so_var (i := 1))) so_yes (so_ixL (so_var (i := 4)) (so_op sr_I (so_f sc_int (so_cons (so_op sr_I0 (so_var (i := 6)) (so_op sr_I (so_c (sca_int _)) (so_var (i := 7)))) so_nil)) (so_c (sca_int _))))))) so_next)
      (so_seq (so_ifS (so_tand (so_test (so_op sr_eq (so_var (i := 3)) (so_c (sca_int _)))) (so_test (so_op sr_B (so_var (i := 1)) (so_c (sca_int _)))))
      (so_seq (so_asg (so_callP (so_cons (so_var (i := 0)) (so_cons (so_op sr_I0 (so_c (sca_int _)) (so_var (i := 1))) so_nil))) (so_gname (i := 6)))
      (so_ret (so_lc (so_rng1 (so_var (i := 1))) so_yes (so_slS (so_var (i := 5)) so_no (so_part (so_op sr_I0 (so_op sr_I0 (so_var (i := 6)) (so_var (i := 7))) (so_c (sca_int _)))))))) so_next)
      (so_seq (so_asg (so_lit_lst so_lits_nil) (so_gname (i := 8)))
      (so_seq (so_ifS (so_test (so_op sr_eq (so_var (i := 3)) (so_c (sca_int _))))
      (so_for (so_rng1 (so_var (i := 1))) (so_gname (i := 7))
      (so_seq (so_asg (so_op sr_I0 (so_c (sca_int _)) (so_callP (so_cons (so_var (i := 0)) (so_cons (so_c (sca_int _)) so_nil)))) (so_gname (i := 9)))
      (so_drop (so_app (so_var (i := 8)) (so_join (so_lc (so_rng1 (so_var (i := 9))) so_yes (so_op sr_ixS (so_var (i := 2)) (so_callP (so_cons (so_var (i := 0)) (so_cons (so_c (sca_int _)) so_nil)))))))))) so_next)
      (so_seq (so_ifS (so_test (so_op sr_eq (so_var (i := 3)) (so_c (sca_int _))))
      (so_seq (so_asg (so_slS (so_var (i := 5)) so_no (so_part (so_op sr_I0 (so_c (sca_int _)) (so_callP (so_cons (so_var (i := 0)) (so_cons (so_c (sca_int _)) so_nil)))))) (so_gname (i := 10)))
      (so_seq (so_asg (so_lst (so_cons (so_var (i := 10)) so_nil)) (so_gname (i := 8)))
      (so_seq (so_for (so_itL (so_frz (i := 4))) (so_gname (i := 11))
      (so_drop (so_app (so_var (i := 8)) (so_ixL (so_lst (so_cons (so_op sr_catS (so_slS (so_var (i := 11)) so_no (so_part (so_c (sca_int _)))) (so_var (i := 10))) (so_cons (so_op sr_catS (so_var (i := 10)) (so_slS (so_var (i := 11)) so_no (so_part (so_c (sca_int _))))) so_nil))) (so_callP (so_cons (so_var (i := 0)) (so_cons (so_c (sca_int _)) so_nil)))))))
      (so_asg (so_sl (so_var (i := 8)) so_no (so_part (so_var (i := 1)))) (so_gname (i := 8)))))) so_next)
      (so_seq (so_ifS (so_test (so_op sr_eq (so_lenSetT (so_var (i := 8))) (so_var (i := 1))))
      (so_ret (so_mov (i := 8))) so_next)
      (so_seq (so_asg (so_tup (so_cons (so_callP (so_cons (so_var (i := 0)) (so_cons (so_c (sca_int _)) so_nil))) (so_cons (so_slS (so_var (i := 5)) so_no (so_part (so_callP (so_cons (so_var (i := 0)) (so_cons (so_c (sca_int _)) so_nil))))) so_nil))) (so_gtup (so_gcons (so_gname (i := 6)) (so_gcons (so_gname (i := 12)) so_gnil))))
      (so_seq (so_par (i := 13) (j := 8) (by decide) (so_cons (so_callP (so_cons (so_var (i := 0)) (so_cons (so_op sr_I0 (so_f sc_lenS (so_cons (so_var (i := 12)) so_nil)) (so_c (sca_int _))) so_nil))) (so_cons (so_lit_lst so_lits_nil) so_nil)))
      (so_seq (so_for (so_rng1 (so_var (i := 1))) (so_gname (i := 7))
      (so_seq (so_asg (so_op sr_ixS (so_var (i := 2)) (so_op sr_I (so_f sc_int (so_cons (so_op sr_I0 (so_var (i := 6)) (so_var (i := 7))) so_nil)) (so_c (sca_int _)))) (so_gname (i := 14)))
      (so_drop (so_app (so_var (i := 8)) (so_op sr_catS (so_op sr_catS (so_slS (so_var (i := 12)) so_no (so_part (so_var (i := 13)))) (so_var (i := 14))) (so_slS (so_var (i := 12)) (so_part (so_var (i := 13))) so_no))))))
      (so_ret (so_mov (i := 8))))))))))))))))⟩) val__law_words
def w__law_copied (n : Nat) : Tw := fun ds Q => ∃ d : D, ds = [d] ∧ d.depth < n ∧ d.hasDict = false ∧ G.wd d ≤ 10000000 ∧ Q d
theorem no__law_copied : ∀ ds Gq, ¬ w__law_copied 0 ds Gq := by
  rintro ds Gq ⟨d, _, h, _⟩
  omega
theorem ar__law_copied (n : Nat) : ∀ ds Gq, w__law_copied n ds Gq → ds.length = 1 := by
  rintro ds Gq ⟨d, rfl, _⟩
  rfl
def kr__law_copied_1 (n : Nat) : KS := (kRet (kMov 0))
def kr__law_copied_2 (n : Nat) : KS := (kSeq (kIfS (kTest (kIs "tuple" (kVar 0)))
  (kRet (kTupOf (kCons (kLc (kIt false (kFrz 0)) 1 kYes (kCallT (w__law_copied n) 1 (kCons (kVar 1) kNil))) kNil)))
  kNext)
  (kr__law_copied_1 n))
def k__law_copied (n : Nat) : KS := (kSeq (kIfS (kTest (kIs "list" (kVar 0)))
  (kRet (kLc (kIt true (kFrz 0)) 1 kYes (kCallT (w__law_copied n) 1 (kCons (kVar 1) kNil))))
  kNext)
  (kr__law_copied_2 n))
local macro_rules | `(tactic| walk_at "go") => `(tactic| ((first | unfold kr__law_copied_1 | unfold kr__law_copied_2); walk_at "ev"))
theorem val__law_copied (n : Nat) : ∀ ds G, w__law_copied (n + 1) ds G → k__law_copied n ⟨ds.map Sl.fz ++ [.jk], [], 0⟩ (edT G) := by
  rintro ds Gq ⟨d, rfl, dp, hd, sz, q⟩
  unfold k__law_copied
  have isO : ∀ {x : D}, x.hasDict = false → G.isObj x = false := fun {x} h => by
    cases x <;> first | rfl | exact nomatch h
  cases d with
  | list xs =>
    simp only [PyData.depth] at dp
    simp only [G.wd] at sz
    simp only [PyData.hasDict] at hd
    have hl := wds_len xs
    walk_at "ev"
    have key := fun Q => lc_inv (j := 1) (kt := kYes) (ke := kCallT (w__law_copied n) 1 (kCons (kVar 1) kNil)) (q := Q) (sl := [.fz (.list xs), .jk]) (T := [.fz (.list xs)]) true xs id (fun pre acc m => acc = pre ∧ pre.length ≤ xs.length ∧ m = 0) rfl rfl (fun pre acc m hp => by obtain ⟨rfl, h1, _⟩ := hp; omega) (fun pre x post acc m Y X hl2 hp hY hX => by
      obtain ⟨rfl, h1, rfl⟩ := hp
      have mx : x ∈ xs := hl2 ▸ List.mem_append_right _ List.mem_cons_self
      have hlen := congrArg List.length hl2
      rw [List.length_append, List.length_cons] at hlen
      have z1 := depth_mem mx
      have z2 := wd_mem mx
      walk_at "ev"
      refine ⟨x, rfl, by omega, hasDict_mem hd mx, by omega, ?_⟩
      exact hY (own x) true x 0 con_own rfl ⟨rfl, by rw [List.length_append, List.length_singleton]; omega, rfl⟩)
    have e2 := key (fun γ2 => match γ2.tm with
      | s :: tm => (G.okS s = true ∧ tm = [Sl.fz (PyData.list xs)]) ∧ rtN Gq s
      | _ => False) (fun acc m hp => by
        obtain ⟨rfl, _⟩ := hp
        exact ⟨⟨rfl, rfl⟩, q⟩) [] 0 ⟨rfl, Nat.zero_le _, rfl⟩
    rw [List.map_id] at e2
    exact e2
  | tuple xs =>
    simp only [PyData.depth] at dp
    simp only [G.wd] at sz
    simp only [PyData.hasDict] at hd
    have hl := wds_len xs
    walk_at "ev"
    walk_at "go"
    have key := fun Q => lc_inv (j := 1) (kt := kYes) (ke := kCallT (w__law_copied n) 1 (kCons (kVar 1) kNil)) (q := Q) (sl := [.fz (.tuple xs), .jk]) (T := [.fz (.tuple xs)]) true xs id (fun pre acc m => acc = pre ∧ pre.length ≤ xs.length ∧ m = 0) rfl rfl (fun pre acc m hp => by obtain ⟨rfl, h1, _⟩ := hp; omega) (fun pre x post acc m Y X hl2 hp hY hX => by
      obtain ⟨rfl, h1, rfl⟩ := hp
      have mx : x ∈ xs := hl2 ▸ List.mem_append_right _ List.mem_cons_self
      have hlen := congrArg List.length hl2
      rw [List.length_append, List.length_cons] at hlen
      have z1 := depth_mem mx
      have z2 := wd_mem mx
      walk_at "ev"
      refine ⟨x, rfl, by omega, hasDict_mem hd mx, by omega, ?_⟩
      exact hY (own x) true x 0 con_own rfl ⟨rfl, by rw [List.length_append, List.length_singleton]; omega, rfl⟩)
    have main : ∀ Q : VSt → Prop, Q ⟨[.fz (.tuple xs), .jk], [.ow true (.list xs), .fz (.tuple xs)], 0⟩ → lcL 1 kYes (kCallT (w__law_copied n) 1 (kCons (kVar 1) kNil)) xs ⟨[.fz (.tuple xs), .jk], [.ow true (.list []), .fz (.tuple xs)], 0⟩ Q := fun Q h => by
      have e2 := key Q (fun acc m hp => by
        obtain ⟨rfl, _, rfl⟩ := hp
        exact h) [] 0 ⟨rfl, Nat.zero_le _, rfl⟩
      rw [List.map_id] at e2
      exact e2
    refine main _ ?_
    walk_at "ev"
    split
    · rename_i h
      exact ⟨h, q⟩
    · exact q
  | dict m => exact nomatch hd
  | none => walk_at "ev"; walk_at "go"; walk_at "go"; exact q
  | bool b => walk_at "ev"; walk_at "go"; walk_at "go"; exact q
  | int i => walk_at "ev"; walk_at "go"; walk_at "go"; exact q
  | str x => walk_at "ev"; walk_at "go"; walk_at "go"; exact q
theorem group__law_copied (p : Prog K mg) : ∀ n : Nat, FnG P w K mg base CX0 (1 * n + 3) p.f__law_copied p.fd__law_copied ["_law_thing"] (spT (w__law_copied n)) := by
  intro n
  induction n with
  | zero => exact fn_none (noT no__law_copied)
  | succ n ih =>
    have ih__law_copied := ih
    have h__law_copied : FnG P w K mg base CX0 (1 * (n + 1) + 3) p.f__law_copied p.fd__law_copied ["_law_thing"] (spT (w__law_copied (n + 1))) := okT p.d__law_copied.F sc__law_copied (by decide) (ar__law_copied (n + 1)) (fun cdv A outer s H E hg hr => ⟨_, (pss_cons (ps_if (pt_val (pe_callB call_isi (by rfl) p.blt.isinstance (by decide +kernel) (pa_cons (pv 0) (pa_cons (pe_bltn (v := .ty "list") (by rfl) p.blt.list (by decide +kernel) rfl) pa_nil))))
      (pss_one (ps_ret (pe_lc (own := [("_law_one", 1)]) (g := gName 1) (tt := tYes) rfl sc__law_copied.nd (pi_list (pv 0)) (blkOk_by (N := N__law_copied) (sc := defScope s__law_copied) (by decide +kernel)) (fun _ _ _ _ _ => pg_name (i := 1) sc__law_copied.nd rfl (Or.inl rfl)) (fun _ _ _ _ _ => pts_nil) (fun _ _ _ _ _ => (pe_callG (ih__law_copied.mono (by omega)) hg hr (by rfl) p.d__law_copied.gl p.d__law_copied.kp p.d__law_copied.bd pass0 (pa_cons (pv 1) pa_nil)))))) pss_nil)
      (pss_cons (ps_if (pt_val (pe_callB call_isi (by rfl) p.blt.isinstance (by decide +kernel) (pa_cons (pv 0) (pa_cons (pe_bltn (v := .ty "tuple") (by rfl) p.blt.tuple (by decide +kernel) rfl) pa_nil))))
      (pss_one (ps_ret (pe_callTy call_tuple_of (by rfl) p.blt.tuple (by decide +kernel) (pa_cons (pe_lc (own := [("_law_one", 1)]) (g := gName 1) (tt := tYes) rfl sc__law_copied.nd (pi_tup (pv 0)) (blkOk_by (N := N__law_copied) (sc := defScope s__law_copied) (by decide +kernel)) (fun _ _ _ _ _ => pg_name (i := 1) sc__law_copied.nd rfl (Or.inl rfl)) (fun _ _ _ _ _ => pts_nil) (fun _ _ _ _ _ => (pe_callG (ih__law_copied.mono (by omega)) hg hr (by rfl) p.d__law_copied.gl p.d__law_copied.kp p.d__law_copied.bd pass0 (pa_cons (pv 1) pa_nil)))) pa_nil)))) pss_nil)
      (pss_one (ps_ret (pv 0))))),
    fun C xc => (so_seq (so_ifS (so_test (so_is kitT_list (so_var (i := 0))))
      (so_ret (so_lc (so_itL (so_frz (i := 0))) so_yes (so_callT (so_cons (so_var (i := 1)) so_nil)))) so_next)
      (so_seq (so_ifS (so_test (so_is kitT_tuple (so_var (i := 0))))
      (so_ret (so_tupOf (so_cons (so_lc (so_itT (so_frz (i := 0))) so_yes (so_callT (so_cons (so_var (i := 1)) so_nil))) so_nil))) so_next)
      (so_ret (so_mov (i := 0)))))⟩) (val__law_copied n)
    exact h__law_copied
theorem ok__law_copied (p : Prog K mg) (n : Nat) : FnG P w K mg base CX0 (1 * n + 3) p.f__law_copied p.fd__law_copied ["_law_thing"] (spT (w__law_copied n)) := (group__law_copied p n)
/-- a purse, out of a cell of the script -/
def spSack (K : PySem.W.Frag) : Sp := fun vs H Q _ => ∃ (a : Addr) (ns : List Int) (i : Int), vs = [.ref a, .int i] ∧ SqL K H a (ns.map V.int) ∧ ns.length ≤ 63 ∧ (∀ z ∈ ns, Builtin.Int.intBits z ≤ 1048576) ∧ 0 ≤ i ∧ i ≤ 1000 ∧ ∀ H' q, Same H H' → H q = none → PuAt H' q 0 → Q (.ref q) H'
theorem ok__law_ps_sack (p : Prog K mg) : FnG P w K mg base CX0 3 p.f__law_ps_sack p.fd__law_ps_sack ["_law_script", "_law_rank"] (spSack K) := by
  refine okG p.d__law_ps_sack.F sc__law_ps_sack (fun vs H Q E h => ?_) (fun cdv A outer s H vs Q E hg hr h => ?_)
  · obtain ⟨a, ns, i, rfl, _⟩ := h
    rfl
  · obtain ⟨a, ns, i, rfl, hs, hl, hb, i0, i1, k⟩ := h
    refine ⟨_, (pss_cons (ps_set (i := 2) sc__law_ps_sack.nd rfl (Or.inl rfl) (pe_ifExp (pt_cmpR op_lt (pv 1) (pe_callB call_len_seq (by rfl) p.blt.len PySem.boot_len (pa_cons (pv 0) pa_nil)) (nomark _)) (pe_ix ix_list (pv 0) (pv 1) (fun _ _ => rfl)) pe_int))
      (pss_one (ps_ret (pe_lst (pa_cons (pe_callB (call_max2 rfl) (by rfl) p.blt.max (by decide +kernel) (pa_cons pe_int (pa_cons (pe_op op_sub (pe_callB call_abs (by rfl) p.blt.abs (by decide +kernel) (pa_cons (pv 2) pa_nil)) (pe_op op_powW pe_int pe_int)) pa_nil))) (pa_cons (pe_op op_mod (pe_callTy call_int1 (by rfl) p.blt.int (by decide +kernel) (pa_cons (pe_op op_add (pe_op op_add (pe_op op_mulB (pv 2) pe_int) (pe_op op_mulB (pv 1) pe_int)) pe_int) pa_nil)) (pe_op op_add (pe_op op_powW pe_int pe_int) pe_int)) (pa_cons pe_int pa_nil))))))), ?_⟩
    -- the rest, for any cell of so many bits
    have rest : ∀ c : Int, Builtin.Int.intBits c ≤ 1048576 → ∀ y : List (Option V), y = [some (.ref a), some (.int i), some (.int c)] → tRet (tLst (tCons (tCB (fun xs H Q => ∃ i j, xs = [.int i, .int j] ∧ Q (.int (if j > i then j else i)) H) (tCons (tC (.int 0)) (tCons (tOp (rI0 fun i j => .int (i - j)) (tCB (fun xs H Q => ∃ i, xs = [.int i] ∧ Q (.int (if i < 0 then -i else i)) H) (tCons (tVar 2) tNil)) (tOp (rI CPowW fun i j => .int (i ^ j.toNat)) (tC (.int 10)) (tC (.int 18)))) tNil)))
        (tCons (tOp (rI (fun _ j => 0 < j) fun i j => .int (i % j)) (tCB (fun xs H Q => (∃ i, xs = [.int i] ∧ Q (.int i) H) ∨ ∃ k, xs = [.bl k] ∧ Q (.int (if k then 1 else 0)) H) (tCons (tOp (rI0 fun i j => .int (i + j)) (tOp (rI0 fun i j => .int (i + j)) (tOp (rI CMulB fun i j => .int (i * j)) (tVar 2) (tC (.int 40503))) (tOp (rI CMulB fun i j => .int (i * j)) (tVar 1) (tC (.int 9176741)))) (tC (.int 65537))) tNil)) (tOp (rI0 fun i j => .int (i + j)) (tOp (rI CPowW fun i j => .int (i ^ j.toNat)) (tC (.int 10)) (tC (.int 24))) (tC (.int 7))))
        (tCons (tC (.int 0)) tNil)))) ⟨fun _ H' => Q .non H', Q, fun _ _ => False, fun _ _ => False⟩ y H := fun c hc y ey => by
      subst ey
      have b1 := bits_of (i := 40503) (n := 40) (by decide) (by decide)
      have b2 := bits_of (i := 9176741) (n := 40) (by decide) (by decide)
      have b3 := bits_of (i := i) (n := 100) (by decide) (by omega)
      have M2 : (0 : Int) < 10 ^ (24 : Int).toNat + 7 := by decide
      refine ⟨_, rfl, _, rfl, _, _, rfl, rfl, ⟨by decide, by decide⟩, _, _, rfl, rfl, _, _, rfl, ?_⟩
      refine ⟨_, rfl, _, _, rfl, rfl, (show _ < _ by omega), _, rfl, _, _, rfl, rfl, (show _ < _ by omega), _, _, rfl, rfl, _, _, rfl, rfl, .inl ⟨_, rfl, _, _, rfl, rfl, ⟨by decide, by decide⟩, _, _, rfl, rfl, _, _, rfl, rfl, M2, szle (by simp), fun q hq => ?_⟩⟩
      refine k _ q (same_upd hq) hq ⟨_, _, _, upd_same, Int.emod_nonneg _ (by omega), ?_, by omega, by omega⟩
      exact Int.lt_trans (Int.emod_lt_of_pos _ M2) (by decide)
    refine ⟨_, rfl, _, rfl, a, _, rfl, .inl hs, _, _, rfl, rfl, _, rfl, ?_⟩
    rw [ints_len]
    refine iteB (fun c => ?_) (fun c => ?_)
    · have hi : i < (ns.length : Int) := of_decide_eq_true c
      obtain ⟨z, hz⟩ : ∃ z, ns[i.toNat]? = some z := ⟨_, List.getElem?_eq_getElem (show i.toNat < ns.length by omega)⟩
      exact ⟨_, rfl, _, rfl, a, _, i, _, rfl, rfl, hs, at_nat (k := i.toNat) (by omega) (ints_at hz), rest z (hb z (List.mem_of_getElem? hz)) _ rfl⟩
    · exact rest 0 (by decide) _ rfl
def w__law_ps_least : Tw := fun ds Q => ∃ n gs, ds = [.int n, dI gs] ∧ (∀ x ∈ gs, x ≤ n) ∧ gs.length ≤ 1000000 ∧ Q (dE (leastE n gs))
theorem ok__law_ps_least (p : Prog K mg) : FnG P w K mg base CX0 3 p.f__law_ps_least p.fd__law_ps_least ["_law_takes", "_law_puts"] (spT w__law_ps_least) := by
  refine okG p.d__law_ps_least.F sc__law_ps_least (fun vs H Q E h => ?_) (fun cdv A outer s H vs Q E hg hr h => ?_)
  · obtain ⟨S, ds, G, r, ⟨n, gs, rfl, _⟩, _⟩ := h
    exact r.length
  · obtain ⟨S, ds, G, r, ⟨n, gs, rfl, le, len, q⟩, k⟩ := h
    obtain ⟨v1, v2, rfl, hS⟩ := enter2 r
    obtain rfl := hS.fint (by walk_at "mem")
    obtain ⟨a, rfl, ha⟩ := hS.rints (.fz (by walk_at "mem"))
    refine ⟨_, (pss_cons (ps_set (i := 2) sc__law_ps_least.nd rfl (Or.inl rfl) (pe_callB call_len_seq (by rfl) p.blt.len PySem.boot_len (pa_cons (pv 1) pa_nil)))
      (pss_cons (ps_for PassesOwn.never rfl (pi_range1 (by rfl) p.blt.range (pa_cons (pe_callB call_len_seq (by rfl) p.blt.len PySem.boot_len (pa_cons (pv 1) pa_nil)) pa_nil)) (pg_name (i := 3) sc__law_ps_least.nd rfl (Or.inl rfl))
      (pss_one (ps_if (PW.pt (pw_and (pt_cmpR (op_eqD hr.units) (pe_slice sl_list (pv 1) (po_some (pe_op op_sub (pv 2) pe_int)) (po_some (pv 2))) (pe_lst (pa_cons (pv 0) pa_nil)) (nomark _)) (pw_and1 (pt_cmpR op_notIn_seq (pv 0) (pe_slice sl_list (pv 1) po_none (po_some (pe_op op_sub (pv 2) pe_int))) rfl))))
      (pss_one (ps_par (i := 0) (j := 2) rfl sc__law_ps_least.nd rfl rfl (by decide) rfl rfl (pa_cons (pe_op op_sub (pv 0) pe_int) (pa_cons (pe_op op_sub (pv 2) pe_int) pa_nil)) (by rfl))) pss_nil)))
      (pss_one (ps_ret (pe_tup (pa_cons (pv 0) (pa_cons (pe_slice sl_list (pv 1) po_none (po_some (pv 2))) pa_nil))))))), ?_⟩
    refine ⟨_, rfl, a, _, rfl, .inl (SqL.of ha), ?_⟩
    refine ⟨_, rfl, a, _, rfl, .inl (SqL.of ha), _, rfl, by rw [ints_len]; omega, by rw [ints_len]; omega, ?_⟩
    rw [ints_len]
    refine for_range (fun i σ H1 => ∃ n' m y3, σ = [some (.int n'), some (.ref a), some (.int (m : Nat)), y3] ∧ St H .none .none [(.int n, .int n), (.ref a, dI gs)] [] [] H1 ∧ m ≤ gs.length ∧ trim gs gs.length n = trim gs m n' ∧ (∀ x ∈ gs.take m, x ≤ n') ∧ (m = gs.length - i ∨ trim gs m n' = (m, n'))) ⟨n, gs.length, none, rfl, hS, Nat.le_refl _, rfl, by rw [List.take_length]; exact le, .inl rfl⟩ (fun i σ H1 hi hI => ?_) (fun σ H1 hI => ?_)
    · obtain ⟨n', m, y3, rfl, h1, hm, et, hle, alt⟩ := hI
      obtain ⟨a', e, ha1⟩ := h1.rints (v := .ref a) (.fz (by walk_at "mem"))
      cases e
      have hi' : i < gs.length := by simpa using hi
      -- what a turn does
      have go : trim gs m n' = (m, n') → ∃ n'' m'' y3', [some (V.int n'), some (.ref a), some (.int (m : Nat)), some (V.int (0 + (i : Int)))] = [some (V.int n''), some (.ref a), some (.int (m'' : Nat)), y3'] ∧ St H .none .none [(.int n, .int n), (.ref a, dI gs)] [] [] H1 ∧ m'' ≤ gs.length ∧ trim gs gs.length n = trim gs m'' n'' ∧ (∀ x ∈ gs.take m'', x ≤ n'') ∧ (m'' = gs.length - (i + 1) ∨ trim gs m'' n'' = (m'', n'')) := fun z => ⟨n', m, _, rfl, h1, hm, et, hle, .inr z⟩
      cases m with
      | zero =>
        -- puts[-1:0] == [takes]
        refine ⟨_, rfl, _, rfl, _, _, rfl, rfl, _, rfl, _, rfl, _, rfl, a, _, rfl, SqL.of ha1, fun c hc => ?_⟩
        have e0 : cutV (gs.map V.int) (some (((0 : Nat) : Int) - 1)) (some ((0 : Nat) : Int)) = ([] : List Int).map V.int := cutV_neg _ _
        rw [e0]
        have h2 := h1.mkInts (ns := []) hc
        obtain ⟨hc1, _⟩ := h2.putInts
        refine ⟨_, rfl, szle (by simp), fun l hl => ?_⟩
        have h3 := h2.mkInts (ns := [n']) hl
        obtain ⟨hl1, _⟩ := h3.putInts
        refine ⟨_, _, dp_ints (same_upd hl _ _ hc1), dp_ints hl1, shaped_ints _, shaped_ints _, _, rfl, ?_⟩
        rw [eqv_ints, decide_eq_false (by simp)]
        refine iteF (iteF ?_)
        obtain ⟨n'', m'', y3', e1, h4, rest⟩ := go rfl
        exact ⟨n'', m'', y3', e1, (h3.drop).drop, rest⟩
      | succ j =>
        have hj : gs[j]? = some gs[j] := List.getElem?_eq_getElem (by omega)
        have ej : ((j + 1 : Nat) : Int) - 1 = (j : Int) := by omega
        refine ⟨_, rfl, _, rfl, _, _, rfl, rfl, _, rfl, _, rfl, _, rfl, a, _, rfl, SqL.of ha1, fun c hc => ?_⟩
        have e0 : cutV (gs.map V.int) (some (((j + 1 : Nat) : Int) - 1)) (some ((j + 1 : Nat) : Int)) = [gs[j]].map V.int := by
          rw [ej, cutV_mid]
          have e1 : j + 1 - j = 1 := by omega
          rw [e1, ← List.map_drop, ← List.map_take, List.take_one, List.head?_drop, hj]
          rfl
        rw [e0]
        have h2 := h1.mkInts (ns := [gs[j]]) hc
        obtain ⟨hc1, _⟩ := h2.putInts
        refine ⟨_, rfl, szle (by simp), fun l hl => ?_⟩
        have h3 := h2.mkInts (ns := [n']) hl
        obtain ⟨hl1, _⟩ := h3.putInts
        refine ⟨_, _, dp_ints (same_upd hl _ _ hc1), dp_ints hl1, shaped_ints _, shaped_ints _, _, rfl, ?_⟩
        rw [eqv_ints]
        by_cases c1 : gs[j] = n'
        · rw [decide_eq_true (by rw [c1])]
          refine iteT ?_
          obtain ⟨a', e, ha3⟩ := h3.rints (v := .ref a) (.fz (by walk_at "mem"))
          cases e
          -- takes not in puts[:size - 1]
          refine ⟨_, rfl, _, rfl, _, rfl, _, _, rfl, rfl, _, rfl, a, _, rfl, SqL.of ha3, fun o ho => ?_⟩
          rw [ej, cutV_to, ← List.map_take]
          have h4 := h3.mkInts (ns := gs.take j) ho
          obtain ⟨ho1, _⟩ := h4.putInts
          refine ⟨o, _, rfl, .inl (SqL.of ho1), rfl, flat_ints _, _, rfl, ?_⟩
          rw [inV_ints]
          have h5 := ((h4.drop).drop).drop
          by_cases c2 : n' ∈ gs.take j
          · rw [decide_eq_true c2]
            refine iteF ?_
            have z : trim gs (j + 1) n' = (j + 1, n') := by
              unfold trim
              rw [if_neg fun z => Int.lt_irrefl _ (z.2 _ c2)]
            obtain ⟨n'', m'', y3', e1, _, rest⟩ := go z
            exact ⟨n'', m'', y3', e1, h5, rest⟩
          · rw [decide_eq_false c2]
            refine iteT ?_
            have lt : ∀ x ∈ gs.take j, x < n' := fun x hx => by
              have h6 : x ≤ n' := hle x (by rw [List.take_add_one]; exact List.mem_append_left _ hx)
              have h7 : x ≠ n' := fun z => c2 (z ▸ hx)
              omega
            have et2 : trim gs (j + 1) n' = trim gs j (n' - 1) := by
              conv => lhs; unfold trim
              rw [if_pos ⟨by rw [hj, c1], lt⟩]
            refine ⟨_, rfl, _, _, rfl, rfl, _, rfl, _, _, rfl, rfl, _, _, rfl, n' - 1, j, some (V.int (0 + (i : Int))), ?_, h5, by omega, et.trans et2, fun x hx => by have := lt x hx; omega, ?_⟩
            · exact congrArg (fun z => [some (V.int (n' - 1)), some (.ref a), some (.int z), some (V.int (0 + (i : Int)))]) ej
            · rcases alt with z | z
              · exact .inl (by omega)
              · rw [et2] at z
                have := trim_le gs j (n' - 1)
                rw [z] at this
                simp at this
                omega
        · rw [decide_eq_false (fun z => c1 (List.cons.inj z).1)]
          refine iteF (iteF ?_)
          have z : trim gs (j + 1) n' = (j + 1, n') := by
            unfold trim
            rw [if_neg fun z => c1 (by rw [hj] at z; exact Option.some.inj z.1)]
          obtain ⟨n'', m'', y3', e1, _, rest⟩ := go z
          exact ⟨n'', m'', y3', e1, (h3.drop).drop, rest⟩
    · obtain ⟨n', m, y3, rfl, h1, hm, et, hle, alt⟩ := hI
      obtain ⟨a', e, ha1⟩ := h1.rints (v := .ref a) (.fz (by walk_at "mem"))
      cases e
      have eo : trim gs m n' = (m, n') := by
        rcases alt with z | z
        · have : m = 0 := by
            have e1 : ((gs.length : Nat) : Int).toNat = gs.length := by simp
            rw [e1] at z
            omega
          subst this
          rfl
        · exact z
      have eL : leastE n gs = (n', gs.take m) := by
        unfold leastE
        rw [et, eo]
      rw [eL] at q
      refine ⟨_, rfl, _, rfl, _, rfl, _, rfl, a, _, rfl, SqL.of ha1, fun c hc => ?_⟩
      rw [cutV_to, ← List.map_take]
      have h2 := h1.mkInts (ns := gs.take m) hc
      refine ⟨szle (by simp), fun u hu => ?_⟩
      have h3 := (h2.mkTup hu).take (.tp2 (List.Mem.head _) (.int n') (.own .hd))
      obtain ⟨sm, nw⟩ := h3.leave
      exact k _ _ _ q sm nw
/-- an order of the places -/
def w__law_ps_order : Tw := fun ds Q => ∃ n : Int, ds = [.int n] ∧ 0 ≤ n ∧ n ≤ 1000 ∧ ∀ gs : List Int, gs.Perm (rg 1 (n + 1)) → Q (dI gs)
theorem erase_perm {l : List Int} {k : Nat} {y : Int} (h : l[k]? = some y) : (y :: l.eraseIdx k).Perm l := by
  induction l generalizing k with
  | nil => simp at h
  | cons x l ih =>
    cases k with
    | zero =>
      simp at h
      subst h
      exact .refl _
    | succ k =>
      have q := ih (k := k) (by simpa using h)
      simp only [List.eraseIdx_cons_succ]
      exact (List.Perm.swap x y _).trans (q.cons x)
theorem ok__law_ps_order (p : Prog K mg) : FnG P w K mg base CX0 4 p.f__law_ps_order p.fd__law_ps_order ["_law_sack", "_law_takes"] (spP 1000 w__law_ps_order) := by
  refine okG p.d__law_ps_order.F sc__law_ps_order (fun vs H Q E h => ?_) (fun cdv A outer s H vs Q E hg hr h => ?_)
  · obtain ⟨p, b, vs', S, ds, G, rfl, _, _, r, _, ⟨m, rfl, _⟩, _⟩ := h
    exact congrArg Nat.succ r.length
  · obtain ⟨u, b, vs', S, ds, G, rfl, hp, hb, r, np, ⟨n, rfl, n0, n1, q⟩, k⟩ := h
    obtain ⟨v1, rfl, hS⟩ := enterP1 r hp np
    obtain rfl := hS.fint (by walk_at "mem")
    refine ⟨_, (pss_cons (ps_par (i := 2) (j := 3) rfl sc__law_ps_order.nd rfl rfl (by decide) rfl rfl (pa_cons (pe_listRg rfl (by rfl) p.blt.list (prg_2 (by rfl) p.blt.range pe_int (pe_op op_add (pv 1) pe_int))) (pa_cons (pe_lst pa_nil) pa_nil)) (by rfl))
      (pss_cons (ps_for PassesOwn.never rfl (pi_range1 (by rfl) p.blt.range (pa_cons (pv 1) pa_nil)) (pg_name (i := 4) sc__law_ps_order.nd rfl (Or.inl rfl))
      (pss_one (ps_expr (pe_bm PySem.F.plainAttrs_list PySem.F.slot_list_append PySem.F.type_list_append mt_append (pv 3) (pa_cons (pe_bm PySem.F.plainAttrs_list PySem.F.slot_list_pop PySem.F.type_list_pop mt_popAt (pv 2) (pa_cons (pe_callG ((ok__law_coin p).mono (by decide)) hg hr (by rfl) p.d__law_coin.gl p.d__law_coin.kp p.d__law_coin.bd pass0 (pa_cons (pv 0) (pa_cons (pe_callB call_len_seq (by rfl) p.blt.len PySem.boot_len (pa_cons (pv 2) pa_nil)) pa_nil))) pa_nil)) pa_nil)))))
      (pss_one (ps_ret (pv 3))))), ?_⟩
    refine ⟨_, rfl, _, _, rfl, rfl, _, _, rfl, rfl, RgOk.of_le (by omega) (by omega) (by omega) (by omega), fun l hl => ?_⟩
    rw [rgV_map]
    have h1 := hS.mkInts (ns := rg 1 (n + 1)) hl
    refine ⟨szle (by simp), fun o ho => ⟨_, _, rfl, ?_⟩⟩
    have h2 := h1.mkInts (ns := []) ho
    refine ⟨_, rfl, n, rfl, by omega, by omega, for_range (fun i σ H1 => ∃ y4 pool puts, σ = [some (.ref u), some (.int n), some (.ref l), some (.ref o), y4] ∧ St H (some u) (some (u, b + i)) [(.int n, .int n)] [(.ref o, dI puts), (.ref l, dI pool)] [] H1 ∧ (puts ++ pool).Perm (rg 1 (n + 1)) ∧ puts.length = i) ⟨none, rg 1 (n + 1), [], rfl, by simpa using h2, .refl _, rfl⟩ (fun i σ H1 hi hI => ?_) (fun σ H1 hI => ?_)⟩
    · obtain ⟨y4, pool, puts, rfl, h3, pm, el⟩ := hI
      have lp : puts.length + pool.length = n.toNat := by
        have := pm.length_eq
        rw [List.length_append, rg_length] at this
        omega
      obtain ⟨ho1, _⟩ := h3.putInts
      have h3' := h3.front (.tl .hd)
      obtain ⟨hl1, _⟩ := h3'.putInts
      refine ⟨_, rfl, .inl ⟨rfl, _, SqL.of ho1⟩, _, rfl, .inl ⟨rfl, _, SqL.of hl1⟩, _, rfl, _, rfl, l, _, rfl, .inl (SqL.of hl1), ?_⟩
      rw [ints_len]
      refine h3.callP (vs := [.int (pool.length : Nat)]) (by omega) (.cons (.int _) .nil) ⟨_, rfl, by omega, by omega, fun r r0 r1 v' H2 h4 => ?_⟩
      obtain ⟨rfl, h4'⟩ := h4.int
      have h5 := h4'.front (.tl .hd)
      obtain ⟨hl2, kp⟩ := h5.putInts
      have hy : pool[r.toNat]? = some pool[r.toNat] := List.getElem?_eq_getElem (by omega)
      refine ⟨l, _, r, r.toNat, _, rfl, rfl, hl2, by omega, by omega, seqIndex_of r0 (by rw [ints_len]; exact r1), ints_at hy, ?_⟩
      have h6 := kp (pool.eraseIdx r.toNat)
      rw [← map_erase] at h6
      have h7 := h6.front (.tl .hd)
      obtain ⟨ho2, kp2⟩ := h7.putInts
      refine ⟨o, _, _, rfl, rfl, ho2, szlt (by rw [ints_len]; omega), ?_⟩
      have h8 := kp2 (puts ++ [pool[r.toNat]])
      refine ⟨_, pool.eraseIdx r.toNat, puts ++ [pool[r.toNat]], rfl, ?_, ?_, by simp [el]⟩
      · have eb : b + (i : Int) + 1 = b + ((i + 1 : Nat) : Int) := by omega
        rw [eb] at h8
        simpa using h8
      · rw [List.append_assoc]
        refine List.Perm.trans (List.Perm.append_left _ ?_) pm
        exact erase_perm hy
    · obtain ⟨y4, pool, puts, rfl, h3, pm, el⟩ := hI
      have lp : puts.length + pool.length = n.toNat := by
        have := pm.length_eq
        rw [List.length_append, rg_length] at this
        omega
      have e0 : pool = [] := List.eq_nil_of_length_eq_zero (by omega)
      subst e0
      rw [List.append_nil] at pm
      obtain ⟨fr, pu, nw⟩ := h3.leaveP (c := b + 1000) (by omega)
      exact ⟨_, rfl, k _ _ _ (q puts pm) fr pu nw⟩
/-- any effect within the bounds -/
def w__law_ps_drawn : Tw := fun ds Q => ∃ deep most, ds = [.int deep, .int most] ∧ 0 ≤ deep ∧ deep ≤ 100 ∧ 0 ≤ most ∧ most ≤ 100 ∧ ∀ n gs, Eff (n, gs) → n ≤ deep → (gs.length : Int) ≤ most → Q (.tuple [.int n, dI gs])
def menu8 : List (Int × List Int) := [(1, [1, 1]), (1, []), (2, [2, 1]), (2, [2, 1, 2]), (3, [3, 1, 2]), (2, [1]), (2, [1, 1]), (3, [2, 1])]
theorem menu8_eff : ∀ e ∈ menu8, Eff e := by
  intro e he
  simp only [menu8, List.mem_cons, List.not_mem_nil, or_false] at he
  rcases he with rfl | rfl | rfl | rfl | rfl | rfl | rfl | rfl <;> exact ⟨by decide, by decide, by decide⟩
theorem perm_rg {n : Int} (h : 0 ≤ n) {gs : List Int} (pm : gs.Perm (rg 1 (n + 1))) : (gs.length : Int) = n ∧ ∀ x ∈ gs, 1 ≤ x ∧ x ≤ n := by
  refine ⟨?_, fun x hx => ?_⟩
  · rw [pm.length_eq, rg_length]
    omega
  · have := mem_rg.mp (pm.mem_iff.mp hx)
    omega
theorem ok__law_ps_drawn (p : Prog K mg) : FnG P w K mg base CX0 5 p.f__law_ps_drawn p.fd__law_ps_drawn ["_law_sack", "_law_deep", "_law_most"] (spP 10000 w__law_ps_drawn) := by
  refine okG p.d__law_ps_drawn.F sc__law_ps_drawn (fun vs H Q E h => ?_) (fun cdv A outer s H vs Q E hg hr h => ?_)
  · obtain ⟨p, b, vs', S, ds, G, rfl, _, _, r, _, ⟨d, m, rfl, _⟩, _⟩ := h
    exact congrArg Nat.succ r.length
  · obtain ⟨u, b, vs', S, ds, G, rfl, hp, hb, r, np, ⟨deep, most, rfl, d0, d1, m0, m1, q⟩, k⟩ := h
    obtain ⟨v1, v2, rfl, hS⟩ := enterP2 r hp np
    obtain rfl := hS.fint (v := v1) (by walk_at "mem")
    obtain rfl := hS.fint (v := v2) (by walk_at "mem")
    -- a way out: a pair of a number and a list that is owned
    have out : ∀ {n : Int} {gs : List Int} {c : Int} {l : Addr} {Fz Ow : List (V × D)} {Tp : List (Addr × List V)} {H1 : Hp}, St H (some u) (some (u, c)) Fz ((.ref l, dI gs) :: Ow) Tp H1 → c ≤ b + 10000 → Eff (n, gs) → n ≤ deep → (gs.length : Int) ≤ most →
        2 ≤ sizeLine ∧ ∀ z, H1 z = none → Q (.ref z) (upd H1 z (.tup [.int n, .ref l])) := fun {n gs c l Fz Ow Tp H1} h1 hc ef hn hl => ⟨szle (by omega), fun z hz => by
      have h2 := (h1.mkTup (vs := [.int n, .ref l]) hz).take (.tp2 (List.Mem.head _) (.int _) (.own .hd))
      obtain ⟨fr, pu, nw⟩ := h2.leaveP hc
      exact k _ _ _ (q _ _ ef hn hl) fr pu nw⟩
    refine ⟨_, (pss_cons (ps_asg (pe_tup (pa_cons (pe_callG ((ok__law_coin p).mono (by decide)) hg hr (by rfl) p.d__law_coin.gl p.d__law_coin.kp p.d__law_coin.bd pass0 (pa_cons (pv 0) (pa_cons pe_int pa_nil))) (pa_cons (pe_callG ((ok__law_coin p).mono (by decide)) hg hr (by rfl) p.d__law_coin.gl p.d__law_coin.kp p.d__law_coin.bd pass0 (pa_cons (pv 0) (pa_cons (pe_op op_add (pv 1) pe_int) pa_nil))) pa_nil))) (pg_tup rfl (pgs_cons (pg_name (i := 3) sc__law_ps_drawn.nd rfl (Or.inl rfl)) (pgs_cons (pg_name (i := 4) sc__law_ps_drawn.nd rfl (Or.inr rfl)) pgs_nil))))
      (C8.pss_cut (ps_if (pt_cmpR op_eq (pv 3) pe_int (nomark _))
      (pss_cons (ps_set (i := 5) sc__law_ps_drawn.nd rfl (Or.inl rfl) (pe_lst (pa_cons (pe_tup (pa_cons pe_int (pa_cons (pe_lst (pa_cons pe_int (pa_cons pe_int pa_nil))) pa_nil))) (pa_cons (pe_tup (pa_cons pe_int (pa_cons (pe_lst pa_nil) pa_nil))) (pa_cons (pe_tup (pa_cons pe_int (pa_cons (pe_lst (pa_cons pe_int (pa_cons pe_int pa_nil))) pa_nil))) (pa_cons (pe_tup (pa_cons pe_int (pa_cons (pe_lst (pa_cons pe_int (pa_cons pe_int (pa_cons pe_int pa_nil)))) pa_nil))) (pa_cons (pe_tup (pa_cons pe_int (pa_cons (pe_lst (pa_cons pe_int (pa_cons pe_int (pa_cons pe_int pa_nil)))) pa_nil))) (pa_cons (pe_tup (pa_cons pe_int (pa_cons (pe_lst (pa_cons pe_int pa_nil)) pa_nil))) (pa_cons (pe_tup (pa_cons pe_int (pa_cons (pe_lst (pa_cons pe_int (pa_cons pe_int pa_nil))) pa_nil))) (pa_cons (pe_tup (pa_cons pe_int (pa_cons (pe_lst (pa_cons pe_int (pa_cons pe_int pa_nil))) pa_nil))) pa_nil))))))))))
      (pss_cons (ps_set (i := 6) sc__law_ps_drawn.nd rfl (Or.inl rfl) (pe_ix ix_list (pv 5) (pe_callG ((ok__law_coin p).mono (by decide)) hg hr (by rfl) p.d__law_coin.gl p.d__law_coin.kp p.d__law_coin.bd pass0 (pa_cons (pv 0) (pa_cons pe_int pa_nil))) (fun _ _ => rfl)))
      (pss_one (ps_if (PW.pt (pw_and (pt_cmpR op_le (pe_ix ix_tup (pv 6) pe_int (fun _ _ => rfl)) (pv 1) (nomark _)) (pw_and1 (pt_cmpR op_le (pe_callB call_len_seq (by rfl) p.blt.len PySem.boot_len (pa_cons (pe_ix ix_tup (pv 6) pe_int (fun _ _ => rfl)) pa_nil)) (pv 2) (nomark _)))))
      (pss_one (ps_ret (pe_tup (pa_cons (pe_ix ix_tup (pv 6) pe_int (fun _ _ => rfl)) (pa_cons (pe_callTy call_list_of (by rfl) p.blt.list (by decide +kernel) (pa_cons (pe_ix ix_tup (pv 6) pe_int (fun _ _ => rfl)) pa_nil)) pa_nil))))) pss_nil)))) pss_nil)
      (pss_cons (ps_if (pt_cmpR op_eq (pv 3) pe_int (nomark _))
      (pss_cons (ps_set (i := 4) sc__law_ps_drawn.nd rfl (Or.inr rfl) (pe_callB (call_min2 rfl) (by rfl) p.blt.min (by decide +kernel) (pa_cons (pv 4) (pa_cons (pv 2) pa_nil))))
      (pss_one (ps_ret (pe_tup (pa_cons (pv 4) (pa_cons (pe_callG ((ok__law_ps_order p).mono (by decide)) hg hr (by rfl) p.d__law_ps_order.gl p.d__law_ps_order.kp p.d__law_ps_order.bd pass0 (pa_cons (pv 0) (pa_cons (pv 4) pa_nil))) pa_nil)))))) pss_nil)
      (pss_cons (ps_if (pt_cmpR op_eq (pv 3) pe_int (nomark _))
      (pss_cons (ps_set (i := 4) sc__law_ps_drawn.nd rfl (Or.inr rfl) (pe_callB (call_min2 rfl) (by rfl) p.blt.min (by decide +kernel) (pa_cons (pv 4) (pa_cons (pv 2) pa_nil))))
      (pss_cons (ps_set (i := 7) sc__law_ps_drawn.nd rfl (Or.inl rfl) (pe_callG ((ok__law_ps_order p).mono (by decide)) hg hr (by rfl) p.d__law_ps_order.gl p.d__law_ps_order.kp p.d__law_ps_order.bd pass0 (pa_cons (pv 0) (pa_cons (pv 4) pa_nil))))
      (pss_cons (ps_set (i := 8) sc__law_ps_drawn.nd rfl (Or.inl rfl) (pe_callG ((ok__law_coin p).mono (by decide)) hg hr (by rfl) p.d__law_coin.gl p.d__law_coin.kp p.d__law_coin.bd pass0 (pa_cons (pv 0) (pa_cons (pe_op op_add (pe_callB call_len_seq (by rfl) p.blt.len PySem.boot_len (pa_cons (pv 7) pa_nil)) pe_int) pa_nil))))
      (pss_cons (ps_if (PW.pt (pw_or (pt_cmpR op_eq (pe_callG ((ok__law_coin p).mono (by decide)) hg hr (by rfl) p.d__law_coin.gl p.d__law_coin.kp p.d__law_coin.bd pass0 (pa_cons (pv 0) (pa_cons pe_int pa_nil))) pe_int (nomark _)) (pw_or (pt_cmpR op_eq (pe_callB call_len_seq (by rfl) p.blt.len PySem.boot_len (pa_cons (pv 7) pa_nil)) (pv 2) (nomark _)) (pw_or1 (pt_cmpR (op_eqD hr.units) (pv 7) (pe_lst pa_nil) (nomark _))))))
      (pss_one (ps_ret (pe_tup (pa_cons (pv 4) (pa_cons (pe_op op_cat (pe_slice sl_list (pv 7) po_none (po_some (pv 8))) (pe_slice sl_list (pv 7) (po_some (pe_op op_add (pv 8) pe_int)) po_none)) pa_nil))))) pss_nil)
      (pss_one (ps_ret (pe_tup (pa_cons (pv 4) (pa_cons (pe_op op_cat (pe_op op_cat (pe_slice sl_list (pv 7) po_none (po_some (pv 8))) (pe_lst (pa_cons (pe_ix ix_list (pv 7) (pe_callG ((ok__law_coin p).mono (by decide)) hg hr (by rfl) p.d__law_coin.gl p.d__law_coin.kp p.d__law_coin.bd pass0 (pa_cons (pv 0) (pa_cons (pe_callB call_len_seq (by rfl) p.blt.len PySem.boot_len (pa_cons (pv 7) pa_nil)) pa_nil))) (fun _ _ => rfl)) pa_nil))) (pe_slice sl_list (pv 7) (po_some (pv 8)) po_none)) pa_nil))))))))) pss_nil)
      (pss_cons (ps_if (pt_cmpR op_eq (pv 3) pe_int (nomark _))
      (pss_cons (ps_set (i := 9) sc__law_ps_drawn.nd rfl (Or.inr rfl) (pe_callG ((ok__law_coin p).mono (by decide)) hg hr (by rfl) p.d__law_coin.gl p.d__law_coin.kp p.d__law_coin.bd pass0 (pa_cons (pv 0) (pa_cons (pe_op op_add (pv 4) pe_int) pa_nil))))
      (pss_cons (ps_set (i := 4) sc__law_ps_drawn.nd rfl (Or.inr rfl) (pe_callB (call_min2 rfl) (by rfl) p.blt.min (by decide +kernel) (pa_cons (pv 4) (pa_cons (pe_op op_add (pv 9) (pv 2)) pa_nil))))
      (pss_cons (ps_set (i := 10) sc__law_ps_drawn.nd rfl (Or.inl rfl) (pe_ifExp (pt_cmpR op_gt (pv 9) pe_int (nomark _)) (pe_callG ((ok__law_coin p).mono (by decide)) hg hr (by rfl) p.d__law_coin.gl p.d__law_coin.kp p.d__law_coin.bd pass0 (pa_cons (pv 0) (pa_cons (pe_op op_add (pe_op op_add (pe_op op_sub (pv 2) (pv 4)) (pv 9)) pe_int) pa_nil))) pe_int))
      (pss_cons (ps_setLc (i := 7) (own := [("_law_turn", 11)]) (g := gName 11) (tt := tYes) rfl sc__law_ps_drawn.nd rfl rfl (sw_true rfl rfl rfl (by decide +kernel)) (pi_range1 (by rfl) p.blt.range (pa_cons (pv 10) pa_nil)) (blkOk_by (N := N__law_ps_drawn) (sc := defScope s__law_ps_drawn) (by decide +kernel)) (fun _ _ _ _ _ => pg_name (i := 11) sc__law_ps_drawn.nd rfl (Or.inl rfl)) (fun _ _ _ _ _ => pts_nil) (fun _ _ _ _ _ => (pe_op op_add pe_int (pe_callG ((ok__law_coin p).mono (by decide)) hg hr (by rfl) p.d__law_coin.gl p.d__law_coin.kp p.d__law_coin.bd pass0 (pa_cons (pv 0) (pa_cons (pv 9) pa_nil))))))
      (pss_one (ps_ret (pe_tup (pa_cons (pv 4) (pa_cons (pe_op op_cat (pv 7) (pe_listRg rfl (by rfl) p.blt.list (prg_2 (by rfl) p.blt.range (pe_op op_add (pv 9) pe_int) (pe_op op_add (pv 4) pe_int)))) pa_nil))))))))) pss_nil)
      (pss_cons (ps_set (i := 10) sc__law_ps_drawn.nd rfl (Or.inl rfl) (pe_ifExp (pt_cmpR op_gt (pv 4) pe_int (nomark _)) (pe_callG ((ok__law_coin p).mono (by decide)) hg hr (by rfl) p.d__law_coin.gl p.d__law_coin.kp p.d__law_coin.bd pass0 (pa_cons (pv 0) (pa_cons (pe_op op_add (pv 2) pe_int) pa_nil))) pe_int))
      (C8.pss_cut (ps_if (pt_cmpR op_eq (pv 3) pe_int (nomark _))
      (pss_one (ps_set (i := 10) sc__law_ps_drawn.nd rfl (Or.inl rfl) (pe_callB (call_min2 rfl) (by rfl) p.blt.min (by decide +kernel) (pa_cons (pv 10) (pa_cons pe_int pa_nil))))) pss_nil)
      (pss_one (ps_ret (pe_tup (pa_cons (pv 4) (pa_cons (pe_lc (own := [("_law_turn", 11)]) (g := gName 11) (tt := tYes) rfl sc__law_ps_drawn.nd (pi_range1 (by rfl) p.blt.range (pa_cons (pv 10) pa_nil)) (blkOk_by (N := N__law_ps_drawn) (sc := defScope s__law_ps_drawn) (by decide +kernel)) (fun _ _ _ _ _ => pg_name (i := 11) sc__law_ps_drawn.nd rfl (Or.inl rfl)) (fun _ _ _ _ _ => pts_nil) (fun _ _ _ _ _ => (pe_op op_add pe_int (pe_callG ((ok__law_coin p).mono (by decide)) hg hr (by rfl) p.d__law_coin.gl p.d__law_coin.kp p.d__law_coin.bd pass0 (pa_cons (pv 0) (pa_cons (pv 4) pa_nil)))))) pa_nil)))))))))))), ?_⟩
    -- sort, takes = coin(6), coin(deep + 1)
    refine ⟨_, rfl, hS.callP (vs := [.int 6]) (by omega) (.cons (.int _) .nil) ⟨6, rfl, by omega, by omega, fun so s0 s1 v' H1 h1 => ?_⟩⟩
    obtain ⟨rfl, h1'⟩ := h1.int
    refine ⟨_, rfl, _, rfl, _, _, rfl, rfl, h1'.callP (vs := [.int (deep + 1)]) (by omega) (.cons (.int _) .nil) ⟨_, rfl, by omega, by omega, fun ta t0 t1 v' H2 h2 => ?_⟩⟩
    obtain ⟨rfl, h2'⟩ := h2.int
    refine ⟨szle (by simp), fun z hz => ?_⟩
    have h3 := h2'.mkTup (vs := [.int so, .int ta]) hz
    refine ⟨z, _, rfl, SqT.of upd_same, rfl, _, _, rfl, _, _, rfl, rfl, ?_⟩
    -- if sort == 0
    refine ⟨fun σ' H' => ∃ y5 y6 c Fz Ow Tp, σ' = [some (.ref u), some (.int deep), some (.int most), some (.int so), some (.int ta), y5, y6, none, none, none, none, none] ∧ St H (some u) (some (u, c)) Fz Ow Tp H' ∧ c ≤ b + 3, ?_, ?_⟩
    · refine ⟨_, rfl, rfl, _, rfl, ?_⟩
      rw [dec_eq_int]
      by_cases e0 : so = 0
      · rw [decide_eq_true e0]
        refine iteT ?_
        refine w_asg (w_lit h3 (d := .list (menu8.map dE)) (by walk_at "lit") (fun v H4 h4 => ?_))
        have h5 := h4.freeze
        refine ⟨_, rfl, _, rfl, h5.callP (vs := [.int 8]) (by omega) (.cons (.int _) .nil) ⟨8, rfl, by omega, by omega, fun x x0 x1 v' H6 h6 => ?_⟩⟩
        obtain ⟨rfl, h6'⟩ := h6.int
        obtain ⟨⟨n, gs⟩, hx⟩ : ∃ e, menu8[x.toNat]? = some e := ⟨_, List.getElem?_eq_getElem (show x.toNat < menu8.length from by show x.toNat < 8; omega)⟩
        have ef := menu8_eff _ (List.mem_of_getElem? hx)
        obtain ⟨a, vs, w', rfl, ea, _, ew, h7⟩ := h6'.fget (i := x.toNat) (d := dE (n, gs)) (by walk_at "mem") (by rw [List.getElem?_map, hx]; rfl)
        obtain ⟨t, w1, w2, rfl, h8⟩ := h7.ftup2 (by walk_at "mem")
        obtain rfl := h8.fint (v := w1) (i := n) (by walk_at "mem")
        obtain ⟨l, rfl, hl⟩ := h8.rints (v := w2) (ns := gs) (.fz (by walk_at "mem"))
        have ht := h8.tp (t := t) (by walk_at "mem")
        refine ⟨a, vs, x, .ref t, rfl, rfl, SqL.of ea, at_nat (k := x.toNat) (by omega) ew, ?_⟩
        refine ⟨_, rfl, t, _, _, _, rfl, rfl, SqT.of ht, atI_nat (j := 0) rfl, _, rfl, _, _, rfl, rfl, _, rfl, ?_⟩
        have fall : ∀ y5 y6, ∃ y5' y6' c Fz Ow Tp, [some (V.ref u), some (.int deep), some (.int most), some (.int so), some (.int ta), y5, y6, none, none, none, none, none] = [some (V.ref u), some (.int deep), some (.int most), some (.int so), some (.int ta), y5', y6', none, none, none, none, none] ∧ St H (some u) (some (u, c)) Fz Ow Tp H6 ∧ c ≤ b + 3 := fun y5 y6 => ⟨y5, y6, _, _, _, _, rfl, h8, by omega⟩
        refine iteB (fun c1 => ?_) (fun c1 => iteF (fall _ _))
        refine ⟨_, rfl, t, _, _, _, rfl, rfl, SqT.of ht, atI_nat (j := 1) rfl, l, _, rfl, .inl (SqL.of hl), _, rfl, _, _, rfl, rfl, _, rfl, ?_⟩
        rw [ints_len]
        refine iteB (fun c2 => ?_) (fun c2 => fall _ _)
        refine ⟨_, rfl, t, _, _, _, rfl, rfl, SqT.of ht, atI_nat (j := 0) rfl, _, rfl, t, _, _, _, rfl, rfl, SqT.of ht, atI_nat (j := 1) rfl, l, _, rfl, .inl (SqL.of hl), fun o ho => ?_⟩
        exact out (h8.mkInts ho) (by omega) ef (of_decide_eq_true c1) (of_decide_eq_true c2)
      · rw [decide_eq_false e0]
        exact iteF ⟨_, _, _, _, _, _, rfl, h3, by omega⟩
    · intro σ' H' hI
      obtain ⟨y5, y6, c, Fz, Ow, Tp, rfl, h4, hc⟩ := hI
      -- if sort == 1
      refine ⟨_, rfl, rfl, _, rfl, ?_⟩
      rw [dec_eq_int]
      by_cases e1 : so = 1
      · rw [decide_eq_true e1]
        refine iteT ?_
        obtain ⟨tk, etk, a1, a2, a3⟩ : ∃ tk, (if most < ta then most else ta) = tk ∧ 0 ≤ tk ∧ tk ≤ ta ∧ tk ≤ most := ⟨_, rfl, by split <;> omega, by split <;> omega, by split <;> omega⟩
        refine ⟨_, rfl, _, rfl, _, _, rfl, ?_⟩
        rw [etk]
        refine ⟨_, rfl, _, rfl, _, rfl, h4.callP (vs := [.int tk]) (by omega) (.cons (.int _) .nil) ⟨tk, rfl, a1, by omega, fun gs pm v' H5 h5 => ?_⟩⟩
        obtain ⟨l, rfl, _⟩ := h5.rints (v := v') (ns := gs) (.ow (List.Mem.head _))
        obtain ⟨p1, p2⟩ := perm_rg a1 pm
        exact out h5 (by omega) ⟨a1, fun x hx => (p2 x hx).1, fun x hx => (p2 x hx).2⟩ (by omega) (by omega)
      rw [decide_eq_false e1]
      refine iteF ?_
      -- if sort == 2
      refine ⟨_, rfl, rfl, _, rfl, ?_⟩
      rw [dec_eq_int]
      by_cases e2 : so = 2
      · rw [decide_eq_true e2]
        refine iteT ?_
        obtain ⟨tk, etk, a1, a2, a3⟩ : ∃ tk, (if most < ta then most else ta) = tk ∧ 0 ≤ tk ∧ tk ≤ ta ∧ tk ≤ most := ⟨_, rfl, by split <;> omega, by split <;> omega, by split <;> omega⟩
        refine ⟨_, rfl, _, rfl, _, _, rfl, ?_⟩
        rw [etk]
        refine ⟨_, rfl, _, rfl, h4.callP (vs := [.int tk]) (by omega) (.cons (.int _) .nil) ⟨tk, rfl, a1, by omega, fun gs pm v' H5 h5 => ?_⟩⟩
        obtain ⟨l, rfl, hl⟩ := h5.rints (v := v') (ns := gs) (.ow (List.Mem.head _))
        obtain ⟨p1, p2⟩ := perm_rg a1 pm
        -- rank
        refine ⟨_, rfl, _, rfl, l, _, rfl, .inl (SqL.of hl), _, _, rfl, rfl, ?_⟩
        rw [ints_len]
        refine h5.callP (vs := [.int _]) (by omega) (.cons (.int _) .nil) ⟨_, rfl, by omega, by omega, fun ra r0 r1 v' H6 h6 => ?_⟩
        obtain ⟨rfl, h6'⟩ := h6.int
        obtain ⟨rn, rfl⟩ : ∃ rn : Nat, ra = (rn : Int) := ⟨ra.toNat, by omega⟩
        -- one thing left out
        have wayA : ∀ (c' : Int) Fz Ow Tp (H' : Hp), St H (some u) (some (u, c')) Fz ((.ref l, dI gs) :: Ow) Tp H' → c' ≤ b + 5000 → tRet (tTup (tCons (tVar 4) (tCons (tOp rCat (tSl (rSlL K) (tVar 7) tNoPart (tPart (tVar 8))) (tSl (rSlL K) (tVar 7) (tPart (tOp (rI0 fun i j => .int (i + j)) (tVar 8) (tC (.int 1)))) tNoPart)) tNil))) ⟨fun _ H' => Q .non H', Q, fun _ _ => False, fun _ _ => False⟩
            [some (.ref u), some (.int deep), some (.int most), some (.int so), some (.int tk), y5, y6, some (.ref l), some (.int (rn : Int)), none, none, none] H' := fun c' Fz Ow Tp H' h7 hc' => by
          obtain ⟨hl7, _⟩ := h7.putInts
          refine ⟨_, rfl, _, rfl, _, rfl, _, rfl, l, _, rfl, SqL.of hl7, fun o ho => ?_⟩
          rw [cutV_to, ← List.map_take]
          have h8 := h7.mkInts (ns := gs.take rn) ho
          obtain ⟨ho8, _⟩ := h8.putInts
          obtain ⟨hl8, _⟩ := (h8.front (.tl .hd)).putInts
          refine ⟨_, rfl, _, rfl, _, _, rfl, rfl, _, rfl, l, _, rfl, SqL.of hl8, fun e he => ?_⟩
          have er : ((rn : Int) + 1) = ((rn + 1 : Nat) : Int) := by omega
          rw [er, cutV_from, ← List.map_drop]
          have h9 := h8.mkInts (ns := gs.drop (rn + 1)) he
          obtain ⟨he9, _⟩ := h9.putInts
          obtain ⟨ho9, _⟩ := (h9.front (.tl .hd)).putInts
          refine ⟨o, e, _, _, rfl, rfl, ho9, he9, szle (by rw [ints_len, ints_len, List.length_take, List.length_drop]; omega), fun y hy => ?_⟩
          rw [← List.map_append]
          refine out (h9.mkInts hy) (by omega) ⟨a1, fun x hx => ?_, fun x hx => ?_⟩ (by omega) (by rw [List.length_append, List.length_take, List.length_drop]; omega)
          · rcases List.mem_append.mp hx with hx | hx
            · exact (p2 x (List.mem_of_mem_take hx)).1
            · exact (p2 x (List.mem_of_mem_drop hx)).1
          · rcases List.mem_append.mp hx with hx | hx
            · exact (p2 x (List.mem_of_mem_take hx)).2
            · exact (p2 x (List.mem_of_mem_drop hx)).2
        -- the test
        refine ⟨_, rfl, h6'.callP (vs := [.int 2]) (by omega) (.cons (.int _) .nil) ⟨2, rfl, by omega, by omega, fun x x0 x1 v' H7 h7 => ?_⟩⟩
        obtain ⟨rfl, h7'⟩ := h7.int
        refine ⟨rfl, _, rfl, iteB (fun _ => iteT (wayA _ _ _ _ _ h7' (by omega))) (fun _ => ?_)⟩
        obtain ⟨hl7, _⟩ := h7'.putInts
        refine ⟨_, rfl, l, _, rfl, .inl (SqL.of hl7), _, rfl, rfl, _, rfl, ?_⟩
        rw [ints_len, dec_eq_int]
        by_cases cm : (gs.length : Int) = most
        · rw [decide_eq_true cm]
          exact iteT (iteT (wayA _ _ _ _ _ h7' (by omega)))
        · rw [decide_eq_false cm]
          refine iteF ?_
          refine ⟨_, rfl, szle (by simp), fun o ho => ?_⟩
          have h8 := h7'.mkInts (ns := []) ho
          obtain ⟨ho8, _⟩ := h8.putInts
          have h8l := h8.front (.tl .hd)
          obtain ⟨hl8, _⟩ := h8l.putInts
          refine ⟨_, _, dp_ints hl8, dp_ints ho8, shaped_ints _, shaped_ints _, _, rfl, ?_⟩
          rw [eqv_ints]
          by_cases ce : gs = []
          · rw [decide_eq_true ce]
            exact iteT (wayA _ _ _ _ _ h8l (by omega))
          · rw [decide_eq_false ce]
            refine iteF ?_
            have gpos : 0 < gs.length := List.length_pos_iff.mpr ce
            -- one thing put once more
            refine ⟨_, rfl, _, rfl, _, rfl, _, rfl, l, _, rfl, SqL.of hl8, fun f hf => ?_⟩
            rw [cutV_to, ← List.map_take]
            have h9 := h8l.mkInts (ns := gs.take rn) hf
            obtain ⟨hl9, _⟩ := (h9.front (.tl .hd)).putInts
            refine ⟨_, rfl, _, rfl, _, rfl, l, _, rfl, .inl (SqL.of hl9), ?_⟩
            rw [ints_len]
            refine h9.callP (vs := [.int _]) (by omega) (.cons (.int _) .nil) ⟨_, rfl, by omega, by omega, fun j j0 j1 v' HA hA => ?_⟩
            obtain ⟨rfl, hA'⟩ := hA.int
            obtain ⟨hlA, _⟩ := (hA'.front (.tl .hd)).putInts
            obtain ⟨gj, hgj⟩ : ∃ e, gs[j.toNat]? = some e := ⟨_, List.getElem?_eq_getElem (show j.toNat < gs.length by omega)⟩
            refine ⟨l, _, j, _, rfl, rfl, SqL.of hlA, at_nat (k := j.toNat) (by omega) (ints_at hgj), szle (by simp), fun f2 hf2 => ?_⟩
            have hB := hA'.mkInts (ns := [gj]) hf2
            obtain ⟨hf2B, _⟩ := hB.putInts
            obtain ⟨hfB, _⟩ := (hB.front (.tl .hd)).putInts
            refine ⟨f, f2, _, _, rfl, rfl, hfB, hf2B, szle (by rw [ints_len, List.length_take]; simp; omega), fun f3 hf3 => ?_⟩
            have em : (gs.take rn).map V.int ++ [gj].map V.int = (gs.take rn ++ [gj]).map V.int := List.map_append.symm
            rw [em]
            have hC := hB.mkInts (ns := gs.take rn ++ [gj]) hf3
            obtain ⟨hf3C, _⟩ := hC.putInts
            obtain ⟨a', e', hlC⟩ := hC.rints (v := .ref l) (ns := gs) (.ow (by walk_at "mem"))
            cases e'
            refine ⟨_, rfl, _, rfl, _, rfl, l, _, rfl, SqL.of hlC, fun f4 hf4 => ?_⟩
            rw [cutV_from, ← List.map_drop]
            have hD := hC.mkInts (ns := gs.drop rn) hf4
            obtain ⟨hf4D, _⟩ := hD.putInts
            obtain ⟨hf3D, _⟩ := (hD.front (.tl .hd)).putInts
            refine ⟨f3, f4, _, _, rfl, rfl, hf3D, hf4D, szle (by rw [ints_len, ints_len, List.length_append, List.length_take, List.length_drop]; simp; omega), fun f5 hf5 => ?_⟩
            rw [← List.map_append]
            have gm := p2 gj (List.mem_of_getElem? hgj)
            have all : ∀ x ∈ gs.take rn ++ [gj] ++ gs.drop rn, 1 ≤ x ∧ x ≤ tk := fun x hx => by
              rcases List.mem_append.mp hx with hx | hx
              · rcases List.mem_append.mp hx with hx | hx
                · exact p2 x (List.mem_of_mem_take hx)
                · simp at hx
                  rw [hx]
                  exact gm
              · exact p2 x (List.mem_of_mem_drop hx)
            exact out (hD.mkInts hf5) (by omega) ⟨a1, fun x hx => (all x hx).1, fun x hx => (all x hx).2⟩ (by omega) (by rw [List.length_append, List.length_append, List.length_take, List.length_drop]; simp; omega)
      rw [decide_eq_false e2]
      refine iteF ?_
      -- if sort == 3
      refine ⟨_, rfl, rfl, _, rfl, ?_⟩
      rw [dec_eq_int]
      by_cases e3 : so = 3
      · rw [decide_eq_true e3]
        refine iteT ?_
        refine ⟨_, rfl, _, rfl, _, _, rfl, rfl, h4.callP (vs := [.int (ta + 1)]) (by omega) (.cons (.int _) .nil) ⟨_, rfl, by omega, by omega, fun up u0 u1 v' H5 h5 => ?_⟩⟩
        obtain ⟨rfl, h5'⟩ := h5.int
        obtain ⟨tk, etk, a1, a2, a3, a4⟩ : ∃ tk, (if up + most < ta then up + most else ta) = tk ∧ 0 ≤ tk ∧ tk ≤ ta ∧ tk ≤ up + most ∧ up ≤ tk := ⟨_, rfl, by split <;> omega, by split <;> omega, by split <;> omega, by split <;> omega⟩
        refine ⟨_, rfl, _, rfl, _, rfl, _, _, rfl, rfl, _, _, rfl, ?_⟩
        rw [etk]
        -- the end, with a number of drawn places
        have endU : ∀ (sz c' : Int) Fz Ow Tp (H' : Hp), 0 ≤ sz → sz ≤ most - tk + up → (0 < sz → 0 < up) → St H (some u) (some (u, c')) Fz Ow Tp H' → c' ≤ b + 5000 →
            (tSeq (tAsg (tLc (iRng1 (tCons (tVar 10) tNil)) (gName 11) tYes (tOp (rI0 fun i j => .int (i + j)) (tC (.int 1)) (tCall (spP 1 w__law_coin) [] E0 (tCons (tVar 0) (tCons (tVar 9) tNil)))) [11]) (gName 7))
              (tRet (tTup (tCons (tVar 4) (tCons (tOp rCat (tVar 7) (tLstRg (tRg2 (tOp (rI0 fun i j => .int (i + j)) (tVar 9) (tC (.int 1))) (tOp (rI0 fun i j => .int (i + j)) (tVar 4) (tC (.int 1)))))) tNil))))) ⟨fun _ H' => Q .non H', Q, fun _ _ => False, fun _ _ => False⟩
              [some (.ref u), some (.int deep), some (.int most), some (.int so), some (.int tk), y5, y6, none, none, some (.int up), some (.int sz), none] H' := fun sz c' Fz Ow Tp H' z0 z1 z2 h7 hc' => by
          refine w_asg (coins_lc h7 (i := 10) (j := 11) (k := 9) (n := sz) (m := up) rfl rfl rfl (by decide) (by decide) z0 (by omega) z2 (by omega) (by omega) fun gs l H8 el hg h8 => ?_)
          obtain ⟨hl8, _⟩ := h8.putInts
          refine ⟨_, rfl, _, rfl, _, rfl, _, _, rfl, rfl, _, rfl, _, _, rfl, rfl, _, _, rfl, rfl, RgOk.of_le (by omega) (by omega) (by omega) (by omega), fun o ho => ?_⟩
          rw [rgV_map]
          have h9 := h8.mkInts (ns := rg (up + 1) (tk + 1)) ho
          obtain ⟨ho9, _⟩ := h9.putInts
          obtain ⟨hl9, _⟩ := (h9.front (.tl .hd)).putInts
          have lr := rg_length (up + 1) (tk + 1)
          refine ⟨l, o, _, _, rfl, rfl, hl9, ho9, szle (by rw [ints_len, ints_len]; omega), fun y hy => ?_⟩
          rw [← List.map_append]
          have all : ∀ x ∈ gs ++ rg (up + 1) (tk + 1), 1 ≤ x ∧ x ≤ tk := fun x hx => by
            rcases List.mem_append.mp hx with hx | hx
            · have := hg x hx
              omega
            · have := mem_rg.mp hx
              omega
          exact out (h9.mkInts hy) (by omega) ⟨a1, fun x hx => (all x hx).1, fun x hx => (all x hx).2⟩ (by omega) (by rw [List.length_append]; omega)
        -- size = coin(..) if upper > 0 else 0
        refine ⟨_, rfl, _, _, rfl, rfl, _, rfl, ?_⟩
        refine iteB (fun c1 => ?_) (fun c1 => ?_)
        · have up0 : 0 < up := of_decide_eq_true c1
          refine ⟨_, rfl, _, rfl, _, rfl, _, _, rfl, rfl, _, rfl, _, _, rfl, rfl, _, _, rfl, rfl, h5'.callP (vs := [.int _]) (by omega) (.cons (.int _) .nil) ⟨_, rfl, by omega, by omega, fun sz z0 z1 v' H6 h6 => ?_⟩⟩
          obtain ⟨rfl, h6'⟩ := h6.int
          exact endU sz _ _ _ _ _ z0 (by omega) (fun _ => up0) h6' (by omega)
        · have up0 : ¬ 0 < up := of_decide_eq_false c1
          exact endU 0 _ _ _ _ _ (by omega) (by omega) (fun z => by omega) h5' (by omega)
      rw [decide_eq_false e3]
      refine iteF ?_
      -- the rest: any places
      have endS : ∀ (sz c' : Int) Fz Ow Tp (H' : Hp), 0 ≤ sz → sz ≤ most → (0 < sz → 0 < ta) → St H (some u) (some (u, c')) Fz Ow Tp H' → c' ≤ b + 5000 →
          tRet (tTup (tCons (tVar 4) (tCons (tLc (iRng1 (tCons (tVar 10) tNil)) (gName 11) tYes (tOp (rI0 fun i j => .int (i + j)) (tC (.int 1)) (tCall (spP 1 w__law_coin) [] E0 (tCons (tVar 0) (tCons (tVar 4) tNil)))) [11]) tNil))) ⟨fun _ H' => Q .non H', Q, fun _ _ => False, fun _ _ => False⟩
            [some (.ref u), some (.int deep), some (.int most), some (.int so), some (.int ta), y5, y6, none, none, none, some (.int sz), none] H' := fun sz c' Fz Ow Tp H' z0 z1 z2 h7 hc' => by
        refine w_ret ⟨_, rfl, coins_lc h7 (i := 10) (j := 11) (k := 4) (n := sz) (m := ta) rfl rfl rfl (by decide) (by decide) z0 (by omega) z2 (by omega) (by omega) fun gs l H8 el hg h8 => ?_⟩
        exact out h8 (by omega) ⟨by omega, fun x hx => (hg x hx).1, fun x hx => (hg x hx).2⟩ (by omega) (by omega)
      have mid : ∀ (sz c' : Int) Fz Ow Tp (H' : Hp), 0 ≤ sz → sz ≤ most → (0 < sz → 0 < ta) → St H (some u) (some (u, c')) Fz Ow Tp H' → c' ≤ b + 5000 →
          C8.tCut (tIfS (tTest (tOp rEq (tVar 3) (tC (.int 4)))) (tAsg (tCB (fun xs H Q => ∃ i j, xs = [.int i, .int j] ∧ Q (.int (if j < i then j else i)) H) (tCons (tVar 10) (tCons (tC (.int 4)) tNil))) (gName 10)) tNext)
            (tRet (tTup (tCons (tVar 4) (tCons (tLc (iRng1 (tCons (tVar 10) tNil)) (gName 11) tYes (tOp (rI0 fun i j => .int (i + j)) (tC (.int 1)) (tCall (spP 1 w__law_coin) [] E0 (tCons (tVar 0) (tCons (tVar 4) tNil)))) [11]) tNil)))) ⟨fun _ H' => Q .non H', Q, fun _ _ => False, fun _ _ => False⟩
            [some (.ref u), some (.int deep), some (.int most), some (.int so), some (.int ta), y5, y6, none, none, none, some (.int sz), none] H' := fun sz c' Fz Ow Tp H' z0 z1 z2 h7 hc' => by
        refine ⟨fun σ' H'' => H'' = H' ∧ ∃ sz', σ' = [some (.ref u), some (.int deep), some (.int most), some (.int so), some (.int ta), y5, y6, none, none, none, some (.int sz'), none] ∧ 0 ≤ sz' ∧ sz' ≤ most ∧ (0 < sz' → 0 < ta), ?_, fun σ' H'' hI => ?_⟩
        · refine ⟨_, rfl, rfl, _, rfl, ?_⟩
          refine iteB (fun _ => ?_) (fun _ => ⟨rfl, sz, rfl, z0, z1, z2⟩)
          refine ⟨_, rfl, _, _, rfl, rfl, _, rfl, ?_, ?_, ?_⟩
          · split <;> omega
          · split <;> omega
          · intro z
            refine z2 ?_
            revert z
            split <;> omega
        · obtain ⟨rfl, sz', rfl, y0, y1, y2⟩ := hI
          exact endS sz' _ _ _ _ _ y0 y1 y2 h7 hc'
      refine ⟨_, rfl, _, _, rfl, rfl, _, rfl, ?_⟩
      refine iteB (fun c1 => ?_) (fun c1 => ?_)
      · have ta0 : 0 < ta := of_decide_eq_true c1
        refine ⟨_, rfl, _, rfl, _, _, rfl, rfl, h4.callP (vs := [.int (most + 1)]) (by omega) (.cons (.int _) .nil) ⟨_, rfl, by omega, by omega, fun sz z0 z1 v' H6 h6 => ?_⟩⟩
        obtain ⟨rfl, h6'⟩ := h6.int
        exact mid sz _ _ _ _ _ z0 (by omega) (fun _ => ta0) h6' (by omega)
      · exact mid 0 _ _ _ _ _ (by omega) (by omega) (fun z => by omega) h4 (by omega)
def w__law_ps_do : Tw := fun ds Q => ∃ n gs hp, ds = [.tuple [.int n, dI gs], dI hp] ∧ 0 ≤ n ∧ (∀ x ∈ gs, 1 ≤ x ∧ x ≤ (hp.length : Nat)) ∧ gs.length ≤ 100000 ∧ hp.length ≤ 100000 ∧ Q (dI (doE (n, gs) hp))
theorem ok__law_ps_do (p : Prog K mg) : FnG P w K mg base CX0 3 p.f__law_ps_do p.fd__law_ps_do ["_law_fx", "_law_heap"] (spT w__law_ps_do) := by
  refine okG p.d__law_ps_do.F sc__law_ps_do (fun vs H Q E h => ?_) (fun cdv A outer s H vs Q E hg hr h => ?_)
  · obtain ⟨S, ds, Gq, r, ⟨n, gs, hp, rfl, _⟩, _⟩ := h
    exact r.length
  · obtain ⟨S, ds, Gq, r, ⟨n, gs, hp, rfl, n0, hx, l1, l2, q⟩, k⟩ := h
    obtain ⟨v1, v2, rfl, hS⟩ := enter2 r
    obtain ⟨t, w1, w2, rfl, h1⟩ := hS.ftup2 (v := v1) (by walk_at "mem")
    obtain rfl := h1.fint (v := w1) (by walk_at "mem")
    obtain ⟨a, rfl, ha⟩ := h1.rints (v := w2) (ns := gs) (.fz (by walk_at "mem"))
    obtain ⟨b, rfl, hb⟩ := h1.rints (v := v2) (ns := hp) (.fz (by walk_at "mem"))
    have ht := h1.tp (t := t) (by walk_at "mem")
    refine ⟨_, (pss_one (ps_ret (pe_op op_cat (pe_lc (own := [("_law_rank", 2)]) (g := gName 2) (tt := tYes) rfl sc__law_ps_do.nd (pi_list (pe_ix ix_tup (pv 0) pe_int (fun _ _ => rfl))) (blkOk_by (N := N__law_ps_do) (sc := defScope s__law_ps_do) (by decide +kernel)) (fun _ _ _ _ _ => pg_name (i := 2) sc__law_ps_do.nd rfl (Or.inl rfl)) (fun _ _ _ _ _ => pts_nil) (fun _ _ _ _ _ => (pe_ix (show IxR _ (rIxL K) from ix_list) (pv 1) (pe_op op_sub (pv 2) pe_int) (fun _ _ => rfl)))) (pe_slice sl_list (pv 1) (po_some (pe_ix ix_tup (pv 0) pe_int (fun _ _ => rfl))) po_none)))), ?_⟩
    refine ⟨_, rfl, t, _, _, _, rfl, rfl, SqT.of ht, atI_nat (j := 1) rfl, a, rfl, ⟨_, SqL.of ha⟩, fun Dl hD => ?_⟩
    refine lc_map (fun x => hp.getD (x - 1).toNat 0) h1 hD (fun _ => .fz (by walk_at "mem")) (by omega) (fun x hxm gs' H1 h2 R hR => ?_) (fun H1 h2 => ?_)
    · obtain ⟨b', e, hb1⟩ := h2.rints (v := .ref b) (ns := hp) (.fz (by walk_at "mem"))
      cases e
      have b1 := hx x hxm
      have e : hp[(x - 1).toNat]? = some hp[(x - 1).toNat] := List.getElem?_eq_getElem (by omega)
      refine ⟨_, rfl, _, rfl, _, _, rfl, rfl, b, _, x - 1, _, rfl, rfl, SqL.of hb1, at_nat (k := (x - 1).toNat) (by omega) (ints_at e), ?_⟩
      rw [List.getD_eq_getElem?_getD, e] at hR
      exact hR
    · obtain ⟨b', e, hb1⟩ := h2.rints (v := .ref b) (ns := hp) (.fz (by walk_at "mem"))
      cases e
      have ht2 := h2.tp (t := t) (vs := [.int n, .ref a]) (by walk_at "mem")
      refine ⟨_, rfl, _, rfl, t, _, _, _, rfl, rfl, SqT.of ht2, atI_nat (j := 0) rfl, _, rfl, b, _, rfl, SqL.of hb1, fun c hc => ?_⟩
      obtain ⟨m, rfl⟩ : ∃ m : Nat, n = (m : Int) := ⟨n.toNat, by omega⟩
      rw [cutV_from, ← List.map_drop]
      have h3 := h2.mkInts (ns := hp.drop m) hc
      obtain ⟨hc1, _⟩ := h3.putInts
      obtain ⟨hD1, _⟩ := h2.putInts
      refine ⟨Dl, c, _, _, rfl, rfl, same_upd hc _ _ hD1, hc1, szle (by rw [ints_len, ints_len]; simp; omega), fun o ho => ?_⟩
      rw [← List.map_append]
      have h4 := h3.mkInts (ns := gs.map (fun x => hp.getD (x - 1).toNat 0) ++ hp.drop m) ho
      obtain ⟨sm, nw⟩ := h4.leave
      exact k _ _ _ q sm nw
def bothE (e f : Int × List Int) : Int × List Int := leastE (cE e f f.1).1 (cE e f f.1).2
theorem doE_pre {n d : Int} {gs : List Int} (ef : Eff (n, gs)) (h0 : 0 ≤ d) : doE (n, gs) (rg 1 (n + d + 1)) = upE (n, gs) d := by
  have n0 : 0 ≤ n := ef.nn
  unfold doE upE
  have e1 : (rg 1 (n + d + 1)).drop n.toNat = rg (n + 1) (n + d + 1) := by
    have l := rg_length 1 (n + 1)
    rw [← rg_app (a := 1) (b := n + 1) (c := n + d + 1) (by omega) (by omega), List.drop_append_of_le_length (by omega), List.drop_of_length_le (by omega), List.nil_append]
  dsimp only
  rw [e1]
  congr 1
  conv => rhs; rw [← List.map_id gs]
  refine List.map_congr_left fun x hx => ?_
  have h1 : 1 ≤ x := ef.ge x hx
  have h2 : x ≤ n := ef.le x hx
  rw [rg_getD (by omega)]
  show _ = x
  omega
theorem both_join {e f : Int × List Int} (he : Eff e) (hf : Eff f) : bothE e f = joinE (leastE e.1 e.2) (leastE f.1 f.2) := by
  have h0 := hf.nn
  have le := (leastE_ok he).eff
  have lf := (leastE_ok hf).eff
  have ok : f.1 ≤ e.2.length + f.1 := by omega
  refine canon (leastE_ok (cE_eff he hf h0 ok)).eff (join_eff le lf) (leastE_idem _ _) join_lst fun r hr => ?_
  rw [from_join lf hr, from_least (n := f.1) (gs := f.2) hr, from_least (from_ge hf hr)]
  have e1 : fromE (bothE e f) r = fromE (cE e f f.1) r := from_least (n := (cE e f f.1).1) (gs := (cE e f f.1).2) hr
  rw [e1]
  exact from_c hf h0 ok hr
def w__law_ps_both : Tw := fun ds Q => ∃ n gs d ls, ds = [.tuple [.int n, dI gs], .tuple [.int d, dI ls]] ∧ Eff (n, gs) ∧ Eff (d, ls) ∧ n ≤ 1000 ∧ d ≤ 1000 ∧ gs.length ≤ 1000 ∧ ls.length ≤ 1000 ∧ Q (dE (joinE (leastE n gs) (leastE d ls)))
theorem ok__law_ps_both (p : Prog K mg) : FnG P w K mg base CX0 4 p.f__law_ps_both p.fd__law_ps_both ["_law_fx", "_law_gx"] (spT w__law_ps_both) := by
  refine okG p.d__law_ps_both.F sc__law_ps_both (fun vs H Q E h => ?_) (fun cdv A outer s H vs Q E hg hr h => ?_)
  · obtain ⟨S, ds, Gq, r, ⟨n, gs, d, ls, rfl, _⟩, _⟩ := h
    exact r.length
  · obtain ⟨S, ds, Gq, r, ⟨n, gs, d, ls, rfl, ef, eg, n1, d1, l1, l2, q⟩, k⟩ := h
    obtain ⟨v1, v2, rfl, hS⟩ := enter2 r
    have n0 : 0 ≤ n := ef.nn
    have d0 : 0 ≤ d := eg.nn
    obtain ⟨t, w1, w2, rfl, h1⟩ := hS.ftup2 (v := v1) (by walk_at "mem")
    obtain rfl := h1.fint (v := w1) (by walk_at "mem")
    obtain ⟨t2, w3, w4, rfl, h2⟩ := h1.ftup2 (v := v2) (by walk_at "mem")
    obtain rfl := h2.fint (v := w3) (by walk_at "mem")
    have ht := h2.tp (t := t) (by walk_at "mem")
    have ht2 := h2.tp (t := t2) (by walk_at "mem")
    refine ⟨_, (pss_cons (ps_set (i := 2) sc__law_ps_both.nd rfl (Or.inl rfl) (pe_op op_add (pe_ix ix_tup (pv 0) pe_int (fun _ _ => rfl)) (pe_ix ix_tup (pv 1) pe_int (fun _ _ => rfl))))
      (pss_one (ps_ret (pe_callG ((ok__law_ps_least p).mono (by decide)) hg hr (by rfl) p.d__law_ps_least.gl p.d__law_ps_least.kp p.d__law_ps_least.bd pass0 (pa_cons (pv 2) (pa_cons (pe_callG ((ok__law_ps_do p).mono (by decide)) hg hr (by rfl) p.d__law_ps_do.gl p.d__law_ps_do.kp p.d__law_ps_do.bd pass0 (pa_cons (pv 1) (pa_cons (pe_callG ((ok__law_ps_do p).mono (by decide)) hg hr (by rfl) p.d__law_ps_do.gl p.d__law_ps_do.kp p.d__law_ps_do.bd pass0 (pa_cons (pv 0) (pa_cons (pe_listRg rfl (by rfl) p.blt.list (prg_2 (by rfl) p.blt.range pe_int (pe_op op_add (pv 2) pe_int))) pa_nil))) pa_nil))) pa_nil)))))), ?_⟩
    -- deep = fx[0] + gx[0]
    refine ⟨_, rfl, t, _, _, _, rfl, rfl, SqT.of ht, atI_nat (j := 0) rfl, _, rfl, t2, _, _, _, rfl, rfl, SqT.of ht2, atI_nat (j := 0) rfl, _, _, rfl, rfl, ?_⟩
    -- return least(deep, do(gx, do(fx, list(range(1, deep + 1)))))
    refine ⟨_, rfl, _, rfl, _, rfl, _, rfl, _, _, rfl, rfl, _, _, rfl, rfl, RgOk.of_le (by omega) (by omega) (by omega) (by omega), fun l hl => ?_⟩
    rw [rgV_map]
    have h3 := h2.mkInts (ns := rg 1 (n + d + 1)) hl
    have lr := rg_length 1 (n + d + 1)
    refine h3.call (vs := [.ref t, .ref l]) (.cons (.tp2 (by walk_at "mem") (.int _) (.fz (by walk_at "mem"))) (.cons (.ow (by walk_at "mem")) .nil)) ⟨n, gs, _, rfl, n0, fun x hx => ?_, by omega, by omega, fun v H4 h4 => ?_⟩
    · have a1 : 1 ≤ x := ef.ge x hx
      have a2 : x ≤ n := ef.le x hx
      omega
    rw [doE_pre ef d0] at h4
    have ul : (((upE (n, gs) d).length : Nat) : Int) = gs.length + d := up_len (e := (n, gs)) d0
    refine h4.call (vs := [.ref t2, v]) (.cons (.tp2 (by walk_at "mem") (.int _) (.fz (by walk_at "mem"))) (.cons (.ow (by walk_at "mem")) .nil)) ⟨d, ls, _, rfl, d0, fun x hx => ?_, by omega, by omega, fun v H5 h5 => ?_⟩
    · have a1 : 1 ≤ x := eg.ge x hx
      have a2 : x ≤ d := eg.le x hx
      omega
    have ce := cE_eff (e := (n, gs)) (f := (d, ls)) (m := d) ef eg d0 (by show d ≤ (gs.length : Nat) + d; omega)
    have cl := cE_len (e := (n, gs)) (f := (d, ls)) (m := d) eg d0 (by show d ≤ (gs.length : Nat) + d; omega)
    have cl2 : (((doE (d, ls) (upE (n, gs) d)).length : Nat) : Int) = ls.length + (gs.length + d - d) := cl
    refine h5.call (vs := [.int (n + d), v]) (.cons (.int _) (.cons (.ow (by walk_at "mem")) .nil)) ⟨n + d, doE (d, ls) (upE (n, gs) d), rfl, ce.le, by omega, fun v H6 h6 => ?_⟩
    have eb : leastE (n + d) (doE (d, ls) (upE (n, gs) d)) = joinE (leastE n gs) (leastE d ls) := both_join (e := (n, gs)) (f := (d, ls)) ef eg
    rw [eb] at h6
    obtain ⟨sm, nw⟩ := h6.leave
    exact k _ _ _ q sm nw
def w__law_ps_beneath : Tw := fun ds Q => ∃ n gs c, ds = [.tuple [.int n, dI gs], .int c] ∧ Eff (n, gs) ∧ 0 ≤ c ∧ c ≤ 1000 ∧ n ≤ 1000 ∧ gs.length ≤ 1000 ∧ Q (dE (underE (leastE n gs) c))
theorem ok__law_ps_beneath (p : Prog K mg) : FnG P w K mg base CX0 4 p.f__law_ps_beneath p.fd__law_ps_beneath ["_law_fx", "_law_count_here"] (spT w__law_ps_beneath) := by
  refine okG p.d__law_ps_beneath.F sc__law_ps_beneath (fun vs H Q E h => ?_) (fun cdv A outer s H vs Q E hg hr h => ?_)
  · obtain ⟨S, ds, Gq, r, ⟨n, gs, c, rfl, _⟩, _⟩ := h
    exact r.length
  · obtain ⟨S, ds, Gq, r, ⟨n, gs, c, rfl, ef, c0, c1, n1, l1, q⟩, k⟩ := h
    obtain ⟨v1, v2, rfl, hS⟩ := enter2 r
    obtain rfl := hS.fint (v := v2) (by walk_at "mem")
    obtain ⟨t, w1, w2, rfl, h1⟩ := hS.ftup2 (v := v1) (by walk_at "mem")
    obtain rfl := h1.fint (v := w1) (by walk_at "mem")
    have n0 : 0 ≤ n := ef.nn
    refine ⟨_, (pss_cons (ps_set (i := 2) sc__law_ps_beneath.nd rfl (Or.inl rfl) (pe_op op_add (pe_ix ix_tup (pv 0) pe_int (fun _ _ => rfl)) (pv 1)))
      (pss_cons (ps_set (i := 3) sc__law_ps_beneath.nd rfl (Or.inl rfl) (pe_op op_cat (pe_listRg rfl (by rfl) p.blt.list (prg_2 (by rfl) p.blt.range pe_int (pe_op op_add (pv 1) pe_int))) (pe_callG ((ok__law_ps_do p).mono (by decide)) hg hr (by rfl) p.d__law_ps_do.gl p.d__law_ps_do.kp p.d__law_ps_do.bd pass0 (pa_cons (pv 0) (pa_cons (pe_listRg rfl (by rfl) p.blt.list (prg_2 (by rfl) p.blt.range (pe_op op_add (pv 1) pe_int) (pe_op op_add (pv 2) pe_int))) pa_nil)))))
      (pss_one (ps_ret (pe_callG ((ok__law_ps_least p).mono (by decide)) hg hr (by rfl) p.d__law_ps_least.gl p.d__law_ps_least.kp p.d__law_ps_least.bd pass0 (pa_cons (pv 2) (pa_cons (pv 3) pa_nil))))))), ?_⟩
    have ht := h1.tp (t := t) (by walk_at "mem")
    -- deep = fx[0] + count
    refine ⟨_, rfl, t, _, _, _, rfl, rfl, SqT.of ht, atI_nat (j := 0) rfl, _, rfl, _, _, rfl, rfl, ?_⟩
    -- heap = list(range(1, count + 1)) + do(fx, list(range(count + 1, deep + 1)))
    refine ⟨_, rfl, _, _, rfl, rfl, _, _, rfl, rfl, RgOk.of_le (by omega) (by omega) (by omega) (by omega), fun l hl => ?_⟩
    rw [rgV_map]
    have h2 := h1.mkInts (ns := rg 1 (c + 1)) hl
    refine ⟨_, rfl, _, rfl, _, _, rfl, rfl, _, rfl, _, _, rfl, rfl, _, _, rfl, rfl, RgOk.of_le (by omega) (by omega) (by omega) (by omega), fun l2 hl2 => ?_⟩
    rw [rgV_map]
    have h3 := h2.mkInts (ns := rg (c + 1) (n + c + 1)) hl2
    have lr := rg_length (c + 1) (n + c + 1)
    have lr1 := rg_length 1 (c + 1)
    refine h3.call (vs := [.ref t, .ref l2]) (.cons (.tp2 (by walk_at "mem") (.int _) (.fz (by walk_at "mem"))) (.cons (.ow (by walk_at "mem")) .nil)) ⟨n, gs, _, rfl, n0, fun x hx => ?_, by omega, by omega, fun v H4 h4 => ?_⟩
    · have a1 : 1 ≤ x := ef.ge x hx
      have a2 : x ≤ n := ef.le x hx
      omega
    rw [doE_rg ef] at h4
    obtain ⟨o, rfl, ho⟩ := h4.rints (v := v) (.ow (List.Mem.head _))
    obtain ⟨l', e, hl4⟩ := h4.rints (v := .ref l) (ns := rg 1 (c + 1)) (.ow (by walk_at "mem"))
    cases e
    refine ⟨l, o, _, _, rfl, rfl, hl4, ho, szle (by rw [ints_len, ints_len, List.length_map]; omega), fun z hz => ?_⟩
    rw [← List.map_append]
    have h5 := h4.mkInts (ns := rg 1 (c + 1) ++ gs.map (fun x => x + c)) hz
    -- return least(deep, heap)
    refine ⟨_, rfl, _, rfl, h5.call (vs := [.int (n + c), .ref z]) (.cons (.int _) (.cons (.ow (by walk_at "mem")) .nil)) ⟨n + c, _, rfl, fun x hx => ?_, by rw [List.length_append, List.length_map]; omega, fun v H6 h6 => ?_⟩⟩
    · rcases List.mem_append.mp hx with hx | hx
      · have := mem_rg.mp hx
        omega
      · obtain ⟨y, hy, rfl⟩ := List.mem_map.mp hx
        have a2 : y ≤ n := ef.le y hy
        omega
    rw [least_under ef c0] at h6
    obtain ⟨sm, nw⟩ := h6.leave
    exact k _ _ _ q sm nw
def w__law_ps_same : Tw := fun ds Q => ∃ d e : D, ds = [d, e] ∧ d = e ∧ Sh 60 10000000 d ∧ Q (.bool true)
theorem ok__law_ps_same (p : Prog K mg) : FnG P w K mg base CX0 3 p.f__law_ps_same p.fd__law_ps_same ["_law_told", "_law_due"] (spT w__law_ps_same) := by
  refine okG p.d__law_ps_same.F sc__law_ps_same (fun vs H Q E h => ?_) (fun cdv A outer s H vs Q E hg hr h => ?_)
  · obtain ⟨S, ds, G, r, ⟨d, e, rfl, _⟩, _⟩ := h
    exact r.length
  · obtain ⟨S, ds, G, r, ⟨d, e, rfl, rfl, sh, q⟩, k⟩ := h
    cases r with
    | cons r1 r =>
      cases r with
      | cons r2 r =>
        cases r
        refine ⟨_, (pss_one (ps_ret (pe_cmpR op_eq (pe_callB (cr_repr hg hr.units) (by rfl) p.blt.repr (by decide +kernel) (pa_cons (pv 0) pa_nil)) (pe_callB (cr_repr hg hr.units) (by rfl) p.blt.repr (by decide +kernel) (pa_cons (pv 1) pa_nil)) (nomark _)))), ?_⟩
        have nd : d.hasDict = false := nd_wd d (by have := sh.wd; omega)
        have D1 := Rep.dp K _ _ _ r1 nd
        have D2 := Rep.dp K _ _ _ r2 nd
        have sz : d.shown.length ≤ sizeLine := Nat.le_trans (shown_wd d nd) (szle sh.wd)
        refine ⟨_, rfl, _, d, rfl, D1, sh.sh, sh.dp, sz, _, rfl, _, d, rfl, D2, sh.sh, sh.dp, sz, rfl, ?_⟩
        rw [decide_eq_true rfl]
        exact k _ _ _ q (Same.refl _) ⟨[], .bl true, by simp, by simp⟩
theorem ok__law_ps_spoil (p : Prog K mg) : ∀ n : Nat, FnG P w K mg base CX0 n p.f__law_ps_spoil p.fd__law_ps_spoil ["_law_thing", "_law_tally"] (spSpoil n) := by
  intro n
  induction n with
  | zero =>
    refine ⟨fun vs H Q E h => ?_, fun A outer s H args us vs Q E hg hr e0 bt r h => ?_⟩
    · obtain ⟨v, l, d, k, S, _, _, _, _, _, h, _⟩ := h
      exact absurd h (Nat.not_lt_zero _)
    · obtain ⟨v, l, d, k, S, _, _, _, _, _, h, _⟩ := h
      exact absurd h (Nat.not_lt_zero _)
  | succ n ih =>
    refine okG p.d__law_ps_spoil.F sc__law_ps_spoil (fun vs H Q E h => ?_) (fun cdv A outer s H vs Q E hg hr h => ?_)
    · obtain ⟨v, l, d, k, S, rfl, _⟩ := h
      rfl
    · obtain ⟨v, l, d, k, S, rfl, rep, nd, nl, hl, dp, sz, q⟩ := h
      refine ⟨_, (C8.pss_cut (ps_if (pt_val (pe_callB call_isiT (by rfl) p.blt.isinstance (by decide +kernel) (pa_cons (pv 0) (pa_cons (pe_tup (pa_cons (pe_bltn (v := .ty "list") (by rfl) p.blt.list (by decide +kernel) rfl) (pa_cons (pe_bltn (v := .ty "tuple") (by rfl) p.blt.tuple (by decide +kernel) rfl) pa_nil))) pa_nil))))
      (pss_one (ps_for PassesOwn.never rfl (pi_or (pi_list (pv 0)) (pi_tup (pv 0))) (pg_name (i := 2) sc__law_ps_spoil.nd rfl (Or.inl rfl))
      (pss_one (ps_expr (pe_callG ih hg hr (by rfl) p.d__law_ps_spoil.gl p.d__law_ps_spoil.kp p.d__law_ps_spoil.bd pass0 (pa_cons (pv 2) (pa_cons (pv 1) pa_nil))))))) pss_nil)
      (pss_one (ps_if (pt_val (pe_callB call_isi (by rfl) p.blt.isinstance (by decide +kernel) (pa_cons (pv 0) (pa_cons (pe_bltn (v := .ty "list") (by rfl) p.blt.list (by decide +kernel) rfl) pa_nil))))
      (pss_cons (ps_asg (pe_op op_add (pe_ix ix_list (pv 1) pe_int (fun _ _ => rfl)) pe_int) (pg_sub (pv 1) pe_int set_list))
      (pss_one (ps_expr (pe_bm PySem.F.plainAttrs_list PySem.F.slot_list_append PySem.F.type_list_append mt_append (pv 0) (pa_cons (pe_un un_neg (pe_ix ix_list (pv 1) pe_int (fun _ _ => rfl))) pa_nil))))) pss_nil))), ?_⟩
      cases d with
      | list ds =>
        cases rep with
        | @lst a vs S' _ ha rs =>
          have len := rs.length
          simp only [PyData.depth] at dp
          simp only [G.wd] at sz
          have ala : a ≠ l := fun z => nl (z ▸ List.mem_cons_self)
          have nds : S'.Nodup := (List.nodup_cons.mp nd).2
          have nls : l ∉ S' := fun z => nl (List.mem_cons_of_mem _ z)
          have nas : a ∉ S' := (List.nodup_cons.mp nd).1
          have rep : Rep H (a :: S') (.ref a) (.list ds) := .lst ha rs
          refine ⟨fun σ H1 => ∃ y, σ = [some (.ref a), some (.ref l), y] ∧ Reps H1 S' vs (spDs ds k).1 ∧ H1 l = some (.lst [.int (spDs ds k).2]) ∧ ∀ b o, H b = some o → b ∉ S' → b ≠ l → H1 b = some o, ?_, fun σ H1 hI => ?_⟩
          · refine ⟨_, rfl, szle (by simp), fun t ht => ⟨_, t, _, _, [.type "list", .type "tuple"], _, rfl, upd_same, .cons (.ty _) (.cons (.ty _) .nil), tyx (rep.same (same_upd ht)) rfl, kit_seq rep, ?_⟩⟩
            refine ⟨_, rfl, iteT ?_⟩
            refine .inl ⟨_, rfl, a, rfl, ⟨_, SqL.of (same_upd ht _ _ ha)⟩, ?_⟩
            refine for_list (xs := vs) (fun i σ H1 => i ≤ ds.length ∧ (∃ y, σ = [some (.ref a), some (.ref l), y]) ∧ SpI H l k S' vs ds i H1) ⟨Nat.zero_le _, ⟨_, rfl⟩, SpI.zero (Reps.mono (fun t' xs e => same_upd ht _ _ e) _ _ _ rs fun b m o e => same_upd ht _ _ e) (same_upd ht _ _ hl) fun b o e _ _ => same_upd ht _ _ e⟩ (fun i σ H1 _ hI => ?_) (fun i x σ H1 hx hI => ?_) (fun σ H1 hI => ?_)
            · obtain ⟨_, _, _, _, _, _, _, _, fr⟩ := hI
              exact SqL.of (fr _ _ ha nas ala)
            · obtain ⟨hi, ⟨y, rfl⟩, hJ⟩ := hI
              have hil : i < vs.length := (List.getElem?_eq_some_iff.mp hx).1
              obtain ⟨di, hdi⟩ : ∃ e, ds[i]? = some e := ⟨_, List.getElem?_eq_getElem (show i < ds.length by omega)⟩
              have mi := List.mem_of_getElem? hdi
              have z1 := depth_mem mi
              have z2 := wd_mem mi
              obtain ⟨Sx, rx, ndx, nlx, hlx, kx⟩ := hJ.step nds nls hx hdi
              refine ⟨_, rfl, _, rfl, x, l, di, _, Sx, rfl, rx, ndx, nlx, hlx, by omega, by omega, fun H2 fr2 r2 hl2 => ?_⟩
              exact ⟨by omega, ⟨_, rfl⟩, kx H2 fr2 r2 hl2⟩
            · obtain ⟨_, ⟨y, rfl⟩, hJ⟩ := hI
              obtain ⟨a1, a2, a3⟩ := hJ.fin len
              exact ⟨_, rfl, a1, a2, a3⟩
          · obtain ⟨y, rfl, r1, hl1, fr⟩ := hI
            have ha1 := fr _ _ ha nas ala
            have rep1 : Rep H1 (a :: S') (.ref a) (.list (spDs ds k).1) := .lst ha1 r1
            refine ⟨_, rfl, .ref a, _, _, _, _, rfl, .ty _, tyx rep1 rfl, kit_list rep1, ?_⟩
            refine ⟨_, rfl, iteT ?_⟩
            refine ⟨_, rfl, _, _, _, _, rfl, rfl, SqL.of hl1, atI_nat (j := 0) rfl, _, _, rfl, rfl, _, rfl, _, _, _, 0, rfl, rfl, hl1, rfl, ?_⟩
            have ha2 : upd H1 l (.lst [.int ((spDs ds k).2 + 1)]) a = some (.lst vs) := by rw [upd_ne ala]; exact ha1
            have lv := wds_len ds
            refine ⟨_, rfl, tyL ha2, _, rfl, _, _, _, _, rfl, rfl, SqL.of upd_same, atI_nat (j := 0) rfl, _, rfl, a, _, _, rfl, rfl, ha2, szlt (by omega), ?_⟩
            have nt : ∀ t xs, H1 t = some (.tup xs) → upd (upd H1 l (.lst [.int ((spDs ds k).2 + 1)])) a (.lst (vs ++ [.int (-((spDs ds k).2 + 1))])) t = some (.tup xs) := fun t xs e => by
              have e1 : t ≠ a := fun z => by rw [z, ha1] at e; cases e
              have e2 : t ≠ l := fun z => by rw [z, hl1] at e; cases e
              rw [upd_ne e1, upd_ne e2]
              exact e
            refine q _ (fun b o e m1 m2 => ?_) ?_ ?_
            · have e1 : b ≠ a := fun z => m1 (z ▸ List.mem_cons_self)
              rw [upd_ne e1, upd_ne m2]
              exact fr b o e (fun z => m1 (List.mem_cons_of_mem _ z)) m2
            · simp only [spD]
              refine .lst upd_same ?_
              have q := Reps.append (Reps.mono nt _ _ _ r1 fun b m o e => by
                have e1 : b ≠ a := fun z => nas (z ▸ m)
                have e2 : b ≠ l := fun z => nls (z ▸ m)
                rw [upd_ne e1, upd_ne e2]
                exact e) (Reps.cons (.int (-((spDs ds k).2 + 1))) .nil)
              rw [List.append_nil, List.append_nil] at q
              exact q
            · rw [upd_ne (Ne.symm ala)]
              exact upd_same
      | tuple ds =>
        cases rep with
        | @tup a vs S _ ha rs =>
          have len := rs.length
          simp only [PyData.depth] at dp
          simp only [G.wd] at sz
          have ala : a ≠ l := fun z => by rw [z, hl] at ha; cases ha
          have nds : S.Nodup := nd
          have nls : l ∉ S := nl
          have nas : a ∉ S := fun z => by
            obtain ⟨o, e, nt⟩ := Reps.domN _ _ _ rs a z
            rw [ha] at e
            cases e
            exact nt
          have rep : Rep H S (.ref a) (.tuple ds) := .tup ha rs
          refine ⟨fun σ H1 => ∃ y, σ = [some (.ref a), some (.ref l), y] ∧ Reps H1 S vs (spDs ds k).1 ∧ H1 l = some (.lst [.int (spDs ds k).2]) ∧ ∀ b o, H b = some o → b ∉ S → b ≠ l → H1 b = some o, ?_, fun σ H1 hI => ?_⟩
          · refine ⟨_, rfl, szle (by simp), fun t ht => ⟨_, t, _, _, [.type "list", .type "tuple"], _, rfl, upd_same, .cons (.ty _) (.cons (.ty _) .nil), tyx (rep.same (same_upd ht)) rfl, kit_seq rep, ?_⟩⟩
            refine ⟨_, rfl, iteT ?_⟩
            refine .inr ⟨_, rfl, a, rfl, ⟨_, SqT.of (same_upd ht _ _ ha)⟩, ?_⟩
            refine for_tup (xs := vs) (fun i σ H1 => i ≤ ds.length ∧ (∃ y, σ = [some (.ref a), some (.ref l), y]) ∧ SpI H l k S vs ds i H1) ⟨Nat.zero_le _, ⟨_, rfl⟩, SpI.zero (Reps.mono (fun t' xs e => same_upd ht _ _ e) _ _ _ rs fun b m o e => same_upd ht _ _ e) (same_upd ht _ _ hl) fun b o e _ _ => same_upd ht _ _ e⟩ (fun i σ H1 _ hI => ?_) (fun i x σ H1 hx hI => ?_) (fun σ H1 hI => ?_)
            · obtain ⟨_, _, _, _, _, _, _, _, fr⟩ := hI
              exact SqT.of (fr _ _ ha nas ala)
            · obtain ⟨hi, ⟨y, rfl⟩, hJ⟩ := hI
              have hil : i < vs.length := (List.getElem?_eq_some_iff.mp hx).1
              obtain ⟨di, hdi⟩ : ∃ e, ds[i]? = some e := ⟨_, List.getElem?_eq_getElem (show i < ds.length by omega)⟩
              have mi := List.mem_of_getElem? hdi
              have z1 := depth_mem mi
              have z2 := wd_mem mi
              obtain ⟨Sx, rx, ndx, nlx, hlx, kx⟩ := hJ.step nds nls hx hdi
              refine ⟨_, rfl, _, rfl, x, l, di, _, Sx, rfl, rx, ndx, nlx, hlx, by omega, by omega, fun H2 fr2 r2 hl2 => ?_⟩
              exact ⟨by omega, ⟨_, rfl⟩, kx H2 fr2 r2 hl2⟩
            · obtain ⟨_, ⟨y, rfl⟩, hJ⟩ := hI
              obtain ⟨a1, a2, a3⟩ := hJ.fin len
              exact ⟨_, rfl, a1, a2, a3⟩
          · obtain ⟨y, rfl, r1, hl1, fr⟩ := hI
            have ha1 := fr _ _ ha nas ala
            have rep1 : Rep H1 S (.ref a) (.tuple (spDs ds k).1) := .tup ha1 r1
            refine ⟨_, rfl, .ref a, _, _, _, _, rfl, .ty _, tyx rep1 rfl, kit_list rep1, ?_⟩
            refine ⟨_, rfl, iteF ?_⟩
            refine q _ fr ?_ ?_
            · simp only [spD]
              exact .tup ha1 r1
            · simp only [spD]
              exact hl1
      | none =>
        refine ⟨fun σ H1 => ∃ y, σ = [some v, some (.ref l), y] ∧ Same H H1, ?_, fun σ H1 hI => ?_⟩
        · refine ⟨_, rfl, szle (by simp), fun t ht => ⟨_, t, _, _, [.type "list", .type "tuple"], _, rfl, upd_same, .cons (.ty _) (.cons (.ty _) .nil), tyx (rep.same (same_upd ht)) rfl, kit_seq rep, ?_⟩⟩
          exact ⟨_, rfl, iteF ⟨_, rfl, same_upd ht⟩⟩
        · obtain ⟨y, rfl, sm⟩ := hI
          refine ⟨_, rfl, v, _, _, _, _, rfl, .ty _, tyx (rep.same sm) rfl, kit_list rep, ?_⟩
          refine ⟨_, rfl, iteF ?_⟩
          exact q _ (fun a o e _ _ => sm a o e) (Rep.mono (fun t vs e => sm _ _ e) _ _ _ rep fun a m o e => sm a o e) (sm _ _ hl)
      | bool b =>
        refine ⟨fun σ H1 => ∃ y, σ = [some v, some (.ref l), y] ∧ Same H H1, ?_, fun σ H1 hI => ?_⟩
        · refine ⟨_, rfl, szle (by simp), fun t ht => ⟨_, t, _, _, [.type "list", .type "tuple"], _, rfl, upd_same, .cons (.ty _) (.cons (.ty _) .nil), tyx (rep.same (same_upd ht)) rfl, kit_seq rep, ?_⟩⟩
          exact ⟨_, rfl, iteF ⟨_, rfl, same_upd ht⟩⟩
        · obtain ⟨y, rfl, sm⟩ := hI
          refine ⟨_, rfl, v, _, _, _, _, rfl, .ty _, tyx (rep.same sm) rfl, kit_list rep, ?_⟩
          refine ⟨_, rfl, iteF ?_⟩
          exact q _ (fun a o e _ _ => sm a o e) (Rep.mono (fun t vs e => sm _ _ e) _ _ _ rep fun a m o e => sm a o e) (sm _ _ hl)
      | int i =>
        refine ⟨fun σ H1 => ∃ y, σ = [some v, some (.ref l), y] ∧ Same H H1, ?_, fun σ H1 hI => ?_⟩
        · refine ⟨_, rfl, szle (by simp), fun t ht => ⟨_, t, _, _, [.type "list", .type "tuple"], _, rfl, upd_same, .cons (.ty _) (.cons (.ty _) .nil), tyx (rep.same (same_upd ht)) rfl, kit_seq rep, ?_⟩⟩
          exact ⟨_, rfl, iteF ⟨_, rfl, same_upd ht⟩⟩
        · obtain ⟨y, rfl, sm⟩ := hI
          refine ⟨_, rfl, v, _, _, _, _, rfl, .ty _, tyx (rep.same sm) rfl, kit_list rep, ?_⟩
          refine ⟨_, rfl, iteF ?_⟩
          exact q _ (fun a o e _ _ => sm a o e) (Rep.mono (fun t vs e => sm _ _ e) _ _ _ rep fun a m o e => sm a o e) (sm _ _ hl)
      | str x =>
        refine ⟨fun σ H1 => ∃ y, σ = [some v, some (.ref l), y] ∧ Same H H1, ?_, fun σ H1 hI => ?_⟩
        · refine ⟨_, rfl, szle (by simp), fun t ht => ⟨_, t, _, _, [.type "list", .type "tuple"], _, rfl, upd_same, .cons (.ty _) (.cons (.ty _) .nil), tyx (rep.same (same_upd ht)) rfl, kit_seq rep, ?_⟩⟩
          exact ⟨_, rfl, iteF ⟨_, rfl, same_upd ht⟩⟩
        · obtain ⟨y, rfl, sm⟩ := hI
          refine ⟨_, rfl, v, _, _, _, _, rfl, .ty _, tyx (rep.same sm) rfl, kit_list rep, ?_⟩
          refine ⟨_, rfl, iteF ?_⟩
          exact q _ (fun a o e _ _ => sm a o e) (Rep.mono (fun t vs e => sm _ _ e) _ _ _ rep fun a m o e => sm a o e) (sm _ _ hl)
      | dict _ =>
        simp only [G.wd] at sz
        omega
theorem ok__law_ps_alone (p : Prog K mg) : FnG P w K mg base CX0 64 p.f__law_ps_alone p.fd__law_ps_alone ["_law_told"] spEat := by
  refine okG p.d__law_ps_alone.F sc__law_ps_alone (fun vs H Q E h => ?_) (fun cdv A outer s H vs Q E hg hr h => ?_)
  · obtain ⟨v, d, S, rfl, _⟩ := h
    rfl
  · obtain ⟨v, d, S, rfl, rep, nd, sh, hn, q⟩ := h
    have dp := sh.dp
    have sw := sh.wd
    refine ⟨_, (pss_cons (ps_set (i := 1) sc__law_ps_alone.nd rfl (Or.inl rfl) (pe_callG ((ok__law_copied p 60).mono (by decide)) hg hr (by rfl) p.d__law_copied.gl p.d__law_copied.kp p.d__law_copied.bd pass0 (pa_cons (pv 0) pa_nil)))
      (pss_cons (ps_expr (pe_callG ((ok__law_ps_spoil p 24).mono (by decide)) hg hr (by rfl) p.d__law_ps_spoil.gl p.d__law_ps_spoil.kp p.d__law_ps_spoil.bd pass0 (pa_cons (pv 0) (pa_cons (pe_lst (pa_cons pe_int pa_nil)) pa_nil))))
      (pss_cons (ps_expr (pe_callG ((ok__law_ps_spoil p 24).mono (by decide)) hg hr (by rfl) p.d__law_ps_spoil.gl p.d__law_ps_spoil.kp p.d__law_ps_spoil.bd pass0 (pa_cons (pv 1) (pa_cons (pe_lst (pa_cons pe_int pa_nil)) pa_nil))))
      (pss_one (ps_ret (pe_cmpR op_eq (pe_callB (cr_repr hg hr.units) (by rfl) p.blt.repr (by decide +kernel) (pa_cons (pv 0) pa_nil)) (pe_callB (cr_repr hg hr.units) (by rfl) p.blt.repr (by decide +kernel) (pa_cons (pv 1) pa_nil)) (nomark _))))))), ?_⟩
    -- mirror = copied(told)
    have h0 : St H .none .none [(v, d)] [] [] H := St.enter (vs := [v]) (ds := [d]) (.cons rep .nil)
    refine ⟨_, rfl, h0.call (vs := [v]) (.cons (.fz (by walk_at "mem")) .nil) ⟨d, rfl, by omega, nd_wd d (by omega), by omega, fun m H1 h1 => ?_⟩⟩
    obtain ⟨sm1, S', rep1, nd', new'⟩ := h1.leave
    have r1 : Rep H1 S v d := Rep.mono (fun t vs e => sm1 _ _ e) _ _ _ rep fun a m o e => sm1 a o e
    have dis : ∀ a ∈ S, a ∉ S' := fun a m m' => by
      obtain ⟨xs, e⟩ := Rep.dom _ _ _ rep a m
      rw [new' a m'] at e
      cases e
    have dom1 := Rep.dom _ _ _ r1
    have dom' := Rep.dom _ _ _ rep1
    -- spoil(told, [0])
    refine ⟨_, rfl, szle (by simp), fun l hl => ?_⟩
    have nl1 : l ∉ S := fun z => by
      obtain ⟨xs, e⟩ := dom1 l z
      rw [hl] at e
      cases e
    have nl2 : l ∉ S' := fun z => by
      obtain ⟨xs, e⟩ := dom' l z
      rw [hl] at e
      cases e
    have up : Same H1 (upd H1 l (.lst [.int 0])) := same_upd hl
    refine ⟨v, l, d, 0, S, rfl, Rep.mono (fun t vs e => up _ _ e) _ _ _ r1 (fun a m o e => up a o e), nd, nl1, upd_same, by omega, by omega, fun H2 fr2 r2 hl2 => ?_⟩
    have sm2 : ∀ a o, H1 a = some o → a ∉ S → H2 a = some o := fun a o e m => fr2 a o (up a o e) m (ne_of_none e hl)
    have tup2 : ∀ t vs, H1 t = some (.tup vs) → H2 t = some (.tup vs) := fun t vs e => sm2 t _ e fun m => by
      obtain ⟨o, e2, nt⟩ := Rep.domN _ _ _ r1 t m
      rw [e] at e2
      cases e2
      exact nt
    have m2 : Rep H2 S' m d := Rep.mono tup2 _ _ _ rep1 fun a z o e => sm2 a o e fun z2 => dis a z2 z
    -- spoil(mirror, [0])
    refine ⟨_, rfl, szle (by simp), fun l' hl' => ?_⟩
    have dom2 := Rep.dom _ _ _ r2
    have dom2' := Rep.dom _ _ _ m2
    have nl1' : l' ∉ S := fun z => by
      obtain ⟨xs, e⟩ := dom2 l' z
      rw [hl'] at e
      cases e
    have nl2' : l' ∉ S' := fun z => by
      obtain ⟨xs, e⟩ := dom2' l' z
      rw [hl'] at e
      cases e
    have up2 : Same H2 (upd H2 l' (.lst [.int 0])) := same_upd hl'
    refine ⟨m, l', d, 0, S', rfl, Rep.mono (fun t vs e => up2 _ _ e) _ _ _ m2 (fun a z o e => up2 a o e), nd', nl2', upd_same, by omega, by omega, fun H3 fr3 r3 hl3 => ?_⟩
    have sm3 : ∀ a o, H2 a = some o → a ∉ S' → H3 a = some o := fun a o e z => fr3 a o (up2 a o e) z (ne_of_none e hl')
    have t3 : Rep H3 S v (spD d 0).1 := Rep.mono (fun t vs e => sm3 t _ e fun z => by
      obtain ⟨o, e2, nt⟩ := Rep.domN _ _ _ m2 t z
      rw [e] at e2
      cases e2
      exact nt) _ _ _ r2 fun a z o e => sm3 a o e (dis a z)
    -- return repr(told) == repr(mirror)
    have s3 := sp_Sh sh (by omega)
    have w3 := s3.wd
    have d3 := s3.dp
    have nd3 := nd_wd (spD d 0).1 (by omega)
    have D1 := Rep.dp K _ _ _ t3 nd3
    have D2 := Rep.dp K _ _ _ r3 nd3
    have sz : (spD d 0).1.shown.length ≤ sizeLine := Nat.le_trans (shown_wd _ nd3) (szle (by omega))
    refine ⟨_, rfl, _, _, rfl, D1, s3.sh, by omega, sz, _, rfl, _, _, rfl, D2, s3.sh, by omega, sz, rfl, ?_⟩
    rw [decide_eq_true rfl]
    refine q _ H3 rfl fun a o e z => ?_
    have e1 := sm1 a o e
    exact sm3 a o (sm2 a o e1 z) fun z2 => by
      rw [new' a z2] at e
      cases e
def w__law_ps_labels : Tw := fun ds Q => ∃ m : Int, ds = [.int m] ∧ 0 ≤ m ∧ m ≤ 41 ∧ ∀ xs : List Str, Nms m.toNat xs → Q (dS xs)
theorem ar__law_ps_labels : ∀ ds G, w__law_ps_labels ds G → ds.length + 1 = 2 := by
  rintro ds G ⟨_, rfl, _⟩
  rfl
def kr__law_ps_labels_1 : KS := (kDrop (kApp (kVar 6) (kOp vCatS (kOp vCatS (kSlS (kVar 4) kNo (kPart (kVar 5))) (kVar 8)) (kSlS (kVar 4) (kPart (kVar 5)) kNo))))
def kb__law_ps_labels_2 : KS := (kSeq (kAsg (kOp vCatS (kOp vIxS (kVar 2) (kOp (vI CDivW fun i j => i / j) (kF 1 vInt (kCons (kOp (vI noC fun i j => i + j) (kVar 3) (kVar 7)) kNil)) (kC (.int 26)))) (kOp vIxS (kVar 2) (kOp (vI (fun _ j => 0 < j) fun i j => i % j) (kF 1 vInt (kCons (kOp (vI noC fun i j => i + j) (kVar 3) (kVar 7)) kNil)) (kC (.int 26))))) (kgName 8))
  kr__law_ps_labels_1)
def kr__law_ps_labels_3 : KS := (kRet (kMov 6))
def kr__law_ps_labels_4 : KS := (kSeq (kFor (kRng1 (kVar 1)) (kgName 7) kb__law_ps_labels_2)
  kr__law_ps_labels_3)
def kr__law_ps_labels_5 : KS := (kSeq (kAsg (kLit (.list [])) (kgName 6))
  kr__law_ps_labels_4)
def kr__law_ps_labels_6 : KS := (kSeq (kAsg (kCallP 1 w__law_coin 1 (kCons (kVar 0) (kCons (kOp (vI noC fun i j => i + j) (kF 1 vLenS (kCons (kVar 4) kNil)) (kC (.int 1))) kNil))) (kgName 5))
  kr__law_ps_labels_5)
def kr__law_ps_labels_7 : KS := (kSeq (kAsg (kJoin ("" : String) (kLc (kRng1 (kCallP 1 w__law_coin 1 (kCons (kVar 0) (kCons (kC (.int 7)) kNil)))) 9 kYes (kOp vIxS (kVar 2) (kCallP 1 w__law_coin 1 (kCons (kVar 0) (kCons (kC (.int 26)) kNil)))))) (kgName 4))
  kr__law_ps_labels_6)
def kr__law_ps_labels_8 : KS := (kSeq (kAsg (kMk false 2 (kCons (kC (.str ("abcdefghijklmnopqrstuvwxyz" : String))) (kCons (kCallP 1 w__law_coin 1 (kCons (kVar 0) (kCons (kC (.int 600)) kNil))) kNil))) (kgTup 2 (kgCons (kgName 2) (kgCons (kgName 3) kgNil))))
  kr__law_ps_labels_7)
def k__law_ps_labels : KS := (kSeq (kIfS (kTest (kOp (vB fun i j => decide (i < j)) (kVar 1) (kC (.int 14))))
  (kRet (kCallP 400 w__law_words 1 (kCons (kVar 0) (kCons (kVar 1) kNil))))
  kNext)
  kr__law_ps_labels_8)
local macro_rules | `(tactic| walk_at "go") => `(tactic| ((first | unfold kr__law_ps_labels_1 | unfold kr__law_ps_labels_3 | unfold kr__law_ps_labels_4 | unfold kr__law_ps_labels_5 | unfold kr__law_ps_labels_6 | unfold kr__law_ps_labels_7 | unfold kr__law_ps_labels_8); walk_at "ev"))
theorem val__law_ps_labels : ∀ ds G, w__law_ps_labels ds G → k__law_ps_labels ⟨.pu :: (ds.map Sl.fz ++ [.jk, .jk, .jk, .jk, .jk, .jk, .jk, .jk]), [], 500⟩ (edP G) := by
  rintro ds Gq ⟨m, rfl, m0, m1, q⟩
  unfold k__law_ps_labels
  have l26 : LETS.length = 26 := by decide +kernel
  have l26' : (("abcdefghijklmnopqrstuvwxyz" : String) : Str).length = 26 := l26
  have e0 : (("" : String) : Str).length = 0 := by decide +kernel
  walk_at "ev"
  refine iteB (fun c1 => ?_) (fun c1 => ?_)
  · have := of_decide_eq_true c1
    refine ⟨⟨by decide, by decide⟩, m, rfl, m0, by omega, fun xs hx => ?_⟩
    exact ⟨by decide, q xs hx⟩
  walk_at "go"
  refine ⟨⟨by decide, by decide⟩, 600, rfl, by decide, by decide, fun s6 s0 s1 => ?_⟩
  walk_at "ev"
  walk_at "go"
  refine ⟨⟨by decide, by decide⟩, 7, rfl, by decide, by decide, fun z z0 z1 => ?_⟩
  walk_at "ev"
  refine ⟨by omega, ?_⟩
  refine lc_inv (j := 9) true (rg 0 z) PyData.int (fun pre acc m2 => ∃ ys : List Str, acc = ys.map PyData.str ∧ ys.length = pre.length ∧ m2 = 498 - pre.length ∧ pre.length ≤ z.toNat ∧ ∀ y ∈ ys, y.length = 1 ∧ Lt y) rfl rfl (fun pre acc m2 hp => ?_) (fun pre x post acc m2 Y X hl hp hY hX => ?_) (fun acc m2 hp => ?_) [] _ ⟨[], rfl, rfl, by simp, by simp, by simp⟩
  · obtain ⟨ys, rfl, h1, h2, h3, h4⟩ := hp
    rw [List.length_map]
    omega
  · obtain ⟨ys, rfl, h1, h2, h3, h4⟩ := hp
    have hlen := congrArg List.length hl
    rw [rg_length, List.length_append, List.length_cons] at hlen
    walk_at "ev"
    refine ⟨⟨by decide, by omega⟩, 26, rfl, by decide, by decide, fun g g0 g1 => ?_⟩
    walk_at "ev"
    refine vIxS_any g0 (by rw [l26']; exact g1) (by rw [l26']; decide) fun c hc => ?_
    refine hY _ true (.str ⟨#[c]⟩) _ rfl rfl ⟨ys ++ [⟨#[c]⟩], by simp, by simp [h1], by rw [List.length_append, List.length_singleton]; omega, by rw [List.length_append, List.length_singleton]; omega, fun y hy => ?_⟩
    rcases List.mem_append.mp hy with hy | hy
    · exact h4 y hy
    · rw [List.mem_singleton.mp hy]
      exact ⟨rfl, Lt.one hc⟩
  · obtain ⟨ys, rfl, g1, g2, g3, g4⟩ := hp
    rw [rg_length] at g1 g2 g3
    walk_at "ev"
    obtain ⟨v1, v2⟩ := join_word g4
    obtain ⟨st, hst⟩ : ∃ st : Str, Txt.join ("" : String) ys = st := ⟨_, rfl⟩
    have v3 : st.length = z.toNat := by rw [← hst, v1, g1]; congr 1; omega
    rw [hst] at v2
    refine ⟨by rw [sum_ones g4, e0]; omega, ?_⟩
    rw [hst]
    walk_at "go"
    refine ⟨by omega, ⟨by decide, by omega⟩, (st.length : Int) + 1, rfl, by omega, by omega, fun sp p0 p1 => ?_⟩
    walk_at "ev"
    walk_at "go"
    walk_at "go"
    refine ⟨⟨by omega, by omega⟩, ?_⟩
    refine forL_inv (rg 0 m) PyData.int (fun pre γ => ∃ s7 s8, γ = ⟨[.pu, .fz (.int m), .fz (.str LETS), .fz (.int s6), .fz (.str st), .fz (.int sp), .ow true (dS (pre.map (W3 st sp s6))), s7, s8, .jk], [], 498 - z - 1⟩) (fun pre x post γ N hl ht hP hN => ?_) (fun γ ht hP => ?_) _ rfl ⟨.jk, .jk, ?_⟩
    · obtain ⟨b, c, rfl⟩ := hP
      have hx : 0 ≤ x ∧ x < m := mem_rg.mp (hl ▸ List.mem_append_right pre List.mem_cons_self)
      have hlen := congrArg List.length hl
      rw [rg_length, List.length_append, List.length_cons] at hlen
      walk_at "ev"
      unfold kb__law_ps_labels_2
      walk_at "ev"
      refine ⟨by unfold CDivW; rw [show (26 : Int).natAbs.log2 = 4 by decide]; omega, vIxS_get (by omega) (by rw [l26]; omega) (by rw [l26]; decide) ?_⟩
      walk_at "ev"
      refine ⟨by decide, vIxS_get (by omega) (by rw [l26]; omega) (by rw [l26]; decide) ?_⟩
      have c1 : (cutS st none (some sp)).length ≤ 8 := by
        have := len_cut_to (x := st) (i := sp.toNat) (by omega)
        rw [show ((sp.toNat : Nat) : Int) = sp by omega] at this
        omega
      have c2 : (cutS st (some sp) none).length ≤ 8 := by
        have := len_cut_from (x := st) (i := sp.toNat)
        rw [show ((sp.toNat : Nat) : Int) = sp by omega] at this
        omega
      walk_at "ev"
      refine ⟨by show 1 + 1 ≤ _; decide, ?_⟩
      walk_at "go"
      have l2 : (⟨#[LETS.cps.toList.getD ((s6 + x) / 26).toNat 0]⟩ ++ ⟨#[LETS.cps.toList.getD ((s6 + x) % 26).toNat 0]⟩ : Str).length = 2 := rfl
      refine ⟨by omega, by rw [l2]; omega, by omega, by rw [Str.length_append, l2]; omega, by omega, ?_⟩
      rw [show cutS st none (some sp) ++ (⟨#[LETS.cps.toList.getD ((s6 + x) / 26).toNat 0]⟩ ++ ⟨#[LETS.cps.toList.getD ((s6 + x) % 26).toNat 0]⟩) ++ cutS st (some sp) none = W3 st sp s6 x from rfl, dS_snoc]
      exact hN _ rfl ⟨_, _, rfl⟩
    · obtain ⟨b, c, rfl⟩ := hP
      walk_at "go"
      exact ⟨by omega, q _ (W3_nms v2 (by omega) p0 p1 m0 m1 s0 s1)⟩
    · rw [g2, show (((z - 0).toNat : Nat) : Int) = z by omega]
      rfl
theorem ok__law_ps_labels (p : Prog K mg) : FnG P w K mg base CX0 5 p.f__law_ps_labels p.fd__law_ps_labels ["_law_sack", "_law_many"] (spP 500 w__law_ps_labels) :=
  okP p.d__law_ps_labels.F sc__law_ps_labels (by decide) ar__law_ps_labels (by decide) (fun cdv A outer s H E hg hr => ⟨_, (pss_cons (ps_if (pt_cmpR op_lt (pv 1) pe_int (nomark _))
      (pss_one (ps_ret (pe_callG ((ok__law_words p).mono (by decide)) hg hr (by rfl) p.d__law_words.gl p.d__law_words.kp p.d__law_words.bd pass0 (pa_cons (pv 0) (pa_cons (pv 1) pa_nil))))) pss_nil)
      (pss_cons (ps_asg (pe_tup (pa_cons pe_str (pa_cons (pe_callG ((ok__law_coin p).mono (by decide)) hg hr (by rfl) p.d__law_coin.gl p.d__law_coin.kp p.d__law_coin.bd pass0 (pa_cons (pv 0) (pa_cons pe_int pa_nil))) pa_nil))) (pg_tup rfl (pgs_cons (pg_name (i := 2) sc__law_ps_labels.nd rfl (Or.inr rfl)) (pgs_cons (pg_name (i := 3) sc__law_ps_labels.nd rfl (Or.inl rfl)) pgs_nil))))
      (pss_cons (ps_set (i := 4) sc__law_ps_labels.nd rfl (Or.inl rfl) (pe_join pe_str (pe_lc (own := [("_law_turn", 9)]) (g := gName 9) (tt := tYes) rfl sc__law_ps_labels.nd (pi_range1 (by rfl) p.blt.range (pa_cons (pe_callG ((ok__law_coin p).mono (by decide)) hg hr (by rfl) p.d__law_coin.gl p.d__law_coin.kp p.d__law_coin.bd pass0 (pa_cons (pv 0) (pa_cons pe_int pa_nil))) pa_nil)) (blkOk_by (N := N__law_ps_labels) (sc := defScope s__law_ps_labels) (by decide +kernel)) (fun _ _ _ _ _ => pg_name (i := 9) sc__law_ps_labels.nd rfl (Or.inl rfl)) (fun _ _ _ _ _ => pts_nil) (fun _ _ _ _ _ => (pe_ix ix_str (pv 2) (pe_callG ((ok__law_coin p).mono (by decide)) hg hr (by rfl) p.d__law_coin.gl p.d__law_coin.kp p.d__law_coin.bd pass0 (pa_cons (pv 0) (pa_cons pe_int pa_nil))) (fun _ _ => rfl))))))
      (pss_cons (ps_set (i := 5) sc__law_ps_labels.nd rfl (Or.inl rfl) (pe_callG ((ok__law_coin p).mono (by decide)) hg hr (by rfl) p.d__law_coin.gl p.d__law_coin.kp p.d__law_coin.bd pass0 (pa_cons (pv 0) (pa_cons (pe_op op_add (pe_callB call_len_str (by rfl) p.blt.len PySem.boot_len (pa_cons (pv 4) pa_nil)) pe_int) pa_nil))))
      (pss_cons (ps_set (i := 6) sc__law_ps_labels.nd rfl (Or.inl rfl) (pe_lst pa_nil))
      (pss_cons (ps_for PassesOwn.never rfl (pi_range1 (by rfl) p.blt.range (pa_cons (pv 1) pa_nil)) (pg_name (i := 7) sc__law_ps_labels.nd rfl (Or.inl rfl))
      (pss_cons (ps_set (i := 8) sc__law_ps_labels.nd rfl (Or.inl rfl) (pe_op op_add_str (pe_ix ix_str (pv 2) (pe_op op_fdivW (pe_callTy call_int1 (by rfl) p.blt.int (by decide +kernel) (pa_cons (pe_op op_add (pv 3) (pv 7)) pa_nil)) pe_int) (fun _ _ => rfl)) (pe_ix ix_str (pv 2) (pe_op op_mod (pe_callTy call_int1 (by rfl) p.blt.int (by decide +kernel) (pa_cons (pe_op op_add (pv 3) (pv 7)) pa_nil)) pe_int) (fun _ _ => rfl))))
      (pss_one (ps_expr (pe_bm PySem.F.plainAttrs_list PySem.F.slot_list_append PySem.F.type_list_append mt_append (pv 6) (pa_cons (pe_op op_add_str (pe_op op_add_str (pe_slice sl_str (pv 4) po_none (po_some (pv 5))) (pv 8)) (pe_slice sl_str (pv 4) (po_some (pv 5)) po_none)) pa_nil))))))
      (pss_one (ps_ret (pv 6))))))))),
    fun C xc => (so_seq (so_ifS (so_test (so_op sr_B (so_var (i := 1)) (so_c (sca_int _))))
      (so_ret (so_callP (so_cons (so_var (i := 0)) (so_cons (so_var (i := 1)) so_nil)))) so_next)
      (so_seq (so_asg (so_tup (so_cons (so_c (sca_str _)) (so_cons (so_callP (so_cons (so_var (i := 0)) (so_cons (so_c (sca_int _)) so_nil))) so_nil))) (so_gtup (so_gcons (so_gname (i := 2)) (so_gcons (so_gname (i := 3)) so_gnil))))
      (so_seq (so_asg (so_join (so_lc (so_rng1 (so_callP (so_cons (so_var (i := 0)) (so_cons (so_c (sca_int _)) so_nil)))) so_yes (so_op sr_ixS (so_var (i := 2)) (so_callP (so_cons (so_var (i := 0)) (so_cons (so_c (sca_int _)) so_nil)))))) (so_gname (i := 4)))
      (so_seq (so_asg (so_callP (so_cons (so_var (i := 0)) (so_cons (so_op sr_I0 (so_f sc_lenS (so_cons (so_var (i := 4)) so_nil)) (so_c (sca_int _))) so_nil))) (so_gname (i := 5)))
      (so_seq (so_asg (so_lit_lst so_lits_nil) (so_gname (i := 6)))
      (so_seq (so_for (so_rng1 (so_var (i := 1))) (so_gname (i := 7))
      (so_seq (so_asg (so_op sr_catS (so_op sr_ixS (so_var (i := 2)) (so_op sr_I (so_f sc_int (so_cons (so_op sr_I0 (so_var (i := 3)) (so_var (i := 7))) so_nil)) (so_c (sca_int _)))) (so_op sr_ixS (so_var (i := 2)) (so_op sr_I (so_f sc_int (so_cons (so_op sr_I0 (so_var (i := 3)) (so_var (i := 7))) so_nil)) (so_c (sca_int _))))) (so_gname (i := 8)))
      (so_drop (so_app (so_var (i := 6)) (so_op sr_catS (so_op sr_catS (so_slS (so_var (i := 4)) so_no (so_part (so_var (i := 5)))) (so_var (i := 8))) (so_slS (so_var (i := 4)) (so_part (so_var (i := 5))) so_no))))))
      (so_ret (so_mov (i := 6)))))))))⟩) val__law_ps_labels
def w__law_ps_steps (n : Nat) : Tw := fun ds Q => ∃ (ks : List Str) (m nest top : Int), ds = [dS ks, .int m, .int nest, .int top] ∧ 0 ≤ nest ∧ nest.toNat < n ∧ 0 ≤ m ∧ m ≤ 30 ∧ 0 ≤ top ∧ top ≤ 40 ∧ ks.length ≤ 1000 ∧ (∀ x ∈ ks, Lt x) ∧ ∀ ph, Drw ks m.toNat nest.toNat ph → Q (.list (dSteps ph))
def c__law_ps_steps : Nat → Int
  | 0 => 0
  | n + 1 => 1 + 30 * (4 + c__law_ps_steps n)
theorem cn__law_ps_steps : ∀ n, 0 ≤ c__law_ps_steps n
  | 0 => Int.le_refl _
  | n + 1 => by
    have := cn__law_ps_steps n
    unfold c__law_ps_steps
    omega
theorem no__law_ps_steps : ∀ ds Gq, ¬ w__law_ps_steps 0 ds Gq := by
  rintro ds Gq ⟨ks, m, nest, top, _, _, h, _⟩
  omega
theorem ar__law_ps_steps (n : Nat) : ∀ ds Gq, w__law_ps_steps n ds Gq → ds.length + 1 = 5 := by
  rintro ds Gq ⟨ks, m, nest, top, rfl, _⟩
  rfl
def kr__law_ps_steps_1 (n : Nat) : KS := (kDrop (kApp (kVar 5) (kMk false 3 (kCons (kIx true (kLit (.list [(.str ("under" : String)), (.str ("times" : String))])) (kVar 7)) (kCons (kVar 9) (kCons (kMov 8) kNil))))))
def kr__law_ps_steps_2 (n : Nat) : KS := (kSeq (kIfS (kTAnd (kTest (kOp (vB fun i j => decide (j < i)) (kVar 4) (kC (.int 2)))) (kTest (kOp (vEq false) (kCallP 1 w__law_coin 1 (kCons (kVar 0) (kCons (kC (.int 4)) kNil))) (kC (.int 0)))))
  (kAsg (kCallP 1 w__law_coin 1 (kCons (kVar 0) (kCons (kC (.int 41)) kNil))) (kgName 9))
  kNext)
  (kr__law_ps_steps_1 n))
def kr__law_ps_steps_3 (n : Nat) : KS := (kIfS (kTAnd (kTest (kOp (vB fun i j => decide (i < j)) (kVar 7) (kC (.int 2)))) (kTest (kOp (vB fun i j => decide (j < i)) (kVar 3) (kC (.int 0)))))
  (kSeq (kPar 8 9 (kCons (kCallP (c__law_ps_steps n) (w__law_ps_steps n) 4 (kCons (kVar 0) (kCons (kVar 1) (kCons (kC (.int 2)) (kCons (kOp (vI noC fun i j => i - j) (kVar 3) (kC (.int 1))) (kCons (kVar 4) kNil)))))) (kCons (kCallP 1 w__law_coin 1 (kCons (kVar 0) (kCons (kOp (vI noC fun i j => i + j) (kVar 4) (kC (.int 1))) kNil))) kNil)))
  (kr__law_ps_steps_2 n))
  (kIfS (kTest (kOp (vEqD true) (kVar 1) (kLit (.list []))))
  (kDrop (kApp (kVar 5) (kIx true (kVar 1) (kCallP 1 w__law_coin 1 (kCons (kVar 0) (kCons (kF 1 vLen (kCons (kVar 1) kNil)) kNil))))))
  kNext))
def kb__law_ps_steps_4 (n : Nat) : KS := (kSeq (kAsg (kCallP 1 w__law_coin 1 (kCons (kVar 0) (kCons (kC (.int 6)) kNil))) (kgName 7))
  (kr__law_ps_steps_3 n))
def kr__law_ps_steps_5 (n : Nat) : KS := (kRet (kMov 5))
def kr__law_ps_steps_6 (n : Nat) : KS := (kSeq (kFor (kRng1 (kCallP 1 w__law_coin 1 (kCons (kVar 0) (kCons (kOp (vI noC fun i j => i + j) (kVar 2) (kC (.int 1))) kNil)))) (kgName 6) (kb__law_ps_steps_4 n))
  (kr__law_ps_steps_5 n))
def k__law_ps_steps (n : Nat) : KS := (kSeq (kAsg (kLit (.list [])) (kgName 5))
  (kr__law_ps_steps_6 n))
local macro_rules | `(tactic| walk_at "go") => `(tactic| ((first | unfold kr__law_ps_steps_1 | unfold kr__law_ps_steps_2 | unfold kr__law_ps_steps_3 | unfold kr__law_ps_steps_5 | unfold kr__law_ps_steps_6); walk_at "ev"))
theorem val__law_ps_steps (n : Nat) : ∀ ds G, w__law_ps_steps (n + 1) ds G → k__law_ps_steps n ⟨.pu :: (ds.map Sl.fz ++ [.jk, .jk, .jk, .jk, .jk]), [], (c__law_ps_steps (n + 1))⟩ (edP G) := by
  rintro ds Gq ⟨ks, m, nest, top, rfl, e0, e1, m0, m1, t0, t1, kl, kt, q⟩
  unfold k__law_ps_steps
  have cn : c__law_ps_steps (n + 1) = 1 + 30 * (4 + c__law_ps_steps n) := rfl
  have c0 := cn__law_ps_steps n
  rw [cn]
  walk_at "ev"
  walk_at "go"
  refine ⟨⟨by decide, by omega⟩, m + 1, rfl, by omega, by omega, fun z z0 z1 => ?_⟩
  walk_at "ev"
  refine ⟨⟨by omega, by omega⟩, ?_⟩
  refine forL_inv (rg 0 z) PyData.int (fun pre γ => ∃ (ph : List Step) (s6 s7 s8 s9 : Sl) (k : Int), γ = ⟨[.pu, .fz (dS ks), .fz (.int m), .fz (.int nest), .fz (.int top), .ow true (.list (dSteps ph)), s6, s7, s8, s9], [], k⟩ ∧ Drw ks pre.length nest.toNat ph ∧ (30 - pre.length) * (4 + c__law_ps_steps n) ≤ k) (fun pre x post γ N hl ht hP hN => ?_) (fun γ ht hP => ?_) _ rfl ⟨[], _, _, _, _, _, rfl, Drw.nil, by simp only [List.length_nil]; omega⟩
  · obtain ⟨ph, s6, s7, s8, s9, k, rfl, dr, hk⟩ := hP
    have hlen := congrArg List.length hl
    rw [rg_length, List.length_append, List.length_cons] at hlen
    have hk2 : (4 + c__law_ps_steps n) + (30 - (pre.length + 1)) * (4 + c__law_ps_steps n) ≤ k := by
      have : (30 - (pre.length : Int)) * (4 + c__law_ps_steps n) = (4 + c__law_ps_steps n) + (30 - ((pre.length : Int) + 1)) * (4 + c__law_ps_steps n) := by
        rw [← Int.one_mul (4 + c__law_ps_steps n)]
        rw [Int.one_mul]
        have : (30 - (pre.length : Int)) = 1 + (30 - ((pre.length : Int) + 1)) := by omega
        rw [this, Int.add_mul, Int.one_mul]
      omega
    have hk3 : 0 ≤ (30 - ((pre.length : Int) + 1)) * (4 + c__law_ps_steps n) := Int.mul_nonneg (by omega) (by omega)
    walk_at "ev"
    unfold kb__law_ps_steps_4
    walk_at "ev"
    refine ⟨⟨by decide, by omega⟩, 6, rfl, by decide, by decide, fun kd d0 d1 => ?_⟩
    walk_at "ev"
    have fin : ∀ (s : Step) (k2 : Int) (s8 s9 : Sl), wfS ks s → dpS s ≤ nest.toNat → szS s ≤ gz nest.toNat → (30 - ((pre.length : Int) + 1)) * (4 + c__law_ps_steps n) ≤ k2 → N ⟨[.pu, .fz (dS ks), .fz (.int m), .fz (.int nest), .fz (.int top), .ow true (.list (dSteps ph ++ [dStep s])), .fz (.int x), .fz (.int kd), s8, s9], [], k2⟩ := fun s k2 s8 s9 w1 w2 w3 w4 => hN _ rfl ⟨ph ++ [s], .fz (.int x), .fz (.int kd), s8, s9, k2, by rw [dSteps_snoc], by rw [List.length_append, List.length_singleton]; exact dr.snoc w1 w2 w3, by rw [List.length_append, List.length_singleton]; exact w4⟩
    have skip : N ⟨[.pu, .fz (dS ks), .fz (.int m), .fz (.int nest), .fz (.int top), .ow true (.list (dSteps ph)), .fz (.int x), .fz (.int kd), s8, s9], [], k - 1⟩ := hN _ rfl ⟨ph, .fz (.int x), .fz (.int kd), s8, s9, k - 1, rfl, by rw [List.length_append, List.length_singleton]; exact dr.mono (Nat.le_succ _), by rw [List.length_append, List.length_singleton]; show (30 - ((pre.length : Int) + 1)) * _ ≤ _; omega⟩
    have pl := dr.2.2.1
    have last : ∀ (u : Bool) (cnt k2 : Int) (inner : List Step), kd = (if u then 0 else 1) → 0 < nest → 0 ≤ cnt → cnt ≤ 40 → Drw ks 2 (nest - 1).toNat inner → (30 - ((pre.length : Int) + 1)) * (4 + c__law_ps_steps n) ≤ k2 → kr__law_ps_steps_1 n ⟨[.pu, .fz (dS ks), .fz (.int m), .fz (.int nest), .fz (.int top), .ow true (.list (dSteps ph)), .fz (.int x), .fz (.int kd), .ow true (.list (dSteps inner)), .fz (.int cnt)], [], k2⟩ ⟨fun γ2 => γ2.tm = [] ∧ N γ2, (edP Gq).rt, fun γ2 => γ2.tm = [] ∧ kr__law_ps_steps_5 n ⟨γ2.sl, [], γ2.n⟩ (edP Gq), fun γ2 => γ2.tm = [] ∧ N γ2⟩ := by
      intro u cnt k2 inner ek n0 c0 c1 di hk2
      have fin2 := fin (.long u cnt inner) k2 .jk (.fz (.int cnt)) (by unfold wfS; exact ⟨c0, c1, di.1⟩) (by have := di.2.1; unfold dpS; omega) (by
        have a := sz_le di.2.2.2
        have b := di.2.2.1
        have e : nest.toNat = (nest - 1).toNat + 1 := by omega
        have c := Nat.mul_le_mul_right (gz (nest - 1).toNat) b
        unfold szS
        rw [e]
        show _ ≤ 1 + 2 * gz (nest - 1).toNat
        omega) hk2
      unfold dStep wordD at fin2
      have dl := dSteps_len ph
      cases u with
      | true =>
        subst ek
        walk_at "go"
        exact ⟨by decide, by omega, fin2⟩
      | false =>
        subst ek
        walk_at "go"
        exact ⟨by decide, by omega, fin2⟩
    walk_at "go"
    refine iteB (fun d2 => iteB (fun d3 => ?_) (fun _ => ?_)) (fun _ => ?_)
    · have d2 := of_decide_eq_true d2
      have d3 := of_decide_eq_true d3
      refine ⟨⟨c0, by omega⟩, ks, 2, nest - 1, top, rfl, by omega, by omega, by decide, by decide, t0, t1, kl, kt, fun inner di => ?_⟩
      refine ⟨⟨by decide, by omega⟩, top + 1, rfl, by omega, by omega, fun cnt c1 c2 => ?_⟩
      obtain ⟨u, hu⟩ : ∃ u : Bool, kd = (if u then 0 else 1) := by
        by_cases z : kd = 0
        · exact ⟨true, z⟩
        · refine ⟨false, ?_⟩
          show kd = 1
          omega
      have di : Drw ks 2 (nest - 1).toNat inner := di
      walk_at "ev"
      walk_at "go"
      refine iteB (fun d4 => ?_) (fun d4 => ?_)
      · refine ⟨⟨by decide, by omega⟩, 4, rfl, by decide, by decide, fun g g0 g1 => ?_⟩
        walk_at "ev"
        refine iteB (fun d5 => ?_) (fun d5 => ?_)
        · refine ⟨⟨by decide, by omega⟩, 41, rfl, by decide, by decide, fun c2 g2 g3 => ?_⟩
          exact last u c2 _ inner hu d3 g2 (by omega) di (by omega)
        · exact last u cnt _ inner hu d3 c1 (by omega) di (by omega)
      · exact last u cnt _ inner hu d3 c1 (by omega) di (by omega)
    all_goals
      refine ⟨shaped_strs fun x m => (kt x m).ok, shaped_strs (ss := []) (fun _ z => nomatch z), ?_⟩
      rw [show PyData.eqv (dS ks) (.list []) = decide (ks = []) from eqv_strs ks []]
      refine iteB (fun d6 => ?_) (fun d6 => skip)
      have kn : ks ≠ [] := by simpa using d6
      have kp : 0 < ks.length := List.length_pos_iff.mpr kn
      refine ⟨⟨by decide, by omega⟩, (ks.length : Int), rfl, by omega, by omega, fun g g0 g1 => ?_⟩
      walk_at "ev"
      refine ixD_strs g0 g1 fun s ms _ _ => ?_
      walk_at "ev"
      have dl := dSteps_len ph
      exact ⟨by omega, fin (.nm s) _ _ _ (by unfold wfS; exact ms) (Nat.zero_le _) (by unfold szS; exact gz_pos _) (by omega)⟩
  · obtain ⟨ph, s6, s7, s8, s9, k, rfl, dr, hk⟩ := hP
    rw [rg_length] at dr hk
    walk_at "go"
    refine ⟨?_, q ph (dr.mono (by omega))⟩
    have : 0 ≤ (30 - (((z - 0).toNat : Nat) : Int)) * (4 + c__law_ps_steps n) := Int.mul_nonneg (by omega) (by omega)
    omega
theorem group__law_ps_steps (p : Prog K mg) : ∀ n : Nat, FnG P w K mg base CX0 (1 * n + 4) p.f__law_ps_steps p.fd__law_ps_steps ["_law_sack", "_law_labels", "_law_many", "_law_nest", "_law_top"] (spP (c__law_ps_steps n) (w__law_ps_steps n)) := by
  intro n
  induction n with
  | zero => exact fn_none (noP no__law_ps_steps)
  | succ n ih =>
    have ih__law_ps_steps := ih
    have h__law_ps_steps : FnG P w K mg base CX0 (1 * (n + 1) + 4) p.f__law_ps_steps p.fd__law_ps_steps ["_law_sack", "_law_labels", "_law_many", "_law_nest", "_law_top"] (spP (c__law_ps_steps (n + 1)) (w__law_ps_steps (n + 1))) := okP p.d__law_ps_steps.F sc__law_ps_steps (by decide) (ar__law_ps_steps (n + 1)) (cn__law_ps_steps _) (fun cdv A outer s H E hg hr => ⟨_, (pss_cons (ps_set (i := 5) sc__law_ps_steps.nd rfl (Or.inl rfl) (pe_lst pa_nil))
      (pss_cons (ps_for PassesOwn.never rfl (pi_range1 (by rfl) p.blt.range (pa_cons (pe_callG ((ok__law_coin p).mono (by omega)) hg hr (by rfl) p.d__law_coin.gl p.d__law_coin.kp p.d__law_coin.bd pass0 (pa_cons (pv 0) (pa_cons (pe_op op_add (pv 2) pe_int) pa_nil))) pa_nil)) (pg_name (i := 6) sc__law_ps_steps.nd rfl (Or.inl rfl))
      (pss_cons (ps_set (i := 7) sc__law_ps_steps.nd rfl (Or.inl rfl) (pe_callG ((ok__law_coin p).mono (by omega)) hg hr (by rfl) p.d__law_coin.gl p.d__law_coin.kp p.d__law_coin.bd pass0 (pa_cons (pv 0) (pa_cons pe_int pa_nil))))
      (pss_one (ps_if (PW.pt (pw_and (pt_cmpR op_lt (pv 7) pe_int (nomark _)) (pw_and1 (pt_cmpR op_gt (pv 3) pe_int (nomark _)))))
      (pss_cons (ps_par (i := 8) (j := 9) rfl sc__law_ps_steps.nd rfl rfl (by decide) rfl rfl (pa_cons (pe_callG (ih__law_ps_steps.mono (by omega)) hg hr (by rfl) p.d__law_ps_steps.gl p.d__law_ps_steps.kp p.d__law_ps_steps.bd pass0 (pa_cons (pv 0) (pa_cons (pv 1) (pa_cons pe_int (pa_cons (pe_op op_sub (pv 3) pe_int) (pa_cons (pv 4) pa_nil)))))) (pa_cons (pe_callG ((ok__law_coin p).mono (by omega)) hg hr (by rfl) p.d__law_coin.gl p.d__law_coin.kp p.d__law_coin.bd pass0 (pa_cons (pv 0) (pa_cons (pe_op op_add (pv 4) pe_int) pa_nil))) pa_nil)) (by rfl))
      (pss_cons (ps_if (PW.pt (pw_and (pt_cmpR op_gt (pv 4) pe_int (nomark _)) (pw_and1 (pt_cmpR op_eq (pe_callG ((ok__law_coin p).mono (by omega)) hg hr (by rfl) p.d__law_coin.gl p.d__law_coin.kp p.d__law_coin.bd pass0 (pa_cons (pv 0) (pa_cons pe_int pa_nil))) pe_int (nomark _)))))
      (pss_one (ps_set (i := 9) sc__law_ps_steps.nd rfl (Or.inl rfl) (pe_callG ((ok__law_coin p).mono (by omega)) hg hr (by rfl) p.d__law_coin.gl p.d__law_coin.kp p.d__law_coin.bd pass0 (pa_cons (pv 0) (pa_cons pe_int pa_nil))))) pss_nil)
      (pss_one (ps_expr (pe_bm PySem.F.plainAttrs_list PySem.F.slot_list_append PySem.F.type_list_append mt_append (pv 5) (pa_cons (pe_tup (pa_cons (pe_ix ix_list (pe_lst (pa_cons pe_str (pa_cons pe_str pa_nil))) (pv 7) (fun _ _ => rfl)) (pa_cons (pv 9) (pa_cons (pv 8) pa_nil)))) pa_nil)))))) (pss_one (ps_if (pt_cmpR (op_neD hr.units) (pv 1) (pe_lst pa_nil) (nomark _))
      (pss_one (ps_expr (pe_bm PySem.F.plainAttrs_list PySem.F.slot_list_append PySem.F.type_list_append mt_append (pv 5) (pa_cons (pe_ix ix_list (pv 1) (pe_callG ((ok__law_coin p).mono (by omega)) hg hr (by rfl) p.d__law_coin.gl p.d__law_coin.kp p.d__law_coin.bd pass0 (pa_cons (pv 0) (pa_cons (pe_callB call_len_seq (by rfl) p.blt.len PySem.boot_len (pa_cons (pv 1) pa_nil)) pa_nil))) (fun _ _ => rfl)) pa_nil)))) pss_nil))))))
      (pss_one (ps_ret (pv 5))))),
    fun C xc => (so_seq (so_asg (so_lit_lst so_lits_nil) (so_gname (i := 5)))
      (so_seq (so_for (so_rng1 (so_callP (so_cons (so_var (i := 0)) (so_cons (so_op sr_I0 (so_var (i := 2)) (so_c (sca_int _))) so_nil)))) (so_gname (i := 6))
      (so_seq (so_asg (so_callP (so_cons (so_var (i := 0)) (so_cons (so_c (sca_int _)) so_nil))) (so_gname (i := 7)))
      (so_ifS (so_tand (so_test (so_op sr_B (so_var (i := 7)) (so_c (sca_int _)))) (so_test (so_op sr_B (so_var (i := 3)) (so_c (sca_int _)))))
      (so_seq (so_par (i := 8) (j := 9) (by decide) (so_cons (so_callP (so_cons (so_var (i := 0)) (so_cons (so_var (i := 1)) (so_cons (so_c (sca_int _)) (so_cons (so_op sr_I0 (so_var (i := 3)) (so_c (sca_int _))) (so_cons (so_var (i := 4)) so_nil)))))) (so_cons (so_callP (so_cons (so_var (i := 0)) (so_cons (so_op sr_I0 (so_var (i := 4)) (so_c (sca_int _))) so_nil))) so_nil)))
      (so_seq (so_ifS (so_tand (so_test (so_op sr_B (so_var (i := 4)) (so_c (sca_int _)))) (so_test (so_op sr_eq (so_callP (so_cons (so_var (i := 0)) (so_cons (so_c (sca_int _)) so_nil))) (so_c (sca_int _)))))
      (so_asg (so_callP (so_cons (so_var (i := 0)) (so_cons (so_c (sca_int _)) so_nil))) (so_gname (i := 9))) so_next)
      (so_drop (so_app (so_var (i := 5)) (so_tup (so_cons (so_ixL (so_lit_lst (so_lits_cons (so_lit_c (sca_str _) rfl) (so_lits_cons (so_lit_c (sca_str _) rfl) so_lits_nil))) (so_var (i := 7))) (so_cons (so_var (i := 9)) (so_cons (so_mov (i := 8)) so_nil)))))))) (so_ifS (so_test (so_op sr_neD (so_var (i := 1)) (so_lit_lst so_lits_nil)))
      (so_drop (so_app (so_var (i := 5)) (so_ixL (so_var (i := 1)) (so_callP (so_cons (so_var (i := 0)) (so_cons (so_f sc_len (so_cons (so_var (i := 1)) so_nil)) so_nil)))))) so_next))))
      (so_ret (so_mov (i := 5)))))⟩) (val__law_ps_steps n)
    exact h__law_ps_steps
theorem ok__law_ps_steps (p : Prog K mg) (n : Nat) : FnG P w K mg base CX0 (1 * n + 4) p.f__law_ps_steps p.fd__law_ps_steps ["_law_sack", "_law_labels", "_law_many", "_law_nest", "_law_top"] (spP (c__law_ps_steps n) (w__law_ps_steps n)) := (group__law_ps_steps p n)
def w__law_ps_step (n : Nat) : Tw := fun ds Q => ∃ s h W L, ds = [heldD h, dStep s, .int W, .int L] ∧ dpS s < n ∧ HB h ∧ wfS (h.map (·.1)) s ∧ 0 ≤ W ∧ W ≤ 100 ∧ 0 ≤ L ∧ L ≤ 100 ∧ (inS W L h s → Q (dE (efS h s))) ∧ (¬ inS W L h s → Q .none)
def w__law_ps_phrase (n : Nat) : Tw := fun ds Q => ∃ ph h W L, ds = [heldD h, .list (dSteps ph), .int W, .int L] ∧ dpSs ph < n ∧ HB h ∧ wfSs (h.map (·.1)) ph ∧ 0 ≤ W ∧ W ≤ 100 ∧ 0 ≤ L ∧ L ≤ 100 ∧ (inSs W L h (0, []) ph → Q (dE (efL h (0, []) ph))) ∧ (¬ inSs W L h (0, []) ph → Q .none)
theorem no__law_ps_step : ∀ ds Gq, ¬ w__law_ps_step 0 ds Gq := by
  rintro ds Gq ⟨s, h, _, _, _, hd, _⟩
  omega
theorem no__law_ps_phrase : ∀ ds Gq, ¬ w__law_ps_phrase 0 ds Gq := by
  rintro ds Gq ⟨s, h, _, _, _, hd, _⟩
  omega
theorem ar__law_ps_step (n : Nat) : ∀ ds Gq, w__law_ps_step n ds Gq → ds.length = 4 := by
  rintro ds Gq ⟨s, h, _, _, rfl, _⟩
  rfl
theorem ar__law_ps_phrase (n : Nat) : ∀ ds Gq, w__law_ps_phrase n ds Gq → ds.length = 4 := by
  rintro ds Gq ⟨s, h, _, _, rfl, _⟩
  rfl
def kb__law_ps_step_1 (n : Nat) : KS := (kIfS (kTAnd (kTest (kOp (vEq false) (kIx false (kVar 1) (kC (.int 0))) (kC (.str ("times" : String))))) (kTAnd (kTest (kOp (vB fun i j => decide (i ≤ j)) (kIx false (kVar 5) (kC (.int 0))) (kVar 2))) (kTest (kOp (vB fun i j => decide (i ≤ j)) (kF 1 vLen (kCons (kIx false (kVar 5) (kC (.int 1))) kNil)) (kVar 3)))))
  (kAsg (kCallT w__law_ps_both 2 (kCons (kVar 5) (kCons (kVar 4) kNil))) (kgName 5))
  kNext)
def kr__law_ps_step_2 (n : Nat) : KS := (kRet (kIf (kTOr (kTest (kOp (vB fun i j => decide (j < i)) (kIx false (kVar 5) (kC (.int 0))) (kVar 2))) (kTest (kOp (vB fun i j => decide (j < i)) (kF 1 vLen (kCons (kIx false (kVar 5) (kC (.int 1))) kNil)) (kVar 3)))) (kC .none) (kFrz 5)))
def kr__law_ps_step_3 (n : Nat) : KS := (kSeq (kFor (kRng1 (kIx false (kVar 1) (kC (.int 1)))) (kgName 6) (kb__law_ps_step_1 n))
  (kr__law_ps_step_2 n))
def kr__law_ps_step_4 (n : Nat) : KS := (kSeq (kIfS (kTest (kOp (vEq false) (kIx false (kVar 1) (kC (.int 0))) (kC (.str ("under" : String)))))
  (kAsg (kCallT w__law_ps_beneath 2 (kCons (kVar 4) (kCons (kIx false (kVar 1) (kC (.int 1))) kNil))) (kgName 5))
  kNext)
  (kr__law_ps_step_3 n))
def kr__law_ps_step_5 (n : Nat) : KS := (kSeq (kAsg (kLit (.tuple [(.int 0), (.list [])])) (kgName 5))
  (kr__law_ps_step_4 n))
def kr__law_ps_step_6 (n : Nat) : KS := (kSeq (kIfS (kTest (kOp (vIsN false) (kVar 4) (kC .none)))
  (kRet (kC .none))
  kNext)
  (kr__law_ps_step_5 n))
def kr__law_ps_step_7 (n : Nat) : KS := (kSeq (kAsg (kCallT (w__law_ps_phrase n) 4 (kCons (kVar 0) (kCons (kIx false (kVar 1) (kC (.int 2))) (kCons (kVar 2) (kCons (kVar 3) kNil))))) (kgName 4))
  (kr__law_ps_step_6 n))
def k__law_ps_step (n : Nat) : KS := (kSeq (kIfS (kTest (kIs "str" (kVar 1)))
  (kRet (kDGet 0 (kVar 1)))
  kNext)
  (kr__law_ps_step_7 n))
local macro_rules | `(tactic| walk_at "go") => `(tactic| ((first | unfold kr__law_ps_step_2 | unfold kr__law_ps_step_3 | unfold kr__law_ps_step_4 | unfold kr__law_ps_step_5 | unfold kr__law_ps_step_6 | unfold kr__law_ps_step_7); walk_at "ev"))
def kr__law_ps_phrase_1 (n : Nat) : KS := (kIfS (kTOr (kTest (kOp (vB fun i j => decide (j < i)) (kIx false (kVar 4) (kC (.int 0))) (kVar 2))) (kTest (kOp (vB fun i j => decide (j < i)) (kF 1 vLen (kCons (kIx false (kVar 4) (kC (.int 1))) kNil)) (kVar 3))))
  (kRet (kC .none))
  kNext)
def kr__law_ps_phrase_2 (n : Nat) : KS := (kSeq (kAsg (kCallT w__law_ps_both 2 (kCons (kVar 4) (kCons (kVar 6) kNil))) (kgName 4))
  (kr__law_ps_phrase_1 n))
def kr__law_ps_phrase_3 (n : Nat) : KS := (kSeq (kIfS (kTest (kOp (vIsN false) (kVar 6) (kC .none)))
  (kRet (kC .none))
  kNext)
  (kr__law_ps_phrase_2 n))
def kb__law_ps_phrase_4 (n : Nat) : KS := (kSeq (kAsg (kCallS (w__law_ps_step (n + 1)) 4 (kCons (kFrz 0) (kCons (kFrz 5) (kCons (kVar 2) (kCons (kVar 3) kNil))))) (kgName 6))
  (kr__law_ps_phrase_3 n))
def kr__law_ps_phrase_5 (n : Nat) : KS := (kRet (kMov 4))
def kr__law_ps_phrase_6 (n : Nat) : KS := (kSeq (kFor (kIt true (kFrz 1)) (kgName 5) (kb__law_ps_phrase_4 n))
  (kr__law_ps_phrase_5 n))
def k__law_ps_phrase (n : Nat) : KS := (kSeq (kAsg (kLit (.tuple [(.int 0), (.list [])])) (kgName 4))
  (kr__law_ps_phrase_6 n))
local macro_rules | `(tactic| walk_at "go") => `(tactic| ((first | unfold kr__law_ps_phrase_1 | unfold kr__law_ps_phrase_2 | unfold kr__law_ps_phrase_3 | unfold kr__law_ps_phrase_5 | unfold kr__law_ps_phrase_6); walk_at "ev"))
theorem val__law_ps_step (n : Nat) : ∀ ds G, w__law_ps_step (n + 1) ds G → k__law_ps_step n ⟨ds.map Sl.fz ++ [.jk, .jk, .jk], [], 0⟩ (edS G) := by
  rintro ds Gq ⟨s, h, W, L, rfl, hd, hb, wf, W0, W1, L0, L1, q1, q2⟩
  unfold k__law_ps_step
  cases s with
  | nm x =>
    unfold dStep
    walk_at "ev"
    unfold wfS at wf
    obtain ⟨e, he⟩ := look_of wf
    have q := q1 (by unfold inS; exact True.intro)
    unfold efS at q
    rw [he] at q
    exact ⟨dE e, by rw [valM_held, he]; rfl, q⟩
  | long u m inner =>
    unfold dStep
    walk_at "ev"
    unfold wfS at wf
    unfold dpS at hd
    obtain ⟨m0, m1, wf⟩ := wf
    obtain ⟨ee, el⟩ := efL_eff hb wf eff0 lst0
    walk_at "go"
    refine ⟨inner, h, W, L, rfl, by omega, hb, wf, W0, W1, L0, L1, fun i => ?_, fun i => ?_⟩
    · have bw := inSs_bw (Bw0 W0 L0) i
      unfold inS at q1 q2
      unfold efS at q1
      obtain ⟨⟨a, as⟩, ea⟩ : ∃ e, efL h (0, []) inner = e := ⟨_, rfl⟩
      rw [ea] at ee el bw q1 q2 ⊢
      have b1 : a ≤ W := bw.1
      have b2 : (as.length : Int) ≤ L := bw.2
      have el : leastE a as = (a, as) := el
      walk_at "go"
      walk_at "go"
      walk_at "go"
      cases u with
      | true =>
        rw [if_pos rfl] at q1 q2
        unfold wordD
        walk_at "ev"
        refine ⟨a, as, m, rfl, ee, m0, by omega, by omega, by omega, ?_⟩
        rw [el]
        have ue := under_eff ee m0
        obtain ⟨⟨c, cs⟩, ec⟩ : ∃ e, underE (a, as) m = e := ⟨_, rfl⟩
        rw [ec] at q1 q2 ue ⊢
        have nu : ¬ decide ((("under" : String) : Str) = (("times" : String) : Str)) = true := by decide +kernel
        walk_at "go"
        refine ⟨⟨by omega, by omega⟩, ?_⟩
        refine forL_inv (rg 0 m) PyData.int (fun pre γ => ∃ t, γ = ⟨[.fz (heldD h), .fz (.tuple [.str ("under" : String), .int m, .list (dSteps inner)]), .fz (.int W), .fz (.int L), .ow true (dE (a, as)), .ow true (dE (c, cs)), t], [], 0⟩) (fun pre x post γ N hl ht hP hN => ?_) (fun γ ht hP => ?_) _ rfl ⟨.jk, rfl⟩
        · obtain ⟨t, rfl⟩ := hP
          walk_at "ev"
          unfold kb__law_ps_step_1
          walk_at "ev"
          refine iteB (fun z => absurd z nu) (fun _ => ?_)
          exact hN _ rfl ⟨_, rfl⟩
        · obtain ⟨t, rfl⟩ := hP
          walk_at "go"
          refine iteB (fun z => ?_) (fun z => iteB (fun z2 => ?_) (fun z2 => ?_))
          · have z := of_decide_eq_true z
            exact q2 fun i => absurd i.2.1 (by show ¬ c ≤ W; omega)
          · have z2 := of_decide_eq_true z2
            exact q2 fun i => absurd i.2.2 (by show ¬ (cs.length : Int) ≤ L; omega)
          · have z := of_decide_eq_false z
            have z2 := of_decide_eq_false z2
            exact q1 ⟨i, by show c ≤ W; omega, by show (cs.length : Int) ≤ L; omega⟩
      | false =>
        rw [if_neg (by decide)] at q1 q2
        unfold wordD
        walk_at "ev"
        rw [if_neg (by decide +kernel)]
        walk_at "go"
        refine ⟨⟨by omega, by omega⟩, ?_⟩
        refine forL_inv (rg 0 m) PyData.int (fun pre γ => ∃ (k : Nat) (t : Sl), γ = ⟨[.fz (heldD h), .fz (.tuple [.str ("times" : String), .int m, .list (dSteps inner)]), .fz (.int W), .fz (.int L), .ow true (dE (a, as)), .ow true (dE (powE (a, as) k)), t], [], 0⟩ ∧ (∀ j, j < k → Bw W L (powE (a, as) j)) ∧ (k = pre.length ∨ (k ≤ pre.length ∧ ¬ Bw W L (powE (a, as) k)))) (fun pre x post γ N hl ht hP hN => ?_) (fun γ ht hP => ?_) _ rfl ⟨0, .jk, rfl, (fun j z => (nomatch z)), .inl rfl⟩
        · obtain ⟨k, t, rfl, p1, p2⟩ := hP
          have pe := pow_eff ee k
          have pl := pow_lst (e := (a, as)) k
          have stay : ¬ Bw W L (powE (a, as) k) → N ⟨[.fz (heldD h), .fz (.tuple [.str ("times" : String), .int m, .list (dSteps inner)]), .fz (.int W), .fz (.int L), .ow true (dE (a, as)), .ow true (dE (powE (a, as) k)), .fz (.int x)], [], 0⟩ := fun z => hN _ rfl ⟨k, _, rfl, p1, .inr ⟨by rw [List.length_append, List.length_singleton]; rcases p2 with p2 | p2 <;> omega, z⟩⟩
          have go1 : Bw W L (powE (a, as) k) → N ⟨[.fz (heldD h), .fz (.tuple [.str ("times" : String), .int m, .list (dSteps inner)]), .fz (.int W), .fz (.int L), .ow true (dE (a, as)), .ow true (dE (joinE (powE (a, as) k) (a, as))), .fz (.int x)], [], 0⟩ := fun z => hN _ rfl ⟨k + 1, _, rfl, (fun j hj => by
            rcases Nat.lt_or_ge j k with g | g
            · exact p1 j g
            · rw [show j = k by omega]
              exact z), .inl (by rw [List.length_append, List.length_singleton]; rcases p2 with p2 | p2
                                 · omega
                                 · exact absurd z p2.2)⟩
          obtain ⟨⟨c, cs⟩, ec⟩ : ∃ e, powE (a, as) k = e := ⟨_, rfl⟩
          rw [ec] at pe pl stay go1 ⊢
          walk_at "ev"
          unfold kb__law_ps_step_1
          walk_at "ev"
          have pl : leastE c cs = (c, cs) := pl
          refine iteB (fun z => iteB (fun z2 => ?_) (fun z2 => ?_)) (fun z => ?_)
          · have z := of_decide_eq_true z
            have z2 := of_decide_eq_true z2
            refine ⟨c, cs, a, as, rfl, pe, ee, by omega, by omega, by omega, by omega, ?_⟩
            rw [pl, el]
            exact go1 ⟨z, z2⟩
          · have z2 := of_decide_eq_false z2
            exact stay fun b => absurd b.2 z2
          · have z := of_decide_eq_false z
            exact stay fun b => absurd b.1 z
        · obtain ⟨k, t, rfl, p1, p2⟩ := hP
          rw [rg_length] at p2
          obtain ⟨⟨c, cs⟩, ec⟩ : ∃ e, powE (a, as) k = e := ⟨_, rfl⟩
          have bad : ¬ Bw W L (c, cs) → Gq .none := fun z => q2 fun i => z (by
            have := i.2 k (by rcases p2 with p2 | p2 <;> omega)
            rw [ec] at this
            exact this)
          have good : Bw W L (c, cs) → Gq (dE (c, cs)) := fun z => by
            have ek : k = m.toNat := by
              rcases p2 with p2 | p2
              · omega
              · rw [ec] at p2
                exact absurd z p2.2
            have q := q1 ⟨i, fun j hj => by
              rcases Nat.lt_or_ge j k with g | g
              · exact p1 j g
              · rw [show j = k by omega, ec]
                exact z⟩
            rw [← ek, ec] at q
            exact q
          rw [ec]
          dsimp only
          walk_at "go"
          refine iteB (fun z => ?_) (fun z => iteB (fun z2 => ?_) (fun z2 => ?_))
          · have z := of_decide_eq_true z
            exact bad fun b => absurd b.1 (by show ¬ c ≤ W; omega)
          · have z2 := of_decide_eq_true z2
            exact bad fun b => absurd b.2 (by show ¬ (cs.length : Int) ≤ L; omega)
          · have z := of_decide_eq_false z
            have z2 := of_decide_eq_false z2
            exact good ⟨by show c ≤ W; omega, by show (cs.length : Int) ≤ L; omega⟩
    · have q := q2 (by unfold inS; exact fun z => i z.1)
      walk_at "go"
      exact q
theorem val__law_ps_phrase (n : Nat) : ∀ ds G, w__law_ps_phrase (n + 1) ds G → k__law_ps_phrase n ⟨ds.map Sl.fz ++ [.jk, .jk, .jk], [], 0⟩ (edT G) := by
  rintro ds Gq ⟨ph, h, W, L, rfl, hd, hb, wf, W0, W1, L0, L1, q1, q2⟩
  rw [dSteps_map]
  unfold k__law_ps_phrase
  walk_at "ev"
  walk_at "go"
  refine forL_inv ph dStep (fun pre γ => ∃ x y, γ = ⟨[.fz (heldD h), .fz (.list (ph.map dStep)), .fz (.int W), .fz (.int L), .ow true (dE (efL h (0, []) pre)), x, y], [.fz (.list (ph.map dStep))], 0⟩ ∧ inSs W L h (0, []) pre) (fun pre x post γ N hl ht hP hN => ?_) (fun γ ht hP => ?_) _ rfl ⟨.jk, .jk, rfl, by rw [inSs_nil]; exact True.intro⟩
  · obtain ⟨b, c, rfl, hi⟩ := hP
    have mx : x ∈ ph := hl ▸ List.mem_append_right pre List.mem_cons_self
    have dx := dp_mem mx
    have wx := wf_mem wf mx
    have wp : wfSs (h.map (·.1)) pre := wf_of fun s m => wf_mem wf (hl ▸ List.mem_append_left _ m)
    obtain ⟨e1, l1⟩ := efL_eff hb wp eff0 lst0
    obtain ⟨e2, l2⟩ := efS_eff hb wx
    have bw := inSs_bw (Bw0 W0 L0) hi
    have bad : ¬ (inS W L h x ∧ Bw W L (joinE (efL h (0, []) pre) (efS h x))) → Gq .none := fun z => q2 fun i => z (by
      rw [hl, inSs_app, inSs_cons] at i
      exact ⟨i.2.1, i.2.2.1⟩)
    have fin : ∀ s, inS W L h x → Bw W L (joinE (efL h (0, []) pre) (efS h x)) → N ⟨[.fz (heldD h), .fz (.list (ph.map dStep)), .fz (.int W), .fz (.int L), .ow true (dE (joinE (efL h (0, []) pre) (efS h x))), .fz (dStep x), s], [.fz (.list (ph.map dStep))], 0⟩ := fun s z1 z2 => hN _ rfl ⟨.fz (dStep x), s, by rw [efL_app, efL, efL], by rw [inSs_app, inSs_cons, inSs_nil]; exact ⟨hi, z1, z2, True.intro⟩⟩
    unfold kb__law_ps_phrase_4
    walk_at "ev"
    have ln : ∀ e, efL h (0, []) pre = e → e.1 ≤ 100 ∧ e.2.length ≤ 100 := fun e he => by
      rw [he] at bw
      have := bw.1
      have := bw.2
      exact ⟨by omega, by omega⟩
    refine ⟨x, h, W, L, rfl, by omega, hb, wx, W0, W1, L0, L1, fun ix => ?_, fun ix => ?_⟩
    · have xb : (efS h x).1 ≤ 100 ∧ (efS h x).2.length ≤ 100 := by
        cases x with
        | nm y =>
          unfold wfS at wx
          obtain ⟨e, he⟩ := look_of wx
          have b := hb _ (look_mem he)
          unfold efS
          rw [he]
          have b1 : e.1 ≤ 60 := b.2.2.1
          have b2 : e.2.length ≤ 60 := b.2.2.2
          exact ⟨by show e.1 ≤ 100; omega, by show e.2.length ≤ 100; omega⟩
        | long u k inner =>
          have b := inS_bw ix
          have := b.1
          have := b.2
          exact ⟨by omega, by omega⟩
      obtain ⟨⟨a, as⟩, ea⟩ : ∃ e, efL h (0, []) pre = e := ⟨_, rfl⟩
      obtain ⟨⟨c, cs⟩, ec⟩ : ∃ e, efS h x = e := ⟨_, rfl⟩
      obtain ⟨n1, n2⟩ := ln _ ea
      rw [ec] at xb e2 l2
      rw [ea] at e1 l1
      rw [ea, ec] at bad fin
      rw [ea]
      rw [ec]
      have k1 : leastE a as = (a, as) := l1
      have k2 : leastE c cs = (c, cs) := l2
      walk_at "go"
      walk_at "go"
      have n1 : a ≤ 100 := n1
      have n2 : as.length ≤ 100 := n2
      have x1 : c ≤ 100 := xb.1
      have x2 : cs.length ≤ 100 := xb.2
      refine ⟨a, as, c, cs, rfl, e1, e2, by omega, by omega, by omega, by omega, ?_⟩
      rw [k1, k2]
      obtain ⟨⟨g, gs⟩, eg⟩ : ∃ e, joinE (a, as) (c, cs) = e := ⟨_, rfl⟩
      rw [eg] at bad fin ⊢
      walk_at "go"
      refine iteB (fun z => ?_) (fun z => iteB (fun z2 => ?_) (fun z2 => ?_))
      · have z := of_decide_eq_true z
        exact bad fun b => absurd b.2.1 (by show ¬ g ≤ W; omega)
      · have z2 := of_decide_eq_true z2
        exact bad fun b => absurd b.2.2 (by show ¬ (gs.length : Int) ≤ L; omega)
      · have z := of_decide_eq_false z
        have z2 := of_decide_eq_false z2
        exact fin _ ix ⟨by show g ≤ W; omega, by show (gs.length : Int) ≤ L; omega⟩
    · have q := bad fun z => ix z.1
      walk_at "go"
      exact q
  · obtain ⟨x, y, rfl, hi⟩ := hP
    have q := q1 hi
    walk_at "go"
    exact q
theorem group__law_ps_step (p : Prog K mg) : ∀ n : Nat, FnG P w K mg base CX0 (2 * n + 5) p.f__law_ps_step p.fd__law_ps_step ["_law_held", "_law_step", "_law_wide", "_law_long_here"] (spS (w__law_ps_step n)) ∧ FnG P w K mg base CX0 (2 * n + 6) p.f__law_ps_phrase p.fd__law_ps_phrase ["_law_held", "_law_steps_here", "_law_wide", "_law_long_here"] (spT (w__law_ps_phrase n)) := by
  intro n
  induction n with
  | zero => exact ⟨fn_none (noS no__law_ps_step), fn_none (noT no__law_ps_phrase)⟩
  | succ n ih =>
    have ih__law_ps_step := ih.1
    have ih__law_ps_phrase := ih.2
    have h__law_ps_step : FnG P w K mg base CX0 (2 * (n + 1) + 5) p.f__law_ps_step p.fd__law_ps_step ["_law_held", "_law_step", "_law_wide", "_law_long_here"] (spS (w__law_ps_step (n + 1))) := okSh p.d__law_ps_step.F sc__law_ps_step (by decide) (ar__law_ps_step (n + 1)) (fun cdv A outer s H E hg hr => ⟨_, (pss_cons (ps_if (pt_val (pe_callB call_isi (by rfl) p.blt.isinstance (by decide +kernel) (pa_cons (pv 1) (pa_cons (pe_bltn (v := .ty "str") (by rfl) p.blt.str (by decide +kernel) rfl) pa_nil))))
      (pss_one (ps_ret (pe_dget (Nat.lt_of_le_of_lt (Nat.add_le_add_left (show 1 ≤ 64 by decide) _) hr.units) (pv 0) (pv 1) (fun _ _ => rfl)))) pss_nil)
      (pss_cons (ps_set (i := 4) sc__law_ps_step.nd rfl (Or.inl rfl) (pe_callG (ih__law_ps_phrase.mono (by omega)) hg hr (by rfl) p.d__law_ps_phrase.gl p.d__law_ps_phrase.kp p.d__law_ps_phrase.bd pass0 (pa_cons (pv 0) (pa_cons (pe_ix ix_tup (pv 1) pe_int (fun _ _ => rfl)) (pa_cons (pv 2) (pa_cons (pv 3) pa_nil))))))
      (pss_cons (ps_if (pt_cmpR op_isN (pv 4) pe_non (nomark _))
      (pss_one (ps_ret pe_non)) pss_nil)
      (pss_cons (ps_set (i := 5) sc__law_ps_step.nd rfl (Or.inl rfl) (pe_tup (pa_cons pe_int (pa_cons (pe_lst pa_nil) pa_nil))))
      (pss_cons (ps_if (pt_cmpR op_eq (pe_ix ix_tup (pv 1) pe_int (fun _ _ => rfl)) pe_str (nomark _))
      (pss_one (ps_set (i := 5) sc__law_ps_step.nd rfl (Or.inl rfl) (pe_callG ((ok__law_ps_beneath p).mono (by omega)) hg hr (by rfl) p.d__law_ps_beneath.gl p.d__law_ps_beneath.kp p.d__law_ps_beneath.bd pass0 (pa_cons (pv 4) (pa_cons (pe_ix ix_tup (pv 1) pe_int (fun _ _ => rfl)) pa_nil))))) pss_nil)
      (pss_cons (ps_for PassesOwn.never rfl (pi_range1 (by rfl) p.blt.range (pa_cons (pe_ix ix_tup (pv 1) pe_int (fun _ _ => rfl)) pa_nil)) (pg_name (i := 6) sc__law_ps_step.nd rfl (Or.inl rfl))
      (pss_one (ps_if (PW.pt (pw_and (pt_cmpR op_eq (pe_ix ix_tup (pv 1) pe_int (fun _ _ => rfl)) pe_str (nomark _)) (pw_and (pt_cmpR op_le (pe_ix ix_tup (pv 5) pe_int (fun _ _ => rfl)) (pv 2) (nomark _)) (pw_and1 (pt_cmpR op_le (pe_callB call_len_seq (by rfl) p.blt.len PySem.boot_len (pa_cons (pe_ix ix_tup (pv 5) pe_int (fun _ _ => rfl)) pa_nil)) (pv 3) (nomark _))))))
      (pss_one (ps_set (i := 5) sc__law_ps_step.nd rfl (Or.inl rfl) (pe_callG ((ok__law_ps_both p).mono (by omega)) hg hr (by rfl) p.d__law_ps_both.gl p.d__law_ps_both.kp p.d__law_ps_both.bd pass0 (pa_cons (pv 5) (pa_cons (pv 4) pa_nil))))) pss_nil)))
      (pss_one (ps_ret (pe_ifExp (PW.pt (pw_or (pt_cmpR op_gt (pe_ix ix_tup (pv 5) pe_int (fun _ _ => rfl)) (pv 2) (nomark _)) (pw_or1 (pt_cmpR op_gt (pe_callB call_len_seq (by rfl) p.blt.len PySem.boot_len (pa_cons (pe_ix ix_tup (pv 5) pe_int (fun _ _ => rfl)) pa_nil)) (pv 3) (nomark _))))) pe_non (pv 5)))))))))),
    fun C xc => (so_seq (so_ifS (so_test (so_is kitT_str (so_var (i := 1))))
      (so_ret (so_dget (i := 0) (so_var (i := 1)))) so_next)
      (so_seq (so_asg (so_callT (so_cons (so_var (i := 0)) (so_cons (so_ixT (so_var (i := 1)) (so_c (sca_int _))) (so_cons (so_var (i := 2)) (so_cons (so_var (i := 3)) so_nil))))) (so_gname (i := 4)))
      (so_seq (so_ifS (so_test (so_op sr_isN (so_var (i := 4)) (so_c sca_non)))
      (so_ret (so_c sca_non)) so_next)
      (so_seq (so_asg (so_lit_tup (so_lits_cons (so_lit_c (sca_int _) rfl) (so_lits_cons (so_lit_lst so_lits_nil) so_lits_nil))) (so_gname (i := 5)))
      (so_seq (so_ifS (so_test (so_op sr_eq (so_ixT (so_var (i := 1)) (so_c (sca_int _))) (so_c (sca_str _))))
      (so_asg (so_callT (so_cons (so_var (i := 4)) (so_cons (so_ixT (so_var (i := 1)) (so_c (sca_int _))) so_nil))) (so_gname (i := 5))) so_next)
      (so_seq (so_for (so_rng1 (so_ixT (so_var (i := 1)) (so_c (sca_int _)))) (so_gname (i := 6))
      (so_ifS (so_tand (so_test (so_op sr_eq (so_ixT (so_var (i := 1)) (so_c (sca_int _))) (so_c (sca_str _)))) (so_tand (so_test (so_op sr_B (so_ixT (so_var (i := 5)) (so_c (sca_int _))) (so_var (i := 2)))) (so_test (so_op sr_B (so_f sc_len (so_cons (so_ixT (so_var (i := 5)) (so_c (sca_int _))) so_nil)) (so_var (i := 3))))))
      (so_asg (so_callT (so_cons (so_var (i := 5)) (so_cons (so_var (i := 4)) so_nil))) (so_gname (i := 5))) so_next))
      (so_ret (so_if (so_tor (so_test (so_op sr_B (so_ixT (so_var (i := 5)) (so_c (sca_int _))) (so_var (i := 2)))) (so_test (so_op sr_B (so_f sc_len (so_cons (so_ixT (so_var (i := 5)) (so_c (sca_int _))) so_nil)) (so_var (i := 3))))) (so_c sca_non) (so_frz (i := 5))))))))))⟩) (val__law_ps_step n)
    have h__law_ps_phrase : FnG P w K mg base CX0 (2 * (n + 1) + 6) p.f__law_ps_phrase p.fd__law_ps_phrase ["_law_held", "_law_steps_here", "_law_wide", "_law_long_here"] (spT (w__law_ps_phrase (n + 1))) := okT p.d__law_ps_phrase.F sc__law_ps_phrase (by decide) (ar__law_ps_phrase (n + 1)) (fun cdv A outer s H E hg hr => ⟨_, (pss_cons (ps_set (i := 4) sc__law_ps_phrase.nd rfl (Or.inl rfl) (pe_tup (pa_cons pe_int (pa_cons (pe_lst pa_nil) pa_nil))))
      (pss_cons (ps_for PassesOwn.never rfl (pi_list (pv 1)) (pg_name (i := 5) sc__law_ps_phrase.nd rfl (Or.inl rfl))
      (pss_cons (ps_set (i := 6) sc__law_ps_phrase.nd rfl (Or.inl rfl) (pe_callG (h__law_ps_step.mono (by omega)) hg hr (by rfl) p.d__law_ps_step.gl p.d__law_ps_step.kp p.d__law_ps_step.bd pass0 (pa_cons (pv 0) (pa_cons (pv 5) (pa_cons (pv 2) (pa_cons (pv 3) pa_nil))))))
      (pss_cons (ps_if (pt_cmpR op_isN (pv 6) pe_non (nomark _))
      (pss_one (ps_ret pe_non)) pss_nil)
      (pss_cons (ps_set (i := 4) sc__law_ps_phrase.nd rfl (Or.inl rfl) (pe_callG ((ok__law_ps_both p).mono (by omega)) hg hr (by rfl) p.d__law_ps_both.gl p.d__law_ps_both.kp p.d__law_ps_both.bd pass0 (pa_cons (pv 4) (pa_cons (pv 6) pa_nil))))
      (pss_one (ps_if (PW.pt (pw_or (pt_cmpR op_gt (pe_ix ix_tup (pv 4) pe_int (fun _ _ => rfl)) (pv 2) (nomark _)) (pw_or1 (pt_cmpR op_gt (pe_callB call_len_seq (by rfl) p.blt.len PySem.boot_len (pa_cons (pe_ix ix_tup (pv 4) pe_int (fun _ _ => rfl)) pa_nil)) (pv 3) (nomark _)))))
      (pss_one (ps_ret pe_non)) pss_nil))))))
      (pss_one (ps_ret (pv 4))))),
    fun C xc => (so_seq (so_asg (so_lit_tup (so_lits_cons (so_lit_c (sca_int _) rfl) (so_lits_cons (so_lit_lst so_lits_nil) so_lits_nil))) (so_gname (i := 4)))
      (so_seq (so_for (so_itL (so_frz (i := 1))) (so_gname (i := 5))
      (so_seq (so_asg (so_callS (so_cons (so_frz (i := 0)) (so_cons (so_frz (i := 5)) (so_cons (so_var (i := 2)) (so_cons (so_var (i := 3)) so_nil))))) (so_gname (i := 6)))
      (so_seq (so_ifS (so_test (so_op sr_isN (so_var (i := 6)) (so_c sca_non)))
      (so_ret (so_c sca_non)) so_next)
      (so_seq (so_asg (so_callT (so_cons (so_var (i := 4)) (so_cons (so_var (i := 6)) so_nil))) (so_gname (i := 4)))
      (so_ifS (so_tor (so_test (so_op sr_B (so_ixT (so_var (i := 4)) (so_c (sca_int _))) (so_var (i := 2)))) (so_test (so_op sr_B (so_f sc_len (so_cons (so_ixT (so_var (i := 4)) (so_c (sca_int _))) so_nil)) (so_var (i := 3)))))
      (so_ret (so_c sca_non)) so_next)))))
      (so_ret (so_mov (i := 4)))))⟩) (val__law_ps_phrase n)
    exact ⟨h__law_ps_step, h__law_ps_phrase⟩
theorem ok__law_ps_phrase (p : Prog K mg) (n : Nat) : FnG P w K mg base CX0 (2 * n + 6) p.f__law_ps_phrase p.fd__law_ps_phrase ["_law_held", "_law_steps_here", "_law_wide", "_law_long_here"] (spT (w__law_ps_phrase n)) := (group__law_ps_step p n).2
def w__law_ps_rows : Tw := fun ds Q => ∃ m W L st nest : Int, ds = [.int m, .int W, .int L, .int st, .int nest] ∧ 0 ≤ m ∧ m ≤ 41 ∧ 3 ≤ W ∧ W ≤ L ∧ L ≤ 60 ∧ 0 ≤ st ∧ st ≤ 30 ∧ 0 ≤ nest ∧ nest ≤ 4 ∧ ∀ rs : Rows, (rs.length : Int) = m → okR W L st.toNat nest.toNat [] rs → Q (dRows rs)
theorem ar__law_ps_rows : ∀ ds G, w__law_ps_rows ds G → ds.length + 1 = 6 := by
  rintro ds G ⟨_, _, _, _, _, rfl, _⟩
  rfl
def kr__law_ps_rows_1 : KS := (kIfS (kTest (kOp (vIsN true) (kVar 14) (kC .none)))
  (kPar 11 12 (kCons (kFrz 14) (kCons (kFrz 13) kNil)))
  kNext)
def kr__law_ps_rows_2 : KS := (kSeq (kAsg (kCallT (w__law_ps_phrase 8) 4 (kCons (kVar 8) (kCons (kVar 13) (kCons (kVar 2) (kCons (kVar 3) kNil))))) (kgName 14))
  kr__law_ps_rows_1)
def kr__law_ps_rows_3 : KS := (kDrop (kApp (kVar 7) (kMk false 2 (kCons (kIx true (kVar 6) (kVar 9)) (kCons (kMov 12) kNil)))))
def kr__law_ps_rows_4 : KS := (kSeq (kDPut 8 (kFz (kCallT w__law_ps_least 2 (kCons (kIx false (kVar 11) (kC (.int 0))) (kCons (kIx false (kVar 11) (kC (.int 1))) kNil)))) (kIx true (kVar 6) (kVar 9)))
  kr__law_ps_rows_3)
def kr__law_ps_rows_5 : KS := (kSeq (kIfS (kTAnd (kTest (kOp (vB fun i j => decide (j < i)) (kVar 9) (kC (.int 0)))) (kTest (kOp (vEq false) (kCallP 1 w__law_coin 1 (kCons (kVar 0) (kCons (kC (.int 2)) kNil))) (kC (.int 0)))))
  (kSeq (kAsg (kCallP (c__law_ps_steps 6) (w__law_ps_steps 6) 4 (kCons (kVar 0) (kCons (kSl (kVar 6) kNo (kPart (kVar 9))) (kCons (kVar 4) (kCons (kVar 5) (kCons (kC (.int 3)) kNil)))))) (kgName 13))
  kr__law_ps_rows_2)
  kNext)
  kr__law_ps_rows_4)
def kr__law_ps_rows_6 : KS := (kSeq (kAsg (kFrz 11) (kgName 12))
  kr__law_ps_rows_5)
def kr__law_ps_rows_7 : KS := (kSeq (kAsg (kCallP 10000 w__law_ps_drawn 2 (kCons (kVar 0) (kCons (kVar 10) (kCons (kIf (kTest (kOp (vB fun i j => decide (i < j)) (kVar 10) (kVar 3))) (kOp (vI noC fun i j => i + j) (kVar 10) (kC (.int 1))) (kVar 3)) kNil)))) (kgName 11))
  kr__law_ps_rows_6)
def kb__law_ps_rows_8 : KS := (kSeq (kAsg (kIf (kTest (kOp (vEq false) (kCallP 1 w__law_coin 1 (kCons (kVar 0) (kCons (kC (.int 4)) kNil))) (kC (.int 0)))) (kVar 2) (kF 2 (v2I fun i j => if j < i then j else i) (kCons (kC (.int 3)) (kCons (kVar 2) kNil)))) (kgName 10))
  kr__law_ps_rows_7)
def kr__law_ps_rows_9 : KS := (kRet (kFrz 7))
def kr__law_ps_rows_10 : KS := (kSeq (kFor (kRng1 (kVar 1)) (kgName 9) kb__law_ps_rows_8)
  kr__law_ps_rows_9)
def k__law_ps_rows : KS := (kSeq (kPar3 6 7 8 (kCons (kCallP 500 w__law_ps_labels 1 (kCons (kVar 0) (kCons (kVar 1) kNil))) (kCons (kLit (.list [])) (kCons kDNew kNil))))
  kr__law_ps_rows_10)
local macro_rules | `(tactic| walk_at "go") => `(tactic| ((first | unfold kr__law_ps_rows_1 | unfold kr__law_ps_rows_2 | unfold kr__law_ps_rows_3 | unfold kr__law_ps_rows_4 | unfold kr__law_ps_rows_5 | unfold kr__law_ps_rows_6 | unfold kr__law_ps_rows_7 | unfold kr__law_ps_rows_9 | unfold kr__law_ps_rows_10); walk_at "ev"))
theorem val__law_ps_rows : ∀ ds G, w__law_ps_rows ds G → k__law_ps_rows ⟨.pu :: (ds.map Sl.fz ++ [.jk, .jk, .jk, .jk, .jk, .jk, .jk, .jk, .jk]), [], 1000000000000⟩ (edPS G) := by
  rintro ds Gq ⟨m, W, L, st, nest, rfl, m0, m1, W0, W1, L1, st0, st1, ne0, ne1, q⟩
  unfold k__law_ps_rows
  have cc : c__law_ps_steps 6 = 3041689651 := by decide +kernel
  walk_at "ev"
  refine ⟨⟨by decide, by decide⟩, m, rfl, m0, m1, fun xs hx => ?_⟩
  obtain ⟨xl, xn, xo⟩ := hx
  have cg : ∀ x ∈ xs, Lt x := fun x m => (xo x m).1
  walk_at "ev"
  walk_at "go"
  refine ⟨⟨by omega, by omega⟩, ?_⟩
  refine forL_inv (rg 0 m) PyData.int (fun pre γ => ∃ (b : Bool) (rs : Rows) (s9 s10 s11 s12 s13 s14 : Sl) (k : Int), γ = ⟨[.pu, .fz (.int m), .fz (.int W), .fz (.int L), .fz (.int st), .fz (.int nest), .ow true (dS xs), .ow b (dRows rs), .dc (heldM (heldR [] rs)), s9, s10, s11, s12, s13, s14], [], k⟩ ∧ rs.length = pre.length ∧ rs.map (·.1) = xs.take pre.length ∧ okR W L st.toNat nest.toNat [] rs ∧ (41 - pre.length) * 4000000000 ≤ k) (fun pre x post γ N hl ht hP hN => ?_) (fun γ ht hP => ?_) _ rfl ⟨true, [], .jk, .jk, .jk, .jk, .jk, .jk, _, rfl, rfl, by simp, by unfold okR; exact True.intro, by decide⟩
  · obtain ⟨b, rs, s9, s10, s11, s12, s13, s14, k, rfl, r1, r2, r3, r4⟩ := hP
    have hlen := congrArg List.length hl
    rw [rg_length, List.length_append, List.length_cons] at hlen
    have hx : x = pre.length := by
      have := rg_getD (a := 0) (b := m) (k := pre.length) (by omega)
      rw [hl] at this
      simp at this
      omega
    have hb := heldR_bd (by omega) (by omega) (by omega) L1 HB_nil r3
    obtain ⟨h, hh⟩ : ∃ h, heldR [] rs = h := ⟨_, rfl⟩
    have hn : h.map (·.1) = xs.take pre.length := by rw [← hh, heldR_names, r2]; rfl
    rw [hh] at hb
    walk_at "ev"
    unfold kb__law_ps_rows_8
    walk_at "ev"
    refine ⟨⟨by decide, by omega⟩, 4, rfl, by decide, by decide, fun g g0 g1 => ?_⟩
    walk_at "ev"
    rw [hh]
    have last : ∀ (D : Int) (e : Int × List Int) (mm : Mng) (s13 s14 : Sl) (k2 : Int), okMg W L st.toNat nest.toNat h mm → efM h mm = leastE e.1 e.2 → Eff e → e.2.length ≤ 100 → (41 - ((pre.length : Int) + 1)) * 4000000000 ≤ k2 → kr__law_ps_rows_4 ⟨[.pu, .fz (.int m), .fz (.int W), .fz (.int L), .fz (.int st), .fz (.int nest), .ow true (dS xs), .ow b (dRows rs), .dc (heldM h), .fz (.int x), .fz (.int D), .fz (dE e), .fz (dM mm), s13, s14], [], k2⟩ ⟨fun γ2 => γ2.tm = [] ∧ N γ2, (edPS Gq).rt, fun γ2 => γ2.tm = [] ∧ kr__law_ps_rows_9 ⟨γ2.sl, [], γ2.n⟩ (edPS Gq), fun γ2 => γ2.tm = [] ∧ N γ2⟩ := by
      intro D e mm s13 s14 k2 o1 o2 o3 o4 o5
      obtain ⟨n, gs⟩ := e
      walk_at "go"
      refine ⟨n, gs, rfl, o3.le, by show gs.length ≤ _; have : gs.length ≤ 100 := o4; omega, ?_⟩
      have o2 : efM h mm = leastE n gs := o2
      obtain ⟨⟨c, cs⟩, ec⟩ : ∃ e, leastE n gs = e := ⟨_, rfl⟩
      rw [ec] at o2 ⊢
      have hl2 : h.length < 10000000 := by
        have := congrArg List.length hn
        rw [List.length_map, List.length_take] at this
        omega
      walk_at "ev"
      refine ixD_strs (by omega) (by omega) fun s ms _ es => ?_
      rw [show x.toNat = pre.length by omega] at es
      have nb := not_before xn es
      have so := xo s ms
      rw [← hn] at nb
      have fin : ∀ s13 s14 k2 b2, (41 - ((pre.length : Int) + 1)) * 4000000000 ≤ k2 → ∀ s12, N ⟨[.pu, .fz (.int m), .fz (.int W), .fz (.int L), .fz (.int st), .fz (.int nest), .ow true (dS xs), .ow b2 (.list (rs.map dRow ++ [dRow (s, mm)])), .dc (heldM h ++ [(Sum.inr s, dE (c, cs))]), .fz (.int x), .fz (.int D), .fz (dE (n, gs)), s12, s13, s14], [], k2⟩ := fun s13 s14 k2 b2 hk s12 => hN _ rfl ⟨b2, rs ++ [(s, mm)], .fz (.int x), .fz (.int D), .fz (dE (n, gs)), s12, s13, s14, k2, by rw [heldR_snoc, hh, o2, heldM_snoc]; simp, by simp [r1], by
        rw [List.map_append, r2, List.length_append, List.length_singleton, List.take_add_one, es]
        rfl, okR_snoc r3 ⟨so.1, so.2.1, so.2.2, by rw [hh]; exact nb⟩ (by rw [hh]; exact o1), by rw [List.length_append, List.length_singleton]; exact hk⟩
      walk_at "ev"
      refine ⟨hl2, ?_⟩
      rw [putM_new (valM_heldN nb)]
      walk_at "go"
      refine ixD_strs (by omega) (by omega) fun s2 _ _ es2 => ?_
      rw [show x.toNat = pre.length by omega, es] at es2
      cases es2
      have rl : (rs.map dRow).length < 10000000 := by rw [List.length_map]; omega
      walk_at "ev"
      rw [show nolist (dM mm) = false by cases mm <;> rfl]
      walk_at "ev"
      exact ⟨by omega, fin _ _ _ _ o5 _⟩
    have main : ∀ D : Int, 0 ≤ D → D ≤ W → kr__law_ps_rows_7 ⟨[.pu, .fz (.int m), .fz (.int W), .fz (.int L), .fz (.int st), .fz (.int nest), .ow true (dS xs), .ow b (dRows rs), .dc (heldM h), .fz (.int x), .fz (.int D), s11, s12, s13, s14], [], k - 1⟩ ⟨fun γ2 => γ2.tm = [] ∧ N γ2, (edPS Gq).rt, fun γ2 => γ2.tm = [] ∧ kr__law_ps_rows_9 ⟨γ2.sl, [], γ2.n⟩ (edPS Gq), fun γ2 => γ2.tm = [] ∧ N γ2⟩ := by
      intro D D0 D1
      have rest : ∀ n gs, Eff (n, gs) → n ≤ W → (gs.length : Int) ≤ L → kr__law_ps_rows_6 ⟨[.pu, .fz (.int m), .fz (.int W), .fz (.int L), .fz (.int st), .fz (.int nest), .ow true (dS xs), .ow b (dRows rs), .dc (heldM h), .fz (.int x), .fz (.int D), own (dE (n, gs)), s12, s13, s14], [], k - 1 - 10000⟩ ⟨fun γ2 => γ2.tm = [] ∧ N γ2, (edPS Gq).rt, fun γ2 => γ2.tm = [] ∧ kr__law_ps_rows_9 ⟨γ2.sl, [], γ2.n⟩ (edPS Gq), fun γ2 => γ2.tm = [] ∧ N γ2⟩ := by
        intro n gs f1 f2 f3
        have o0 : okMg W L st.toNat nest.toNat h (.fx (n, gs)) := ⟨f1, f2, f3⟩
        have fall : ∀ k2 s13 s14, (41 - ((pre.length : Int) + 1)) * 4000000000 ≤ k2 → kr__law_ps_rows_4 ⟨[.pu, .fz (.int m), .fz (.int W), .fz (.int L), .fz (.int st), .fz (.int nest), .ow true (dS xs), .ow b (dRows rs), .dc (heldM h), .fz (.int x), .fz (.int D), .fz (dE (n, gs)), .fz (dE (n, gs)), s13, s14], [], k2⟩ ⟨fun γ2 => γ2.tm = [] ∧ N γ2, (edPS Gq).rt, fun γ2 => γ2.tm = [] ∧ kr__law_ps_rows_9 ⟨γ2.sl, [], γ2.n⟩ (edPS Gq), fun γ2 => γ2.tm = [] ∧ N γ2⟩ := fun k2 s13 s14 z => last D (n, gs) (.fx (n, gs)) s13 s14 k2 o0 rfl f1 (by show gs.length ≤ 100; omega) z
        walk_at "ev"
        walk_at "go"
        walk_at "go"
        refine iteB (fun z1 => ?_) (fun _ => fall _ _ _ (by omega))
        refine ⟨⟨by decide, by omega⟩, 2, rfl, by decide, by decide, fun g g0 g1 => ?_⟩
        walk_at "ev"
        refine iteB (fun z2 => ?_) (fun _ => fall _ _ _ (by omega))
        rw [nolists_strs, if_pos rfl]
        have ct : G.cutD (xs.map PyData.str) none (some x) = (xs.take pre.length).map PyData.str := by
          rw [hx, cutD_to, List.map_take]
        walk_at "ev"
        rw [ct, cc]
        refine ⟨⟨by decide, by omega⟩, xs.take pre.length, st, nest, 3, rfl, ne0, by omega, st0, st1, by decide, by decide, by rw [List.length_take]; omega, (fun y m => cg y (List.take_subset _ _ m)), fun ph dr => ?_⟩
        walk_at "ev"
        walk_at "go"
        refine ⟨ph, h, W, L, rfl, by have := dr.2.1; omega, hb, by rw [hn]; exact dr.1, by omega, by omega, by omega, by omega, fun ii => ?_, fun _ => ?_⟩
        · rw [← hn] at dr
          obtain ⟨e1, e2⟩ := efL_eff hb dr.1 eff0 lst0
          have bw := inSs_bw (Bw0 (by omega) (by omega)) ii
          obtain ⟨⟨c, cs⟩, ec⟩ : ∃ e, efL h (0, []) ph = e := ⟨_, rfl⟩
          have o3 : okMg W L st.toNat nest.toNat h (.ph ph) := ⟨dr, ii⟩
          have o4 : efM h (.ph ph) = leastE c cs := by
            show efL h (0, []) ph = _
            rw [ec] at e2 ⊢
            exact e2.symm
          rw [ec] at e1 bw ⊢
          have lc : (cs.length : Int) ≤ L := bw.2
          walk_at "go"
          exact last D (c, cs) (.ph ph) _ _ _ o3 o4 e1 (by show cs.length ≤ 100; omega) (by omega)
        · walk_at "go"
          exact fall _ _ _ (by omega)
      walk_at "go"
      refine iteB (fun z => ?_) (fun z => ?_)
      · have z := of_decide_eq_true z
        refine ⟨⟨by decide, by omega⟩, D, D + 1, rfl, D0, by omega, by omega, by omega, fun n gs f1 f2 f3 => rest n gs f1 (by omega) (by omega)⟩
      · refine ⟨⟨by decide, by omega⟩, D, L, rfl, D0, by omega, by omega, by omega, fun n gs f1 f2 f3 => rest n gs f1 (by omega) (by omega)⟩
    refine iteB (fun z => main W (by omega) (by omega)) (fun z => main _ ?_ ?_)
    · split <;> omega
    · split <;> omega
  · obtain ⟨b, rs, s9, s10, s11, s12, s13, s14, k, rfl, r1, r2, r3, r4⟩ := hP
    rw [rg_length] at r1 r4
    walk_at "go"
    refine ⟨?_, q rs (by omega) r3⟩
    show 0 ≤ k
    omega
theorem ok__law_ps_rows (p : Prog K mg) : FnG P w K mg base CX0 23 p.f__law_ps_rows p.fd__law_ps_rows ["_law_sack", "_law_many", "_law_wide", "_law_long_here", "_law_steps_most", "_law_nest"] (spPS 1000000000000 w__law_ps_rows) :=
  okPSh p.d__law_ps_rows.F sc__law_ps_rows (by decide) ar__law_ps_rows (by decide) (fun cdv A outer s H E hg hr => ⟨_, (pss_cons (ps_par3 (i := 6) (j := 7) (l := 8) rfl sc__law_ps_rows.nd rfl rfl rfl (by decide) (by decide) (by decide) rfl rfl rfl (pa_cons (pe_callG ((ok__law_ps_labels p).mono (by decide)) hg hr (by rfl) p.d__law_ps_labels.gl p.d__law_ps_labels.kp p.d__law_ps_labels.bd pass0 (pa_cons (pv 0) (pa_cons (pv 1) pa_nil))) (pa_cons (pe_lst pa_nil) (pa_cons pe_dnewK pa_nil))) (by rfl))
      (pss_cons (ps_for PassesOwn.never rfl (pi_range1 (by rfl) p.blt.range (pa_cons (pv 1) pa_nil)) (pg_name (i := 9) sc__law_ps_rows.nd rfl (Or.inl rfl))
      (pss_cons (ps_set (i := 10) sc__law_ps_rows.nd rfl (Or.inl rfl) (pe_ifExp (pt_cmpR op_eq (pe_callG ((ok__law_coin p).mono (by decide)) hg hr (by rfl) p.d__law_coin.gl p.d__law_coin.kp p.d__law_coin.bd pass0 (pa_cons (pv 0) (pa_cons pe_int pa_nil))) pe_int (nomark _)) (pv 2) (pe_callB (call_min2 rfl) (by rfl) p.blt.min (by decide +kernel) (pa_cons pe_int (pa_cons (pv 2) pa_nil)))))
      (pss_cons (ps_set (i := 11) sc__law_ps_rows.nd rfl (Or.inl rfl) (pe_callG ((ok__law_ps_drawn p).mono (by decide)) hg hr (by rfl) p.d__law_ps_drawn.gl p.d__law_ps_drawn.kp p.d__law_ps_drawn.bd pass0 (pa_cons (pv 0) (pa_cons (pv 10) (pa_cons (pe_ifExp (pt_cmpR op_lt (pv 10) (pv 3) (nomark _)) (pe_op op_add (pv 10) pe_int) (pv 3)) pa_nil)))))
      (pss_cons (ps_set (i := 12) sc__law_ps_rows.nd rfl (Or.inl rfl) (pv 11))
      (pss_cons (ps_if (PW.pt (pw_and (pt_cmpR op_gt (pv 9) pe_int (nomark _)) (pw_and1 (pt_cmpR op_eq (pe_callG ((ok__law_coin p).mono (by decide)) hg hr (by rfl) p.d__law_coin.gl p.d__law_coin.kp p.d__law_coin.bd pass0 (pa_cons (pv 0) (pa_cons pe_int pa_nil))) pe_int (nomark _)))))
      (pss_cons (ps_set (i := 13) sc__law_ps_rows.nd rfl (Or.inl rfl) (pe_callG ((ok__law_ps_steps p 6).mono (by decide)) hg hr (by rfl) p.d__law_ps_steps.gl p.d__law_ps_steps.kp p.d__law_ps_steps.bd pass0 (pa_cons (pv 0) (pa_cons (pe_slice sl_list (pv 6) po_none (po_some (pv 9))) (pa_cons (pv 4) (pa_cons (pv 5) (pa_cons pe_int pa_nil)))))))
      (pss_cons (ps_set (i := 14) sc__law_ps_rows.nd rfl (Or.inl rfl) (pe_callG ((ok__law_ps_phrase p 8).mono (by decide)) hg hr (by rfl) p.d__law_ps_phrase.gl p.d__law_ps_phrase.kp p.d__law_ps_phrase.bd pass0 (pa_cons (pv 8) (pa_cons (pv 13) (pa_cons (pv 2) (pa_cons (pv 3) pa_nil))))))
      (pss_one (ps_if (pt_cmpR op_notN (pv 14) pe_non (nomark _))
      (pss_one (ps_par (i := 11) (j := 12) rfl sc__law_ps_rows.nd rfl rfl (by decide) rfl rfl (pa_cons (pv 14) (pa_cons (pv 13) pa_nil)) (by rfl))) pss_nil)))) pss_nil)
      (pss_cons (ps_dput (Nat.lt_of_le_of_lt (Nat.add_le_add_left (show 1 ≤ 64 by decide) _) hr.units) (pv 8) (pe_ix ix_list (pv 6) (pv 9) (fun _ _ => rfl)) (pe_callG ((ok__law_ps_least p).mono (by decide)) hg hr (by rfl) p.d__law_ps_least.gl p.d__law_ps_least.kp p.d__law_ps_least.bd pass0 (pa_cons (pe_ix ix_tup (pv 11) pe_int (fun _ _ => rfl)) (pa_cons (pe_ix ix_tup (pv 11) pe_int (fun _ _ => rfl)) pa_nil))) (by rfl))
      (pss_one (ps_expr (pe_bm PySem.F.plainAttrs_list PySem.F.slot_list_append PySem.F.type_list_append mt_append (pv 7) (pa_cons (pe_tup (pa_cons (pe_ix ix_list (pv 6) (pv 9) (fun _ _ => rfl)) (pa_cons (pv 12) pa_nil))) pa_nil))))))))))
      (pss_one (ps_ret (pv 7))))),
    fun C xc => (so_seq (so_par3 (i := 6) (j := 7) (l := 8) (by decide) (by decide) (by decide) (so_cons (so_callP (so_cons (so_var (i := 0)) (so_cons (so_var (i := 1)) so_nil))) (so_cons (so_lit_lst so_lits_nil) (so_cons so_dnew so_nil))))
      (so_seq (so_for (so_rng1 (so_var (i := 1))) (so_gname (i := 9))
      (so_seq (so_asg (so_if (so_test (so_op sr_eq (so_callP (so_cons (so_var (i := 0)) (so_cons (so_c (sca_int _)) so_nil))) (so_c (sca_int _)))) (so_var (i := 2)) (so_f sc_2i (so_cons (so_c (sca_int _)) (so_cons (so_var (i := 2)) so_nil)))) (so_gname (i := 10)))
      (so_seq (so_asg (so_callP (so_cons (so_var (i := 0)) (so_cons (so_var (i := 10)) (so_cons (so_if (so_test (so_op sr_B (so_var (i := 10)) (so_var (i := 3)))) (so_op sr_I0 (so_var (i := 10)) (so_c (sca_int _))) (so_var (i := 3))) so_nil)))) (so_gname (i := 11)))
      (so_seq (so_asg (so_frz (i := 11)) (so_gname (i := 12)))
      (so_seq (so_ifS (so_tand (so_test (so_op sr_B (so_var (i := 9)) (so_c (sca_int _)))) (so_test (so_op sr_eq (so_callP (so_cons (so_var (i := 0)) (so_cons (so_c (sca_int _)) so_nil))) (so_c (sca_int _)))))
      (so_seq (so_asg (so_callP (so_cons (so_var (i := 0)) (so_cons (so_sl (so_var (i := 6)) so_no (so_part (so_var (i := 9)))) (so_cons (so_var (i := 4)) (so_cons (so_var (i := 5)) (so_cons (so_c (sca_int _)) so_nil)))))) (so_gname (i := 13)))
      (so_seq (so_asg (so_callT (so_cons (so_var (i := 8)) (so_cons (so_var (i := 13)) (so_cons (so_var (i := 2)) (so_cons (so_var (i := 3)) so_nil))))) (so_gname (i := 14)))
      (so_ifS (so_test (so_op sr_notN (so_var (i := 14)) (so_c sca_non)))
      (so_par (i := 11) (j := 12) (by decide) (so_cons (so_frz (i := 14)) (so_cons (so_frz (i := 13)) so_nil))) so_next))) so_next)
      (so_seq (so_dput (i := 8) (so_fz (so_callT (so_cons (so_ixT (so_var (i := 11)) (so_c (sca_int _))) (so_cons (so_ixT (so_var (i := 11)) (so_c (sca_int _))) so_nil)))) (so_ixL (so_var (i := 6)) (so_var (i := 9))))
      (so_drop (so_app (so_var (i := 7)) (so_tup (so_cons (so_ixL (so_var (i := 6)) (so_var (i := 9))) (so_cons (so_mov (i := 12)) so_nil)))))))))))
      (so_ret (so_frz (i := 7)))))⟩) val__law_ps_rows
def w__law_ps_plain_rows : Tw := fun ds Q => ∃ m : Int, ds = [.int m] ∧ 0 ≤ m ∧ m ≤ 41 ∧ ∀ rs : Rows, (rs.length : Int) = m → okR 6 8 5 1 [] rs → Q (dRows rs)
theorem ar__law_ps_plain_rows : ∀ ds G, w__law_ps_plain_rows ds G → ds.length + 1 = 2 := by
  rintro ds G ⟨_, rfl, _⟩
  rfl
def k__law_ps_plain_rows : KS := (kRet (kCallPS 1000000000000 w__law_ps_rows 5 (kCons (kFrz 0) (kCons (kVar 1) (kCons (kC (.int 6)) (kCons (kC (.int 8)) (kCons (kC (.int 5)) (kCons (kC (.int 1)) kNil))))))))
theorem val__law_ps_plain_rows : ∀ ds G, w__law_ps_plain_rows ds G → k__law_ps_plain_rows ⟨.pu :: (ds.map Sl.fz ++ []), [], 1000000000000⟩ (edPS G) := by
  rintro ds Gq ⟨m, rfl, m0, m1, q⟩
  unfold k__law_ps_plain_rows
  walk_at "ev"
  refine ⟨⟨by decide, by decide⟩, m, 6, 8, 5, 1, rfl, m0, m1, by decide, by decide, by decide, by decide, by decide, by decide, by decide, fun rs h1 h2 => ?_⟩
  exact ⟨by show (0 : Int) ≤ 1000000000000 - 1000000000000; decide, q rs h1 h2⟩
theorem ok__law_ps_plain_rows (p : Prog K mg) : FnG P w K mg base CX0 24 p.f__law_ps_plain_rows p.fd__law_ps_plain_rows ["_law_sack", "_law_many"] (spPS 1000000000000 w__law_ps_plain_rows) :=
  okPSh p.d__law_ps_plain_rows.F sc__law_ps_plain_rows (by decide) ar__law_ps_plain_rows (by decide) (fun cdv A outer s H E hg hr => ⟨_, (pss_one (ps_ret (pe_callG ((ok__law_ps_rows p).mono (by decide)) hg hr (by rfl) p.d__law_ps_rows.gl p.d__law_ps_rows.kp p.d__law_ps_rows.bd pass0 (pa_cons (pv 0) (pa_cons (pv 1) (pa_cons pe_int (pa_cons pe_int (pa_cons pe_int (pa_cons pe_int pa_nil))))))))),
    fun C xc => (so_ret (so_callPS (so_cons (so_frz (i := 0)) (so_cons (so_var (i := 1)) (so_cons (so_c (sca_int _)) (so_cons (so_c (sca_int _)) (so_cons (so_c (sca_int _)) (so_cons (so_c (sca_int _)) so_nil))))))))⟩) val__law_ps_plain_rows
/-- rows that are drawn -/
def AnyR (rs : Rows) : Prop := (rs.length ≤ 6 ∧ okR 6 8 5 1 [] rs) ∨ (rs.length ≤ 40 ∧ ∃ st ne : Nat, st ≤ 30 ∧ ne ≤ 4 ∧ okR 60 60 st ne [] rs)
def w__law_ps_any_rows : Tw := fun ds Q => ds = [] ∧ ∀ rs : Rows, AnyR rs → Q (dRows rs)
theorem ar__law_ps_any_rows : ∀ ds G, w__law_ps_any_rows ds G → ds.length + 1 = 1 := by
  rintro ds G ⟨rfl, _⟩
  rfl
def kr__law_ps_any_rows_1 : KS := (kRet (kCallPS 1000000000000 w__law_ps_rows 5 (kCons (kFrz 0) (kCons (kCallP 1 w__law_coin 1 (kCons (kVar 0) (kCons (kC (.int 41)) kNil))) (kCons (kC (.int 60)) (kCons (kC (.int 60)) (kCons (kIx true (kLit (.list [(.int 4), (.int 30)])) (kCallP 1 w__law_coin 1 (kCons (kVar 0) (kCons (kC (.int 2)) kNil)))) (kCons (kCallP 1 w__law_coin 1 (kCons (kVar 0) (kCons (kC (.int 5)) kNil))) kNil))))))))
def k__law_ps_any_rows : KS := (kSeq (kIfS (kTest (kOp (vB fun i j => decide (j < i)) (kCallP 1 w__law_coin 1 (kCons (kVar 0) (kCons (kC (.int 3)) kNil))) (kC (.int 0))))
  (kRet (kCallPS 1000000000000 w__law_ps_plain_rows 1 (kCons (kFrz 0) (kCons (kCallP 1 w__law_coin 1 (kCons (kVar 0) (kCons (kC (.int 7)) kNil))) kNil))))
  kNext)
  kr__law_ps_any_rows_1)
local macro_rules | `(tactic| walk_at "go") => `(tactic| ((first | unfold kr__law_ps_any_rows_1); walk_at "ev"))
theorem val__law_ps_any_rows : ∀ ds G, w__law_ps_any_rows ds G → k__law_ps_any_rows ⟨.pu :: (ds.map Sl.fz ++ []), [], 3000000000000⟩ (edPS G) := by
  rintro ds Gq ⟨rfl, q⟩
  unfold k__law_ps_any_rows
  walk_at "ev"
  refine ⟨⟨by decide, by decide⟩, 3, rfl, by decide, by decide, fun g g0 g1 => ?_⟩
  walk_at "ev"
  refine iteB (fun z => ?_) (fun z => ?_)
  · refine ⟨⟨by decide, by decide⟩, 7, rfl, by decide, by decide, fun m m0 m1 => ?_⟩
    walk_at "ev"
    refine ⟨⟨by decide, by decide⟩, m, rfl, m0, by omega, fun rs h1 h2 => ?_⟩
    exact ⟨by show (0 : Int) ≤ 3000000000000 - 1 - 1 - 1000000000000; decide, q rs (.inl ⟨by omega, h2⟩)⟩
  · walk_at "go"
    refine ⟨⟨by decide, by decide⟩, 41, rfl, by decide, by decide, fun m m0 m1 => ?_⟩
    walk_at "ev"
    refine ⟨⟨by decide, by decide⟩, 2, rfl, by decide, by decide, fun h h0 h1 => ?_⟩
    walk_at "ev"
    have hh : h = 0 ∨ h = 1 := by omega
    rcases hh with rfl | rfl
    · walk_at "ev"
      refine ⟨⟨by decide, by decide⟩, 5, rfl, by decide, by decide, fun ne e0 e1 => ?_⟩
      walk_at "ev"
      refine ⟨⟨by decide, by decide⟩, m, 60, 60, 4, ne, rfl, m0, by omega, by decide, by decide, by decide, by decide, by decide, e0, by omega, fun rs r1 r2 => ?_⟩
      exact ⟨by show (0 : Int) ≤ 3000000000000 - 1 - 1 - 1 - 1 - 1000000000000; decide, q rs (.inr ⟨by omega, 4, ne.toNat, by decide, by omega, r2⟩)⟩
    · walk_at "ev"
      refine ⟨⟨by decide, by decide⟩, 5, rfl, by decide, by decide, fun ne e0 e1 => ?_⟩
      walk_at "ev"
      refine ⟨⟨by decide, by decide⟩, m, 60, 60, 30, ne, rfl, m0, by omega, by decide, by decide, by decide, by decide, by decide, e0, by omega, fun rs r1 r2 => ?_⟩
      exact ⟨by show (0 : Int) ≤ 3000000000000 - 1 - 1 - 1 - 1 - 1000000000000; decide, q rs (.inr ⟨by omega, 30, ne.toNat, by decide, by omega, r2⟩)⟩
theorem ok__law_ps_any_rows (p : Prog K mg) : FnG P w K mg base CX0 25 p.f__law_ps_any_rows p.fd__law_ps_any_rows ["_law_sack"] (spPS 3000000000000 w__law_ps_any_rows) :=
  okPSh p.d__law_ps_any_rows.F sc__law_ps_any_rows (by decide) ar__law_ps_any_rows (by decide) (fun cdv A outer s H E hg hr => ⟨_, (pss_cons (ps_if (pt_cmpR op_gt (pe_callG ((ok__law_coin p).mono (by decide)) hg hr (by rfl) p.d__law_coin.gl p.d__law_coin.kp p.d__law_coin.bd pass0 (pa_cons (pv 0) (pa_cons pe_int pa_nil))) pe_int (nomark _))
      (pss_one (ps_ret (pe_callG ((ok__law_ps_plain_rows p).mono (by decide)) hg hr (by rfl) p.d__law_ps_plain_rows.gl p.d__law_ps_plain_rows.kp p.d__law_ps_plain_rows.bd pass0 (pa_cons (pv 0) (pa_cons (pe_callG ((ok__law_coin p).mono (by decide)) hg hr (by rfl) p.d__law_coin.gl p.d__law_coin.kp p.d__law_coin.bd pass0 (pa_cons (pv 0) (pa_cons pe_int pa_nil))) pa_nil))))) pss_nil)
      (pss_one (ps_ret (pe_callG ((ok__law_ps_rows p).mono (by decide)) hg hr (by rfl) p.d__law_ps_rows.gl p.d__law_ps_rows.kp p.d__law_ps_rows.bd pass0 (pa_cons (pv 0) (pa_cons (pe_callG ((ok__law_coin p).mono (by decide)) hg hr (by rfl) p.d__law_coin.gl p.d__law_coin.kp p.d__law_coin.bd pass0 (pa_cons (pv 0) (pa_cons pe_int pa_nil))) (pa_cons pe_int (pa_cons pe_int (pa_cons (pe_ix ix_list (pe_lst (pa_cons pe_int (pa_cons pe_int pa_nil))) (pe_callG ((ok__law_coin p).mono (by decide)) hg hr (by rfl) p.d__law_coin.gl p.d__law_coin.kp p.d__law_coin.bd pass0 (pa_cons (pv 0) (pa_cons pe_int pa_nil))) (fun _ _ => rfl)) (pa_cons (pe_callG ((ok__law_coin p).mono (by decide)) hg hr (by rfl) p.d__law_coin.gl p.d__law_coin.kp p.d__law_coin.bd pass0 (pa_cons (pv 0) (pa_cons pe_int pa_nil))) pa_nil)))))))))),
    fun C xc => (so_seq (so_ifS (so_test (so_op sr_B (so_callP (so_cons (so_var (i := 0)) (so_cons (so_c (sca_int _)) so_nil))) (so_c (sca_int _))))
      (so_ret (so_callPS (so_cons (so_frz (i := 0)) (so_cons (so_callP (so_cons (so_var (i := 0)) (so_cons (so_c (sca_int _)) so_nil))) so_nil)))) so_next)
      (so_ret (so_callPS (so_cons (so_frz (i := 0)) (so_cons (so_callP (so_cons (so_var (i := 0)) (so_cons (so_c (sca_int _)) so_nil))) (so_cons (so_c (sca_int _)) (so_cons (so_c (sca_int _)) (so_cons (so_ixL (so_lit_lst (so_lits_cons (so_lit_c (sca_int _) rfl) (so_lits_cons (so_lit_c (sca_int _) rfl) so_lits_nil))) (so_callP (so_cons (so_var (i := 0)) (so_cons (so_c (sca_int _)) so_nil)))) (so_cons (so_callP (so_cons (so_var (i := 0)) (so_cons (so_c (sca_int _)) so_nil))) so_nil)))))))))⟩) val__law_ps_any_rows
def w__law_ps_told_rows : Tw := fun ds Q => ∃ rs : Rows, ds = [dRows rs] ∧ GoodR rs ∧ Q (dRows (lstR rs))
theorem ar__law_ps_told_rows : ∀ ds G, w__law_ps_told_rows ds G → ds.length = 1 := by
  rintro ds G ⟨_, rfl, _⟩
  rfl
def kr__law_ps_told_rows_1 : KS := (kDrop (kApp (kVar 1) (kMk false 2 (kCons (kVar 2) (kCons (kCallT (w__law_copied 60) 1 (kCons (kVar 3) kNil)) kNil)))))
def kb__law_ps_told_rows_2 : KS := (kSeq (kIfS (kTest (kIs "tuple" (kVar 3)))
  (kAsg (kCallT w__law_ps_least 2 (kCons (kIx false (kVar 3) (kC (.int 0))) (kCons (kIx false (kVar 3) (kC (.int 1))) kNil))) (kgName 3))
  kNext)
  kr__law_ps_told_rows_1)
def kr__law_ps_told_rows_3 : KS := (kRet (kMov 1))
def kr__law_ps_told_rows_4 : KS := (kSeq (kFor (kIt true (kFrz 0)) (kgTup 2 (kgCons (kgName 2) (kgCons (kgName 3) kgNil))) kb__law_ps_told_rows_2)
  kr__law_ps_told_rows_3)
def k__law_ps_told_rows : KS := (kSeq (kAsg (kLit (.list [])) (kgName 1))
  kr__law_ps_told_rows_4)
local macro_rules | `(tactic| walk_at "go") => `(tactic| ((first | unfold kr__law_ps_told_rows_1 | unfold kr__law_ps_told_rows_3 | unfold kr__law_ps_told_rows_4); walk_at "ev"))
theorem val__law_ps_told_rows : ∀ ds G, w__law_ps_told_rows ds G → k__law_ps_told_rows ⟨ds.map Sl.fz ++ [.jk, .jk, .jk], [], 0⟩ (edT G) := by
  rintro ds Gq ⟨rs, rfl, g, q⟩
  unfold k__law_ps_told_rows
  walk_at "ev"
  walk_at "go"
  have one : ∀ x : Str × Mng, dRow x = .tuple [.str x.1, dM x.2] := fun _ => rfl
  refine forL_inv rs dRow (fun pre γ => ∃ b c, γ = ⟨[.fz (dRows rs), .ow true (dRows (lstR pre)), b, c], [.fz (.list (rs.map dRow))], 0⟩) (fun pre x post γ N hl ht hP hN => ?_) (fun γ ht hP => ?_) _ rfl ⟨.jk, .jk, rfl⟩
  · obtain ⟨b, c, rfl⟩ := hP
    obtain ⟨x, m⟩ := x
    have mx : (x, m) ∈ rs := hl ▸ List.mem_append_right _ List.mem_cons_self
    have hlen := congrArg List.length hl
    rw [List.length_append, List.length_cons] at hlen
    have rl := g.len
    obtain ⟨r1, r2⟩ := g.rc.2 _ mx
    obtain ⟨ks, kn, o⟩ := g.okM mx
    have s : Sh 12 116253 (dM (lstM m)) := (sh_M kn (okG_lst o)).1
    have w3 := s.wd
    have d3 := s.dp
    have h3 := hd_M (lstM m)
    have go : ∀ D, D = dM (lstM m) → D.depth < 60 ∧ D.hasDict = false ∧ G.wd D ≤ 10000000 := fun D e => by rw [e]; exact ⟨by omega, h3, by omega⟩
    have pl : (lstR pre).length < 10000000 := by unfold lstR; rw [List.length_map]; omega
    have fin : ∀ s, N ⟨[.fz (dRows rs), .ow true (.list ((lstR pre).map dRow ++ [.tuple [.str x, dM (lstM m)]])), .fz (.str x), s], [.fz (.list (rs.map dRow))], 0⟩ := fun s => hN _ rfl ⟨.fz (.str x), s, by rw [show dRows (lstR (pre ++ [(x, m)])) = .list ((lstR (pre ++ [(x, m)])).map dRow) from rfl, lstR_snoc]; rfl⟩
    unfold kb__law_ps_told_rows_2
    rw [one]
    cases m with
    | fx e =>
      obtain ⟨n, gs⟩ := e
      have e1 : Eff (n, gs) := o.1
      have e2 : gs.length ≤ 60 := o.2.2
      show kgTup _ _ ⟨_, .fz (.tuple [.str x, dE (n, gs)]) :: _, _⟩ _
      walk_at "ev"
      refine ⟨n, gs, rfl, e1.le, by omega, ?_⟩
      obtain ⟨g1, g2, g3⟩ := go (dE (leastE n gs)) rfl
      walk_at "go"
      refine ⟨dE (leastE n gs), rfl, g1, g2, g3, ?_⟩
      walk_at "ev"
      exact ⟨pl, fin _⟩
    | ph l =>
      show kgTup _ _ ⟨_, .fz (.tuple [.str x, .list (dSteps l)]) :: _, _⟩ _
      walk_at "ev"
      obtain ⟨g1, g2, g3⟩ := go (.list (dSteps l)) rfl
      walk_at "go"
      refine ⟨.list (dSteps l), rfl, g1, g2, g3, ?_⟩
      walk_at "ev"
      exact ⟨pl, fin _⟩
  · obtain ⟨b, c, rfl⟩ := hP
    walk_at "go"
    exact q
theorem ok__law_ps_told_rows (p : Prog K mg) : FnG P w K mg base CX0 64 p.f__law_ps_told_rows p.fd__law_ps_told_rows ["_law_rows"] (spT w__law_ps_told_rows) :=
  okT p.d__law_ps_told_rows.F sc__law_ps_told_rows (by decide) ar__law_ps_told_rows (fun cdv A outer s H E hg hr => ⟨_, (pss_cons (ps_set (i := 1) sc__law_ps_told_rows.nd rfl (Or.inl rfl) (pe_lst pa_nil))
      (pss_cons (ps_for PassesOwn.never rfl (pi_list (pv 0)) (pg_tup rfl (pgs_cons (pg_name (i := 2) sc__law_ps_told_rows.nd rfl (Or.inl rfl)) (pgs_cons (pg_name (i := 3) sc__law_ps_told_rows.nd rfl (Or.inl rfl)) pgs_nil)))
      (pss_cons (ps_if (pt_val (pe_callB call_isi (by rfl) p.blt.isinstance (by decide +kernel) (pa_cons (pv 3) (pa_cons (pe_bltn (v := .ty "tuple") (by rfl) p.blt.tuple (by decide +kernel) rfl) pa_nil))))
      (pss_one (ps_set (i := 3) sc__law_ps_told_rows.nd rfl (Or.inl rfl) (pe_callG ((ok__law_ps_least p).mono (by decide)) hg hr (by rfl) p.d__law_ps_least.gl p.d__law_ps_least.kp p.d__law_ps_least.bd pass0 (pa_cons (pe_ix ix_tup (pv 3) pe_int (fun _ _ => rfl)) (pa_cons (pe_ix ix_tup (pv 3) pe_int (fun _ _ => rfl)) pa_nil))))) pss_nil)
      (pss_one (ps_expr (pe_bm PySem.F.plainAttrs_list PySem.F.slot_list_append PySem.F.type_list_append mt_append (pv 1) (pa_cons (pe_tup (pa_cons (pv 2) (pa_cons (pe_callG ((ok__law_copied p 60).mono (by decide)) hg hr (by rfl) p.d__law_copied.gl p.d__law_copied.kp p.d__law_copied.bd pass0 (pa_cons (pv 3) pa_nil)) pa_nil))) pa_nil))))))
      (pss_one (ps_ret (pv 1))))),
    fun C xc => (so_seq (so_asg (so_lit_lst so_lits_nil) (so_gname (i := 1)))
      (so_seq (so_for (so_itL (so_frz (i := 0))) (so_gtup (so_gcons (so_gname (i := 2)) (so_gcons (so_gname (i := 3)) so_gnil)))
      (so_seq (so_ifS (so_test (so_is kitT_tuple (so_var (i := 3))))
      (so_asg (so_callT (so_cons (so_ixT (so_var (i := 3)) (so_c (sca_int _))) (so_cons (so_ixT (so_var (i := 3)) (so_c (sca_int _))) so_nil))) (so_gname (i := 3))) so_next)
      (so_drop (so_app (so_var (i := 1)) (so_tup (so_cons (so_var (i := 2)) (so_cons (so_callT (so_cons (so_var (i := 3)) so_nil)) so_nil)))))))
      (so_ret (so_mov (i := 1)))))⟩) val__law_ps_told_rows
def w__law_ps_huge : Tw := fun ds Q => ∃ rs : Rows, ds = [dRows rs] ∧ GoodR rs ∧ ∀ hs, GoodR hs → Q (dRows hs)
theorem ar__law_ps_huge : ∀ ds G, w__law_ps_huge ds G → ds.length + 1 = 2 := by
  rintro ds G ⟨_, rfl, _⟩
  rfl
def kr__law_ps_huge_1 : KS := (kDrop (kInsD (kVar 3) (kVar 5) (kMk false 2 (kCons (kVar 4) (kCons (kMk true 2 (kCons (kMk false 3 (kCons (kC (.str ("times" : String))) (kCons (kOp (vI noC fun i j => i - j) (kOp (vI CPowW fun i j => i ^ j.toNat) (kC (.int 10)) (kC (.int 30))) (kCallP 1 w__law_coin 1 (kCons (kVar 0) (kCons (kC (.int 9)) kNil)))) (kCons (kMov 7) kNil)))) (kCons (kMk false 3 (kCons (kC (.str ("under" : String))) (kCons (kOp (vI CPowW fun i j => i ^ j.toNat) (kC (.int 10)) (kC (.int 30))) (kCons (kLit (.list [])) kNil)))) kNil))) kNil)))))
def kr__law_ps_huge_2 : KS := (kSeq (kAsg (kLc (kRng1 (kIf (kTest (kOp (vEqD true) (kVar 6) (kLit (.list [])))) (kCallP 1 w__law_coin 1 (kCons (kVar 0) (kCons (kC (.int 9)) kNil))) (kC (.int 0)))) 9 kYes (kIx true (kVar 6) (kCallP 1 w__law_coin 1 (kCons (kVar 0) (kCons (kF 1 vLen (kCons (kVar 6) kNil)) kNil))))) (kgName 7))
  kr__law_ps_huge_1)
def kr__law_ps_huge_3 : KS := (kSeq (kAsg (kFirstsTo 3 5 8) (kgName 6))
  kr__law_ps_huge_2)
def kb__law_ps_huge_4 : KS := (kIfS (kTAnd (kTest (kOp (vIn true) (kVar 4) (kFirsts 3 8))) (kTest (kOp (vB fun i j => decide (i < j)) (kF 1 vLen (kCons (kVar 3) kNil)) (kC (.int 40)))))
  (kSeq (kAsg (kCallP 1 w__law_coin 1 (kCons (kVar 0) (kCons (kOp (vI noC fun i j => i + j) (kF 1 vLen (kCons (kVar 3) kNil)) (kC (.int 1))) kNil))) (kgName 5))
  kr__law_ps_huge_3)
  kNext)
def kr__law_ps_huge_5 : KS := (kRet (kFrz 3))
def kr__law_ps_huge_6 : KS := (kSeq (kFor (kIt true (kFrz 2)) (kgName 4) kb__law_ps_huge_4)
  kr__law_ps_huge_5)
def k__law_ps_huge : KS := (kSeq (kPar 2 3 (kCons (kLit (.list [(.str ("q" : String)), (.str ("qq" : String)), (.str ("qqq" : String)), (.str ("qqqqq" : String))])) (kCons (kListOf (kCons (kFrz 1) kNil)) kNil)))
  kr__law_ps_huge_6)
local macro_rules | `(tactic| walk_at "go") => `(tactic| ((first | unfold kr__law_ps_huge_1 | unfold kr__law_ps_huge_2 | unfold kr__law_ps_huge_3 | unfold kr__law_ps_huge_5 | unfold kr__law_ps_huge_6); walk_at "ev"))
theorem val__law_ps_huge : ∀ ds G, w__law_ps_huge ds G → k__law_ps_huge ⟨.pu :: (ds.map Sl.fz ++ [.jk, .jk, .jk, .jk, .jk, .jk, .jk, .jk]), [], 1000⟩ (edPS G) := by
  rintro ds Gq ⟨rs, rfl, g, q⟩
  unfold k__law_ps_huge
  walk_at "ev"
  walk_at "go"
  have tl := huge_ok
  obtain ⟨ls, hls⟩ : ∃ ls : List Str, HUGE = ls := ⟨_, rfl⟩
  have l4 : ls.length = 4 := by rw [← hls]; rfl
  rw [hls] at tl
  show forL (kgName 4) kb__law_ps_huge_4 [.fz (dS HUGE)] (HUGE.map PyData.str) ⟨[_, _, .fz (dS HUGE), _, _, _, _, _, _, _], [.fz (dS HUGE)], _⟩ _
  rw [hls]
  refine forL_inv ls PyData.str (fun pre γ => ∃ (b : Bool) (hs : Rows) (s4 s5 s6 s7 : Sl) (k : Int), γ = ⟨[.pu, .fz (dRows rs), .fz (dS ls), .ow b (dRows hs), s4, s5, s6, s7, .jk, .jk], [.fz (dS ls)], k⟩ ∧ GoodR hs ∧ 1000 - 200 * (pre.length : Int) ≤ k) (fun pre x post γ N hl ht hP hN => ?_) (fun γ ht hP => ?_) _ rfl ⟨_, rs, _, _, _, _, _, rfl, g, by simp⟩
  · obtain ⟨b, hs, s4, s5, s6, s7, k, rfl, gh, hk⟩ := hP
    have hlen := congrArg List.length hl
    rw [l4, List.length_append, List.length_cons] at hlen
    have mx := tl x (hl ▸ List.mem_append_right _ List.mem_cons_self)
    have hle := gh.len
    have fin : ∀ (b2 : Bool) (qs : Rows) (s5 s6 s7 : Sl) (k2 : Int), GoodR qs → 1000 - 200 * ((pre.length : Int) + 1) ≤ k2 → N ⟨[.pu, .fz (dRows rs), .fz (dS ls), .ow b2 (dRows qs), .fz (.str x), s5, s6, s7, .jk, .jk], [.fz (dS ls)], k2⟩ := fun b2 qs s5 s6 s7 k2 gq hk2 => hN _ rfl ⟨b2, qs, _, s5, s6, s7, k2, rfl, gq, by rw [List.length_append, List.length_singleton]; exact hk2⟩
    unfold kb__law_ps_huge_4
    walk_at "ev"
    refine ⟨by decide, hs.map fun r => (.str r.1, [dM r.2]), by rw [List.map_map]; rfl, (fun p m => by obtain ⟨r, _, rfl⟩ := List.mem_map.mp m; rfl), by rw [List.length_map]; omega, ?_⟩
    have fm : (hs.map fun r => ((PyData.str r.1 : D), [dM r.2])).map (·.1) = (hs.map (·.1)).map PyData.str := by simp
    rw [fm]
    walk_at "ev"
    have ein : x ∈ hs.map (·.1) → inV (V.str x) (((hs.map (·.1)).map PyData.str).map vOf) = true := fun m => by
      unfold inV
      rw [List.any_eq_true]
      exact ⟨.str x, List.mem_map.mpr ⟨.str x, List.mem_map.mpr ⟨x, m, rfl⟩, rfl⟩, by simp [eqV]⟩
    refine ⟨allflat_strs _, iteB (fun z1 => iteB (fun z2 => ?_) fun _ => fin b hs _ _ _ k gh (by omega)) fun _ => fin b hs _ _ _ k gh (by omega)⟩
    have nx : x ∉ hs.map (·.1) := fun m => by
      rw [ein m] at z1
      exact absurd z1 (by decide)
    have z2 := of_decide_eq_true z2
    refine ⟨⟨by decide, by omega⟩, (hs.length : Int) + 1, rfl, by omega, by omega, fun sp p0 p1 => ?_⟩
    walk_at "ev"
    walk_at "go"
    refine ⟨by decide, hs.map fun r => (.str r.1, [dM r.2]), by rw [List.map_map]; rfl, (fun p m => by obtain ⟨r, _, rfl⟩ := List.mem_map.mp m; rfl), by rw [List.length_map]; omega, ?_⟩
    rw [fm]
    have ct : G.cutD ((hs.map (·.1)).map PyData.str) none (some sp) = (((hs.take sp.toNat).map (·.1))).map PyData.str := by
      have e := cutD_to ((hs.map (·.1)).map PyData.str) sp.toNat
      rw [show ((sp.toNat : Nat) : Int) = sp by omega] at e
      rw [e, List.map_take, List.map_take]
    rw [ct]
    obtain ⟨nk, hnk⟩ : ∃ nk, (hs.take sp.toNat).map (·.1) = nk := ⟨_, rfl⟩
    have nkl : nk.length ≤ 40 := by
      rw [← hnk, List.length_map, List.length_take]
      omega
    have nko : ∀ y ∈ nk, Lt y := fun y m => by
      rw [← hnk] at m
      obtain ⟨r, mr, rfl⟩ := List.mem_map.mp m
      exact (gh.nm r (List.take_subset _ _ mr)).1
    rw [hnk]
    have last : ∀ (ys : List Str) (k2 : Int), (∀ y ∈ ys, y ∈ nk) → ys.length ≤ 8 → 1 ≤ k2 → 1000 - 200 * ((pre.length : Int) + 1) ≤ k2 - 1 → kr__law_ps_huge_1 ⟨[.pu, .fz (dRows rs), .fz (dS ls), .ow b (dRows hs), .fz (.str x), .fz (.int sp), .ow true (dS nk), .ow true (dS ys), .jk, .jk], [.fz (dS ls)], k2⟩ ⟨fun γ2 => γ2.tm = [.fz (dS ls)] ∧ N γ2, (edPS Gq).rt, fun γ2 => γ2.tm = [.fz (dS ls)] ∧ kr__law_ps_huge_5 ⟨γ2.sl, [], γ2.n⟩ (edPS Gq), fun γ2 => γ2.tm = [.fz (dS ls)] ∧ N γ2⟩ := by
      intro ys k2 hy yl k1 k3
      walk_at "go"
      refine ⟨by unfold CPowW; decide, ⟨by decide, by omega⟩, 9, rfl, by decide, by decide, fun c c0 c1 => ?_⟩
      walk_at "ev"
      have gq := gh.ins (y := x) (m := hugeM c ys) (k := sp.toNat) (by omega) nx mx (huge_okG c0 c1 (fun y m => by rw [hnk]; exact hy y m) yl)
      have f2 := fin b (hs.take sp.toNat ++ (x, hugeM c ys) :: hs.drop sp.toNat) (.fz (.int sp)) (.ow true (dS nk)) .jk (k2 - 1) gq k3
      refine ⟨by decide, by unfold CPowW; decide, ⟨by omega, p0, by omega⟩, ?_⟩
      have er : dRows (hs.take sp.toNat ++ (x, hugeM c ys) :: hs.drop sp.toNat) = .list (List.take sp.toNat (List.map dRow hs) ++ [dRow (x, hugeM c ys)] ++ List.drop sp.toNat (List.map dRow hs)) := by
        show PyData.list _ = _
        rw [List.map_append, List.map_cons, List.map_take, List.map_drop, List.append_assoc]
        rfl
      rw [er, huge_row] at f2
      exact f2
    have body : ∀ (i k2 : Int) (q : VSt → Prop), 0 ≤ i → i ≤ 8 → (0 < i → 0 < nk.length) → 10 ≤ k2 → (∀ ys m2, (∀ y ∈ ys, y ∈ nk) → ys.length ≤ 8 → k2 - 8 ≤ m2 → q ⟨[.pu, .fz (dRows rs), .fz (dS ls), .ow b (dRows hs), .fz (.str x), .fz (.int sp), .ow true (dS nk), s7, .jk, .jk], [.ow true (dS ys), .fz (dS ls)], m2⟩) → lcL 9 kYes (kIx true (kVar 6) (kCallP 1 w__law_coin 1 (kCons (kVar 0) (kCons (kF 1 vLen (kCons (kVar 6) kNil)) kNil)))) (List.map PyData.int (rg 0 i)) ⟨[.pu, .fz (dRows rs), .fz (dS ls), .ow b (dRows hs), .fz (.str x), .fz (.int sp), .ow true (dS nk), s7, .jk, .jk], [.ow true (.list []), .fz (dS ls)], k2⟩ q := by
      intro i k2 q i0 i1 i2 k8 hq
      refine lc_inv (j := 9) true (rg 0 i) PyData.int (fun pre acc m2 => ∃ ys : List Str, acc = ys.map PyData.str ∧ ys.length = pre.length ∧ m2 = k2 - pre.length ∧ pre.length ≤ i.toNat ∧ ∀ y ∈ ys, y ∈ nk) rfl rfl (fun pre acc m2 hp => ?_) (fun pre x post acc m2 Y X hl hp hY hX => ?_) (fun acc m2 hp => ?_) [] _ ⟨[], rfl, rfl, by simp, by simp, by simp⟩
      · obtain ⟨ys, rfl, h1, h2, h3, h4⟩ := hp
        rw [List.length_map]
        omega
      · obtain ⟨ys, rfl, h1, h2, h3, h4⟩ := hp
        have hlen := congrArg List.length hl
        rw [rg_length, List.length_append, List.length_cons] at hlen
        walk_at "ev"
        refine ⟨⟨by decide, by omega⟩, (nk.length : Int), rfl, by have := i2 (by omega); omega, by omega, fun g g0 g1 => ?_⟩
        walk_at "ev"
        refine ixD_strs g0 g1 fun s ms _ _ => ?_
        refine hY _ true (.str s) _ rfl rfl ⟨ys ++ [s], by simp, by simp [h1], by rw [List.length_append, List.length_singleton]; omega, by rw [List.length_append, List.length_singleton]; omega, fun y hy => ?_⟩
        rcases List.mem_append.mp hy with hy | hy
        · exact h4 y hy
        · rw [List.mem_singleton.mp hy]
          exact ms
      · obtain ⟨ys, rfl, h1, h2, h3, h4⟩ := hp
        rw [rg_length] at h1 h2 h3
        exact hq ys m2 h4 (by omega) (by omega)
    walk_at "go"
    refine ⟨shaped_strs fun y m => (nko y m).ok, shaped_strs (ss := []) (fun _ z => nomatch z), ?_⟩
    rw [show (PyData.list (nk.map PyData.str)).eqv (.list []) = decide (nk = []) from eqv_strs nk []]
    refine iteB (fun z3 => ?_) (fun z3 => ?_)
    · have kn : nk ≠ [] := by simpa using z3
      have kp : 0 < nk.length := List.length_pos_iff.mpr kn
      refine ⟨⟨by decide, by omega⟩, 9, rfl, by decide, by decide, fun i i0 i1 => ?_⟩
      walk_at "ev"
      refine ⟨⟨by omega, by omega⟩, ?_⟩
      refine body i _ _ i0 (by omega) (fun _ => kp) (by omega) fun ys m2 y1 y2 y3 => ?_
      walk_at "ev"
      exact last ys m2 y1 y2 (by omega) (by omega)
    · refine ⟨⟨by decide, by decide⟩, ?_⟩
      refine body 0 _ _ (by decide) (by decide) (fun z => absurd z (by decide)) (by omega) fun ys m2 y1 y2 y3 => ?_
      walk_at "ev"
      exact last ys m2 y1 y2 (by omega) (by omega)
  · obtain ⟨b, hs, s4, s5, s6, s7, k, rfl, gh, hk⟩ := hP
    rw [l4] at hk
    walk_at "go"
    exact ⟨by show 0 ≤ k; omega, q hs gh⟩
theorem ok__law_ps_huge (p : Prog K mg) : FnG P w K mg base CX0 4 p.f__law_ps_huge p.fd__law_ps_huge ["_law_sack", "_law_rows"] (spPS 1000 w__law_ps_huge) :=
  okPSh p.d__law_ps_huge.F sc__law_ps_huge (by decide) ar__law_ps_huge (by decide) (fun cdv A outer s H E hg hr => ⟨_, (pss_cons (ps_par (i := 2) (j := 3) rfl sc__law_ps_huge.nd rfl rfl (by decide) rfl rfl (pa_cons (pe_lst (pa_cons pe_str (pa_cons pe_str (pa_cons pe_str (pa_cons pe_str pa_nil))))) (pa_cons (pe_callTy call_list_of (by rfl) p.blt.list (by decide +kernel) (pa_cons (pv 1) pa_nil)) pa_nil)) (by rfl))
      (pss_cons (ps_for PassesOwn.never rfl (pi_list (pv 2)) (pg_name (i := 4) sc__law_ps_huge.nd rfl (Or.inl rfl))
      (pss_one (ps_if (PW.pt (pw_and (pt_cmpR op_notIn_seq (pv 4) (pe_lc (own := [("_law_row", 8)]) (g := gName 8) (tt := tYes) rfl sc__law_ps_huge.nd (pi_list (pv 3)) (blkOk_by (N := N__law_ps_huge) (sc := defScope s__law_ps_huge) (by decide +kernel)) (fun _ _ _ _ _ => pg_name (i := 8) sc__law_ps_huge.nd rfl (Or.inl rfl)) (fun _ _ _ _ _ => pts_nil) (fun _ _ _ _ _ => (pe_ix (show IxR _ (rIxT K) from ix_tup) (pv 8) pe_int (fun _ _ => rfl)))) rfl) (pw_and1 (pt_cmpR op_lt (pe_callB call_len_seq (by rfl) p.blt.len PySem.boot_len (pa_cons (pv 3) pa_nil)) pe_int (nomark _)))))
      (pss_cons (ps_set (i := 5) sc__law_ps_huge.nd rfl (Or.inl rfl) (pe_callG ((ok__law_coin p).mono (by decide)) hg hr (by rfl) p.d__law_coin.gl p.d__law_coin.kp p.d__law_coin.bd pass0 (pa_cons (pv 0) (pa_cons (pe_op op_add (pe_callB call_len_seq (by rfl) p.blt.len PySem.boot_len (pa_cons (pv 3) pa_nil)) pe_int) pa_nil))))
      (pss_cons (ps_set (i := 6) sc__law_ps_huge.nd rfl (Or.inr rfl) (pe_lc (own := [("_law_row", 8)]) (g := gName 8) (tt := tYes) rfl sc__law_ps_huge.nd (pi_list (pe_slice sl_list (pv 3) po_none (po_some (pv 5)))) (blkOk_by (N := N__law_ps_huge) (sc := defScope s__law_ps_huge) (by decide +kernel)) (fun _ _ _ _ _ => pg_name (i := 8) sc__law_ps_huge.nd rfl (Or.inl rfl)) (fun _ _ _ _ _ => pts_nil) (fun _ _ _ _ _ => (pe_ix (show IxR _ (rIxT K) from ix_tup) (pv 8) pe_int (fun _ _ => rfl)))))
      (pss_cons (ps_setLc (i := 7) (own := [("_law_turn", 9)]) (g := gName 9) (tt := tYes) rfl sc__law_ps_huge.nd rfl rfl (sw_true rfl rfl rfl (by decide +kernel)) (pi_range1 (by rfl) p.blt.range (pa_cons (pe_ifExp (pt_cmpR (op_neD hr.units) (pv 6) (pe_lst pa_nil) (nomark _)) (pe_callG ((ok__law_coin p).mono (by decide)) hg hr (by rfl) p.d__law_coin.gl p.d__law_coin.kp p.d__law_coin.bd pass0 (pa_cons (pv 0) (pa_cons pe_int pa_nil))) pe_int) pa_nil)) (blkOk_by (N := N__law_ps_huge) (sc := defScope s__law_ps_huge) (by decide +kernel)) (fun _ _ _ _ _ => pg_name (i := 9) sc__law_ps_huge.nd rfl (Or.inl rfl)) (fun _ _ _ _ _ => pts_nil) (fun _ _ _ _ _ => (pe_ix (show IxR _ (rIxL K) from ix_list) (pv 6) (pe_callG ((ok__law_coin p).mono (by decide)) hg hr (by rfl) p.d__law_coin.gl p.d__law_coin.kp p.d__law_coin.bd pass0 (pa_cons (pv 0) (pa_cons (pe_callB call_len_seq (by rfl) p.blt.len PySem.boot_len (pa_cons (pv 6) pa_nil)) pa_nil))) (fun _ _ => rfl))))
      (pss_one (ps_expr (pe_bm PySem.F.plainAttrs_list PySem.F.slot_list_insert PySem.F.type_list_insert mt_insert (pv 3) (pa_cons (pv 5) (pa_cons (pe_tup (pa_cons (pv 4) (pa_cons (pe_lst (pa_cons (pe_tup (pa_cons pe_str (pa_cons (pe_op op_sub (pe_op op_powW pe_int pe_int) (pe_callG ((ok__law_coin p).mono (by decide)) hg hr (by rfl) p.d__law_coin.gl p.d__law_coin.kp p.d__law_coin.bd pass0 (pa_cons (pv 0) (pa_cons pe_int pa_nil)))) (pa_cons (pv 7) pa_nil)))) (pa_cons (pe_tup (pa_cons pe_str (pa_cons (pe_op op_powW pe_int pe_int) (pa_cons (pe_lst pa_nil) pa_nil)))) pa_nil))) pa_nil))) pa_nil)))))))) pss_nil)))
      (pss_one (ps_ret (pv 3))))),
    fun C xc => (so_seq (so_par (i := 2) (j := 3) (by decide) (so_cons (so_lit_lst (so_lits_cons (so_lit_c (sca_str _) rfl) (so_lits_cons (so_lit_c (sca_str _) rfl) (so_lits_cons (so_lit_c (sca_str _) rfl) (so_lits_cons (so_lit_c (sca_str _) rfl) so_lits_nil))))) (so_cons (so_listOf (so_cons (so_frz (i := 1)) so_nil)) so_nil)))
      (so_seq (so_for (so_itL (so_frz (i := 2))) (so_gname (i := 4))
      (so_ifS (so_tand (so_test (so_op sr_in (so_var (i := 4)) (so_firsts (h := 3) (r := 8)))) (so_test (so_op sr_B (so_f sc_len (so_cons (so_var (i := 3)) so_nil)) (so_c (sca_int _)))))
      (so_seq (so_asg (so_callP (so_cons (so_var (i := 0)) (so_cons (so_op sr_I0 (so_f sc_len (so_cons (so_var (i := 3)) so_nil)) (so_c (sca_int _))) so_nil))) (so_gname (i := 5)))
      (so_seq (so_asg (so_firstsTo (h := 3) (s := 5) (r := 8)) (so_gname (i := 6)))
      (so_seq (so_asg (so_lc (so_rng1 (so_if (so_test (so_op sr_neD (so_var (i := 6)) (so_lit_lst so_lits_nil))) (so_callP (so_cons (so_var (i := 0)) (so_cons (so_c (sca_int _)) so_nil))) (so_c (sca_int _)))) so_yes (so_ixL (so_var (i := 6)) (so_callP (so_cons (so_var (i := 0)) (so_cons (so_f sc_len (so_cons (so_var (i := 6)) so_nil)) so_nil))))) (so_gname (i := 7)))
      (so_drop (so_insD (so_var (i := 3)) (so_var (i := 5)) (so_tup (so_cons (so_var (i := 4)) (so_cons (so_lst (so_cons (so_tup (so_cons (so_c (sca_str _)) (so_cons (so_op sr_I0 (so_op sr_I (so_c (sca_int _)) (so_c (sca_int _))) (so_callP (so_cons (so_var (i := 0)) (so_cons (so_c (sca_int _)) so_nil)))) (so_cons (so_mov (i := 7)) so_nil)))) (so_cons (so_tup (so_cons (so_c (sca_str _)) (so_cons (so_op sr_I (so_c (sca_int _)) (so_c (sca_int _))) (so_cons (so_lit_lst so_lits_nil) so_nil)))) so_nil))) so_nil)))))))) so_next))
      (so_ret (so_frz (i := 3)))))⟩) val__law_ps_huge
def w__law_ps_shown (p : Prog K mg) : Tw := fun ds Q => ∃ rs : Rows, ds = [dBook p.C_Book rs] ∧ rowsC rs ∧ Q (.list [dRows rs, dS (rs.map (·.1)), .int rs.length])
theorem ar__law_ps_shown (p : Prog K mg) : ∀ ds G, w__law_ps_shown p ds G → ds.length = 1 := by
  rintro ds G ⟨_, rfl, _⟩
  rfl
def k__law_ps_shown (p : Prog K mg) : KS := (kRet (kMk true 3 (kCons (kProp p.C_Book "words" (w_Book_words p) (kVar 0)) (kCons (kMeth p.C_Book "names" (w_Book_names p) 0 (kVar 0) kNil) (kCons (kLenO p.C_Book (w_Book___len__ p) (kCons (kVar 0) kNil)) kNil)))))
theorem val__law_ps_shown (p : Prog K mg) : ∀ ds G, w__law_ps_shown p ds G → k__law_ps_shown p ⟨ds.map Sl.fz ++ [], [], 0⟩ (edT G) := by
  rintro ds Gq ⟨rs, rfl, rc, q⟩
  unfold k__law_ps_shown
  walk_at "ev"
  refine ⟨rs, rfl, rc, rs, rfl, rc.1, rs, rfl, rc.1, ?_⟩
  exact ⟨⟨by omega, by have := rc.1; omega⟩, q⟩
theorem ok__law_ps_shown (p : Prog K mg) : FnG P w K mg base CX0 64 p.f__law_ps_shown p.fd__law_ps_shown ["_law_made"] (spT (w__law_ps_shown p)) :=
  okT p.d__law_ps_shown.F sc__law_ps_shown (by decide) (ar__law_ps_shown p) (fun cdv A outer s H E hg hr => ⟨_, (pss_one (ps_ret (pe_lst (pa_cons (pe_propG (pv 0) p.cl_Book p.pp_Book_words ((ok_Book_words p).mono (by decide)) hg hr p.d_Book_words.bd pass0 (by rfl)) (pa_cons (pe_meth0G (pv 0) p.cl_Book p.me_Book_names ((ok_Book_names p).mono (by decide)) hg hr p.d_Book_names.bd pass0) (pa_cons (pe_callB (call_lenO p.le_Book ((ok_Book___len__ p).mono (by decide)) hg hr p.d_Book___len__.bd pass0) (by rfl) p.blt.len PySem.boot_len (pa_cons (pv 0) pa_nil)) pa_nil)))))),
    fun C xc => (so_ret (so_lst (so_cons (so_prop (so_var (i := 0))) (so_cons (so_meth (so_var (i := 0)) so_nil) (so_cons (so_lenO (so_cons (so_var (i := 0)) so_nil)) so_nil)))))⟩) (val__law_ps_shown p)
theorem kb_Book___init___1_w (p : Prog K mg) : KBinds K p.fd_Book___init__ ["self", "words"] ["words"] (gKwM 1 [0, 1]) (gKwMV 1 [0, 1]) := by
  obtain ⟨oc, od, kV, doc, pm, an, cdv, ct, osl, e, lk, hcd⟩ := p.d_Book___init__.F.ex
  rw [e]
  refine kb_ofM (by decide) fun us ws hu hl => ?_
  match us, hu, ws, hl with
  | [u0], _, [], h => simp at h
  | [u0], _, x0 :: r, _ => rfl
def w__law_ps_right : Tw := fun ds Q => ds = [] ∧ Q (.bool true)
theorem ar__law_ps_right : ∀ ds G, w__law_ps_right ds G → ds.length + 1 = 1 := by
  rintro ds G ⟨rfl, _⟩
  rfl
def kr__law_ps_right_1 (p : Prog K mg) : KS := (kRet (kAndV (kOp (vEq false) (kLenO p.C_Book (w_Book___len__ p) (kCons (kVar 6) kNil)) (kF 1 vLen (kCons (kVar 1) kNil))) (kAndV (kCallT w__law_ps_same 2 (kCons (kMeth p.C_Book "names" (w_Book_names p) 0 (kVar 6) kNil) (kCons (kIx true (kVar 4) (kC (.int 1))) kNil))) (kCallT w__law_ps_same 2 (kCons (kProp p.C_Book "words" (w_Book_words p) (kVar 6)) (kCons (kIx true (kVar 4) (kC (.int 0))) kNil))))))
def kr__law_ps_right_2 (p : Prog K mg) : KS := (kSeq (kDrop (kApp (kIx true (kVar 7) (kC (.int 0))) (kLit (.tuple [(.str ("w" : String)), (.tuple [(.int 0), (.list [])])]))))
  (kr__law_ps_right_1 p))
def kr__law_ps_right_3 (p : Prog K mg) : KS := (kSeq (kIfS (kTOr (kTNot (kTest (kCallT w__law_ps_same 2 (kCons (kVar 7) (kCons (kVar 4) kNil))))) (kTNot (kTest (kEqO p.C_Book (w_Book___eq__ p) false (kVar 6) (kVar 3)))))
  (kRet (kC (.bool false)))
  kNext)
  (kr__law_ps_right_2 p))
def kr__law_ps_right_4 (p : Prog K mg) : KS := (kSeq (kAsg (kCallT (w__law_ps_shown p) 1 (kCons (kVar 6) kNil)) (kgName 7))
  (kr__law_ps_right_3 p))
def kr__law_ps_right_5 (p : Prog K mg) : KS := (kSeq (kIfS (kTOr (kTNot (kTest (kCallE (kCons (kMov 5) kNil)))) (kTNot (kTest (kCallT w__law_ps_same 2 (kCons (kCallT (w__law_ps_shown p) 1 (kCons (kVar 3) kNil)) (kCons (kVar 4) kNil))))))
  (kRet (kC (.bool false)))
  kNext)
  (kr__law_ps_right_4 p))
def kr__law_ps_right_6 (p : Prog K mg) : KS := (kSeq (kIfS (kTOr (kTNot (kTest (kEqO p.C_Book (w_Book___eq__ p) false (kVar 6) (kVar 3)))) (kTest (kEqO p.C_Book (w_Book___eq__ p) true (kVar 3) (kMake p.C_Book (w_Book___init__ p) 1 (kCons (kIx true (kCallT (w__law_ps_shown p) 1 (kCons (kVar 3) kNil)) (kC (.int 0))) kNil)))))
  (kRet (kC (.bool false)))
  kNext)
  (kr__law_ps_right_5 p))
def kr__law_ps_right_7 (p : Prog K mg) : KS := (kSeq (kAsg (kMakeK p.C_Book (w_Book___init__ p) [0] 1 (kCons (kCallT (w__law_copied 60) 1 (kCons (kVar 1) kNil)) kNil)) (kgName 6))
  (kr__law_ps_right_6 p))
def kr__law_ps_right_8 (p : Prog K mg) : KS := (kSeq (kAsg (kCallT (w__law_ps_shown p) 1 (kCons (kVar 3) kNil)) (kgName 5))
  (kr__law_ps_right_7 p))
def kr__law_ps_right_9 (p : Prog K mg) : KS := (kSeq (kIfS (kTNot (kTest (kCallT w__law_ps_same 2 (kCons (kCallT (w__law_ps_shown p) 1 (kCons (kVar 3) kNil)) (kCons (kVar 4) kNil)))))
  (kRet (kC (.bool false)))
  kNext)
  (kr__law_ps_right_8 p))
def kr__law_ps_right_10 (p : Prog K mg) : KS := (kSeq (kDrop (kReverse (kVar 2)))
  (kr__law_ps_right_9 p))
def kr__law_ps_right_11 (p : Prog K mg) : KS := (kSeq (kSpoilK 24 2)
  (kr__law_ps_right_10 p))
def kr__law_ps_right_12 (p : Prog K mg) : KS := (kSeq (kAsg (kMk true 3 (kCons (kCallT w__law_ps_told_rows 1 (kCons (kVar 1) kNil)) (kCons (kLc (kIt true (kFrz 1)) 8 kYes (kIx false (kVar 8) (kC (.int 0)))) (kCons (kF 1 vLen (kCons (kVar 1) kNil)) kNil)))) (kgName 4))
  (kr__law_ps_right_11 p))
def kr__law_ps_right_13 (p : Prog K mg) : KS := (kSeq (kIfS (kTNot (kTest (kCallT w__law_ps_same 2 (kCons (kVar 2) (kCons (kVar 1) kNil)))))
  (kRet (kC (.bool false)))
  kNext)
  (kr__law_ps_right_12 p))
def kr__law_ps_right_14 (p : Prog K mg) : KS := (kSeq (kAsg (kMake p.C_Book (w_Book___init__ p) 1 (kCons (kVar 2) kNil)) (kgName 3))
  (kr__law_ps_right_13 p))
def kr__law_ps_right_15 (p : Prog K mg) : KS := (kSeq (kAsg (kCallT (w__law_copied 60) 1 (kCons (kVar 1) kNil)) (kgName 2))
  (kr__law_ps_right_14 p))
def kr__law_ps_right_16 (p : Prog K mg) : KS := (kSeq (kIfS (kTest (kOp (vEq false) (kCallP 1 w__law_coin 1 (kCons (kVar 0) (kCons (kC (.int 2)) kNil))) (kC (.int 0))))
  (kAsg (kCallPS 1000 w__law_ps_huge 1 (kCons (kFrz 0) (kCons (kFrz 1) kNil))) (kgName 1))
  kNext)
  (kr__law_ps_right_15 p))
def k__law_ps_right (p : Prog K mg) : KS := (kSeq (kAsg (kCallPS 3000000000000 w__law_ps_any_rows 0 (kCons (kFrz 0) kNil)) (kgName 1))
  (kr__law_ps_right_16 p))
local macro_rules | `(tactic| walk_at "go") => `(tactic| ((first | unfold kr__law_ps_right_1 | unfold kr__law_ps_right_2 | unfold kr__law_ps_right_3 | unfold kr__law_ps_right_4 | unfold kr__law_ps_right_5 | unfold kr__law_ps_right_6 | unfold kr__law_ps_right_7 | unfold kr__law_ps_right_8 | unfold kr__law_ps_right_9 | unfold kr__law_ps_right_10 | unfold kr__law_ps_right_11 | unfold kr__law_ps_right_12 | unfold kr__law_ps_right_13 | unfold kr__law_ps_right_14 | unfold kr__law_ps_right_15 | unfold kr__law_ps_right_16); walk_at "ev"))
theorem val__law_ps_right (p : Prog K mg) : ∀ ds G, w__law_ps_right ds G → k__law_ps_right p ⟨.pu :: (ds.map Sl.fz ++ [.jk, .jk, .jk, .jk, .jk, .jk, .jk, .jk]), [], 10000000000000⟩ (edP G) := by
  rintro ds Gq ⟨rfl, q⟩
  unfold k__law_ps_right
  have main : ∀ (rs : Rows) (k : Int), GoodR rs → 0 ≤ k → kr__law_ps_right_15 p ⟨[.pu, .fz (dRows rs), .jk, .jk, .jk, .jk, .jk, .jk, .jk], [], k⟩ (edP Gq) := by
    intro rs k g k0
    obtain ⟨sh, nlr⟩ := g.rows
    have gl := g.lst
    obtain ⟨shl, nll⟩ := gl.rows
    have sd := sh.dp
    have sw := sh.wd
    walk_at "go"
    refine ⟨dRows rs, rfl, by omega, hd_rows rs, by omega, ?_⟩
    walk_at "ev"
    walk_at "go"
    refine ⟨rs, rfl, by have := g.len; omega, good_okW g, rfl, ?_⟩
    walk_at "ev"
    walk_at "go"
    refine ⟨dRows rs, dRows rs, rfl, rfl, sh.mono (by decide) (by decide), ?_⟩
    walk_at "ev"
    walk_at "go"
    refine ⟨rs, rfl, g, ?_⟩
    walk_at "ev"
    have rl := g.len
    refine lc_inv (j := 8) true rs dRow (fun pre acc m => acc = (pre.map (·.1)).map PyData.str ∧ pre.length ≤ rs.length ∧ m = k) rfl rfl (fun pre acc m hp => by obtain ⟨rfl, h, _⟩ := hp; rw [List.length_map, List.length_map]; omega) (fun pre x post acc m Y X hl hp hY hX => ?_) (fun acc m hp => ?_) [] _ ⟨rfl, Nat.zero_le _, rfl⟩
    · obtain ⟨rfl, h, rfl⟩ := hp
      have hlen := congrArg List.length hl
      rw [List.length_append, List.length_cons] at hlen
      rw [show dRow x = .tuple [.str x.1, dM x.2] from rfl]
      walk_at "ev"
      exact hY _ true _ _ rfl rfl ⟨by simp, by rw [List.length_append, List.length_singleton]; omega, rfl⟩
    · obtain ⟨rfl, h, rfl⟩ := hp
      walk_at "ev"
      walk_at "go"
      refine ⟨⟨by show (dRows rs).depth < 24; omega, by show G.wd (dRows rs) ≤ 10000000; omega⟩, ?_⟩
      rw [show (spD (.list (rs.map dRow)) 0).1 = .list ((spDs (rs.map dRow) 0).1 ++ [.int (-((spDs (rs.map dRow) 0).2 + 1))]) by simp only [spD]]
      obtain ⟨sl, hsl⟩ : ∃ sl, (spDs (rs.map dRow) 0).1 ++ [PyData.int (-((spDs (rs.map dRow) 0).2 + 1))] = sl := ⟨_, rfl⟩
      rw [hsl]
      obtain ⟨shS, nS⟩ := gl.shown
      have rcl := gl.rc
      have seq : SeqAt.shaped (dRows (lstR rs)) = true := gl.shaped
      have wShown : ∀ Q : D → Prop, Q (shownD (lstR rs)) → w__law_ps_shown p [objD p.C_Book ["kept"] [.list ((lstR rs).map dRow)]] Q := fun Q h => ⟨lstR rs, rfl, rcl, h⟩
      have ed : (PyData.list [dRows (lstR rs), .list ((rs.map (·.1)).map PyData.str), .int (rs.length : Int)]) = shownD (lstR rs) := by
        unfold shownD
        rw [lstR_names, lstR_len]
      rw [ed]
      walk_at "go"
      walk_at "go"
      refine wShown _ ?_
      refine ⟨shownD (lstR rs), shownD (lstR rs), rfl, rfl, shS.mono (by decide) (by decide), ?_⟩
      walk_at "ev"
      walk_at "go"
      refine wShown _ ?_
      walk_at "ev"
      walk_at "go"
      refine ⟨dRows rs, rfl, by omega, hd_rows rs, by omega, ?_⟩
      walk_at "ev"
      refine ⟨rs, rfl, by omega, good_okW g, rfl, ?_⟩
      walk_at "ev"
      have eqR : PyData.eqv (dRows (lstR rs)) (dRows (lstR rs)) = true := SeqAt.eqv_refl _ (SeqAt.canLay_of_shaped seq)
      have wEq : ∀ Q : D → Prop, Q (.bool true) → w_Book___eq__ p [objD p.C_Book ["kept"] [.list ((lstR rs).map dRow)], objD p.C_Book ["kept"] [.list ((lstR rs).map dRow)]] Q := fun Q h => ⟨lstR rs, lstR rs, rfl, seq, seq, by rw [eqR]; exact h⟩
      walk_at "go"
      refine wEq _ ?_
      walk_at "ev"
      refine wShown _ ?_
      walk_at "ev"
      refine ⟨lstR rs, rfl, by rw [lstR_len]; omega, good_okW gl, rfl, ?_⟩
      rw [g.lst2]
      walk_at "ev"
      refine wEq _ ?_
      walk_at "ev"
      walk_at "go"
      have same : ∀ Q : D → Prop, Q (.bool true) → w__law_ps_same [shownD (lstR rs), shownD (lstR rs)] Q := fun Q h => ⟨shownD (lstR rs), shownD (lstR rs), rfl, rfl, shS.mono (by decide) (by decide), h⟩
      refine ⟨shS.mono (by decide) (by decide), by show G.nl (shownD (lstR rs)) ≤ 40000; omega, ?_⟩
      refine wShown _ ?_
      refine same _ ?_
      walk_at "ev"
      walk_at "go"
      refine wShown _ ?_
      walk_at "ev"
      walk_at "go"
      refine same _ ?_
      walk_at "ev"
      refine wEq _ ?_
      walk_at "ev"
      walk_at "go"
      refine ⟨by rw [lstR_len]; omega, ?_⟩
      walk_at "go"
      have sr := gl.rows.1
      have sn := gl.nms
      refine ⟨lstR rs, rfl, by rw [lstR_len]; omega, ?_⟩
      rw [lstR_len]
      refine ⟨⟨by omega, by omega⟩, ?_⟩
      rw [decide_eq_true rfl]
      walk_at "ev"
      refine ⟨lstR rs, rfl, by rw [lstR_len]; omega, dS ((lstR rs).map (·.1)), dS ((lstR rs).map (·.1)), rfl, rfl, sn.mono (by decide) (by decide), ?_⟩
      walk_at "ev"
      refine ⟨lstR rs, rfl, rcl, dRows (lstR rs), dRows (lstR rs), rfl, rfl, sr.mono (by decide) (by decide), ?_⟩
      exact ⟨k0, q⟩
  walk_at "ev"
  refine ⟨⟨by decide, by decide⟩, rfl, fun rs ar => ?_⟩
  have g : GoodR rs := by
    rcases ar with ⟨a, b⟩ | ⟨a, st, ne, b, c, d⟩
    · exact good_rows (by decide) (by decide) (by decide) (by decide) (by omega) b
    · exact good_rows (by decide) (by decide) b c a d
  walk_at "go"
  refine ⟨⟨by decide, by decide⟩, 2, rfl, by decide, by decide, fun c c0 c1 => ?_⟩
  walk_at "ev"
  refine iteB (fun z => ?_) (fun z => main rs _ g (by decide))
  refine ⟨⟨by decide, by decide⟩, rs, rfl, g, fun hs gh => main hs _ gh (by decide)⟩
theorem ok__law_ps_right (p : Prog K mg) : FnG P w K mg base CX0 89 p.f__law_ps_right p.fd__law_ps_right ["_law_sack"] (spP 10000000000000 w__law_ps_right) :=
  okP p.d__law_ps_right.F sc__law_ps_right (by decide) ar__law_ps_right (by decide) (fun cdv A outer s H E hg hr => ⟨_, (pss_cons (ps_set (i := 1) sc__law_ps_right.nd rfl (Or.inl rfl) (pe_callG ((ok__law_ps_any_rows p).mono (by decide)) hg hr (by rfl) p.d__law_ps_any_rows.gl p.d__law_ps_any_rows.kp p.d__law_ps_any_rows.bd pass0 (pa_cons (pv 0) pa_nil)))
      (pss_cons (ps_if (pt_cmpR op_eq (pe_callG ((ok__law_coin p).mono (by decide)) hg hr (by rfl) p.d__law_coin.gl p.d__law_coin.kp p.d__law_coin.bd pass0 (pa_cons (pv 0) (pa_cons pe_int pa_nil))) pe_int (nomark _))
      (pss_one (ps_set (i := 1) sc__law_ps_right.nd rfl (Or.inl rfl) (pe_callG ((ok__law_ps_huge p).mono (by decide)) hg hr (by rfl) p.d__law_ps_huge.gl p.d__law_ps_huge.kp p.d__law_ps_huge.bd pass0 (pa_cons (pv 0) (pa_cons (pv 1) pa_nil))))) pss_nil)
      (pss_cons (ps_set (i := 2) sc__law_ps_right.nd rfl (Or.inl rfl) (pe_callG ((ok__law_copied p 60).mono (by decide)) hg hr (by rfl) p.d__law_copied.gl p.d__law_copied.kp p.d__law_copied.bd pass0 (pa_cons (pv 1) pa_nil)))
      (pss_cons (ps_set (i := 3) sc__law_ps_right.nd rfl (Or.inl rfl) (pe_makeG p.mk_Book ((ok_Book___init__ p).mono (by decide)) hg hr (by rfl) p.mg_Book p.d_Book___init__.bd pass0 (pa_cons (pv 2) pa_nil)))
      (pss_cons (ps_if (pt_not (pt_val (pe_callG ((ok__law_ps_same p).mono (by decide)) hg hr (by rfl) p.d__law_ps_same.gl p.d__law_ps_same.kp p.d__law_ps_same.bd pass0 (pa_cons (pv 2) (pa_cons (pv 1) pa_nil)))))
      (pss_one (ps_ret pe_bl)) pss_nil)
      (pss_cons (ps_set (i := 4) sc__law_ps_right.nd rfl (Or.inl rfl) (pe_lst (pa_cons (pe_callG ((ok__law_ps_told_rows p).mono (by decide)) hg hr (by rfl) p.d__law_ps_told_rows.gl p.d__law_ps_told_rows.kp p.d__law_ps_told_rows.bd pass0 (pa_cons (pv 1) pa_nil)) (pa_cons (pe_lc (own := [("_law_row", 8)]) (g := gName 8) (tt := tYes) rfl sc__law_ps_right.nd (pi_list (pv 1)) (blkOk_by (N := N__law_ps_right) (sc := defScope s__law_ps_right) (by decide +kernel)) (fun _ _ _ _ _ => pg_name (i := 8) sc__law_ps_right.nd rfl (Or.inl rfl)) (fun _ _ _ _ _ => pts_nil) (fun _ _ _ _ _ => (pe_ix (show IxR _ (rIxT K) from ix_tup) (pv 8) pe_int (fun _ _ => rfl)))) (pa_cons (pe_callB call_len_seq (by rfl) p.blt.len PySem.boot_len (pa_cons (pv 1) pa_nil)) pa_nil)))))
      (pss_cons (ps_expr (pe_callG ((ok__law_ps_spoil p 24).mono (by decide)) hg hr (by rfl) p.d__law_ps_spoil.gl p.d__law_ps_spoil.kp p.d__law_ps_spoil.bd pass0 (pa_cons (pv 2) (pa_cons (pe_lst (pa_cons pe_int pa_nil)) pa_nil))))
      (pss_cons (ps_expr (pe_bm0 PySem.F.plainAttrs_list PySem.F.slot_list_reverse PySem.F.type_list_reverse mt_reverse (pv 2)))
      (pss_cons (ps_if (pt_not (pt_val (pe_callG ((ok__law_ps_same p).mono (by decide)) hg hr (by rfl) p.d__law_ps_same.gl p.d__law_ps_same.kp p.d__law_ps_same.bd pass0 (pa_cons (pe_callG ((ok__law_ps_shown p).mono (by decide)) hg hr (by rfl) p.d__law_ps_shown.gl p.d__law_ps_shown.kp p.d__law_ps_shown.bd pass0 (pa_cons (pv 3) pa_nil)) (pa_cons (pv 4) pa_nil)))))
      (pss_one (ps_ret pe_bl)) pss_nil)
      (pss_cons (ps_set (i := 5) sc__law_ps_right.nd rfl (Or.inl rfl) (pe_callG ((ok__law_ps_shown p).mono (by decide)) hg hr (by rfl) p.d__law_ps_shown.gl p.d__law_ps_shown.kp p.d__law_ps_shown.bd pass0 (pa_cons (pv 3) pa_nil)))
      (pss_cons (ps_set (i := 6) sc__law_ps_right.nd rfl (Or.inl rfl) (pe_makeKG p.mk_Book ((ok_Book___init__ p).mono (by decide)) hg hr (by rfl) p.mg_Book (kb_Book___init___1_w p) pass0 (pk_cons (pe_callG ((ok__law_copied p 60).mono (by decide)) hg hr (by rfl) p.d__law_copied.gl p.d__law_copied.kp p.d__law_copied.bd pass0 (pa_cons (pv 1) pa_nil)) pk_nil)))
      (pss_cons (ps_if (PW.pt (pw_or (pt_not (pt_cmpR (op_eqO p.eq_Book ((ok_Book___eq__ p).mono (by decide)) hg hr p.d_Book___eq__.bd pass0) (pv 6) (pv 3) (nomark _))) (pw_or1 (pt_cmpR (op_neO p.eq_Book ((ok_Book___eq__ p).mono (by decide)) hg hr p.d_Book___eq__.bd pass0) (pv 3) (pe_makeG p.mk_Book ((ok_Book___init__ p).mono (by decide)) hg hr (by rfl) p.mg_Book p.d_Book___init__.bd pass0 (pa_cons (pe_ix ix_list (pe_callG ((ok__law_ps_shown p).mono (by decide)) hg hr (by rfl) p.d__law_ps_shown.gl p.d__law_ps_shown.kp p.d__law_ps_shown.bd pass0 (pa_cons (pv 3) pa_nil)) pe_int (fun _ _ => rfl)) pa_nil)) (nomark _)))))
      (pss_one (ps_ret pe_bl)) pss_nil)
      (pss_cons (ps_if (PW.pt (pw_or (pt_not (pt_val (pe_callG ((ok__law_ps_alone p).mono (by decide)) hg hr (by rfl) p.d__law_ps_alone.gl p.d__law_ps_alone.kp p.d__law_ps_alone.bd pass0 (pa_cons (pv 5) pa_nil)))) (pw_or1 (pt_not (pt_val (pe_callG ((ok__law_ps_same p).mono (by decide)) hg hr (by rfl) p.d__law_ps_same.gl p.d__law_ps_same.kp p.d__law_ps_same.bd pass0 (pa_cons (pe_callG ((ok__law_ps_shown p).mono (by decide)) hg hr (by rfl) p.d__law_ps_shown.gl p.d__law_ps_shown.kp p.d__law_ps_shown.bd pass0 (pa_cons (pv 3) pa_nil)) (pa_cons (pv 4) pa_nil))))))))
      (pss_one (ps_ret pe_bl)) pss_nil)
      (pss_cons (ps_set (i := 7) sc__law_ps_right.nd rfl (Or.inl rfl) (pe_callG ((ok__law_ps_shown p).mono (by decide)) hg hr (by rfl) p.d__law_ps_shown.gl p.d__law_ps_shown.kp p.d__law_ps_shown.bd pass0 (pa_cons (pv 6) pa_nil)))
      (pss_cons (ps_if (PW.pt (pw_or (pt_not (pt_val (pe_callG ((ok__law_ps_same p).mono (by decide)) hg hr (by rfl) p.d__law_ps_same.gl p.d__law_ps_same.kp p.d__law_ps_same.bd pass0 (pa_cons (pv 7) (pa_cons (pv 4) pa_nil))))) (pw_or1 (pt_not (pt_cmpR (op_eqO p.eq_Book ((ok_Book___eq__ p).mono (by decide)) hg hr p.d_Book___eq__.bd pass0) (pv 6) (pv 3) (nomark _))))))
      (pss_one (ps_ret pe_bl)) pss_nil)
      (pss_cons (ps_expr (pe_bm PySem.F.plainAttrs_list PySem.F.slot_list_append PySem.F.type_list_append mt_append (pe_ix ix_list (pv 7) pe_int (fun _ _ => rfl)) (pa_cons (pe_tup (pa_cons pe_str (pa_cons (pe_tup (pa_cons pe_int (pa_cons (pe_lst pa_nil) pa_nil))) pa_nil))) pa_nil)))
      (pss_one (ps_ret (pe_and (pe_cmpR op_eq (pe_callB (call_lenO p.le_Book ((ok_Book___len__ p).mono (by decide)) hg hr p.d_Book___len__.bd pass0) (by rfl) p.blt.len PySem.boot_len (pa_cons (pv 6) pa_nil)) (pe_callB call_len_seq (by rfl) p.blt.len PySem.boot_len (pa_cons (pv 1) pa_nil)) (nomark _)) (pe_and (pe_callG ((ok__law_ps_same p).mono (by decide)) hg hr (by rfl) p.d__law_ps_same.gl p.d__law_ps_same.kp p.d__law_ps_same.bd pass0 (pa_cons (pe_meth0G (pv 6) p.cl_Book p.me_Book_names ((ok_Book_names p).mono (by decide)) hg hr p.d_Book_names.bd pass0) (pa_cons (pe_ix ix_list (pv 4) pe_int (fun _ _ => rfl)) pa_nil))) (pe_one (pe_callG ((ok__law_ps_same p).mono (by decide)) hg hr (by rfl) p.d__law_ps_same.gl p.d__law_ps_same.kp p.d__law_ps_same.bd pass0 (pa_cons (pe_propG (pv 6) p.cl_Book p.pp_Book_words ((ok_Book_words p).mono (by decide)) hg hr p.d_Book_words.bd pass0 (by rfl)) (pa_cons (pe_ix ix_list (pv 4) pe_int (fun _ _ => rfl)) pa_nil)))))))))))))))))))))))),
    fun C xc => (so_seq (so_asg (so_callPS (so_cons (so_frz (i := 0)) so_nil)) (so_gname (i := 1)))
      (so_seq (so_ifS (so_test (so_op sr_eq (so_callP (so_cons (so_var (i := 0)) (so_cons (so_c (sca_int _)) so_nil))) (so_c (sca_int _))))
      (so_asg (so_callPS (so_cons (so_frz (i := 0)) (so_cons (so_frz (i := 1)) so_nil))) (so_gname (i := 1))) so_next)
      (so_seq (so_asg (so_callT (so_cons (so_var (i := 1)) so_nil)) (so_gname (i := 2)))
      (so_seq (so_asg (so_make (so_cons (so_var (i := 2)) so_nil)) (so_gname (i := 3)))
      (so_seq (so_ifS (so_tnot (so_test (so_callT (so_cons (so_var (i := 2)) (so_cons (so_var (i := 1)) so_nil)))))
      (so_ret (so_c (sca_bl _))) so_next)
      (so_seq (so_asg (so_lst (so_cons (so_callT (so_cons (so_var (i := 1)) so_nil)) (so_cons (so_lc (so_itL (so_frz (i := 1))) so_yes (so_ixT (so_var (i := 8)) (so_c (sca_int _)))) (so_cons (so_f sc_len (so_cons (so_var (i := 1)) so_nil)) so_nil)))) (so_gname (i := 4)))
      (so_seq (so_spoilK (m := 24) (o := 2))
      (so_seq (so_drop (so_reverse (so_var (i := 2))))
      (so_seq (so_ifS (so_tnot (so_test (so_callT (so_cons (so_callT (so_cons (so_var (i := 3)) so_nil)) (so_cons (so_var (i := 4)) so_nil)))))
      (so_ret (so_c (sca_bl _))) so_next)
      (so_seq (so_asg (so_callT (so_cons (so_var (i := 3)) so_nil)) (so_gname (i := 5)))
      (so_seq (so_asg (so_makeK (ix := [0]) (so_cons (so_callT (so_cons (so_var (i := 1)) so_nil)) so_nil)) (so_gname (i := 6)))
      (so_seq (so_ifS (so_tor (so_tnot (so_test (so_eqO (so_var (i := 6)) (so_var (i := 3))))) (so_test (so_eqO (so_var (i := 3)) (so_make (so_cons (so_ixL (so_callT (so_cons (so_var (i := 3)) so_nil)) (so_c (sca_int _))) so_nil)))))
      (so_ret (so_c (sca_bl _))) so_next)
      (so_seq (so_ifS (so_tor (so_tnot (so_test (so_callE (so_cons (so_mov (i := 5)) so_nil)))) (so_tnot (so_test (so_callT (so_cons (so_callT (so_cons (so_var (i := 3)) so_nil)) (so_cons (so_var (i := 4)) so_nil))))))
      (so_ret (so_c (sca_bl _))) so_next)
      (so_seq (so_asg (so_callT (so_cons (so_var (i := 6)) so_nil)) (so_gname (i := 7)))
      (so_seq (so_ifS (so_tor (so_tnot (so_test (so_callT (so_cons (so_var (i := 7)) (so_cons (so_var (i := 4)) so_nil))))) (so_tnot (so_test (so_eqO (so_var (i := 6)) (so_var (i := 3))))))
      (so_ret (so_c (sca_bl _))) so_next)
      (so_seq (so_drop (so_app (so_ixL (so_var (i := 7)) (so_c (sca_int _))) (so_lit_tup (so_lits_cons (so_lit_c (sca_str _) rfl) (so_lits_cons (so_lit_tup (so_lits_cons (so_lit_c (sca_int _) rfl) (so_lits_cons (so_lit_lst so_lits_nil) so_lits_nil))) so_lits_nil)))))
      (so_ret (so_andV (so_op sr_eq (so_lenO (so_cons (so_var (i := 6)) so_nil)) (so_f sc_len (so_cons (so_var (i := 1)) so_nil))) (so_andV (so_callT (so_cons (so_meth (so_var (i := 6)) so_nil) (so_cons (so_ixL (so_var (i := 4)) (so_c (sca_int _))) so_nil))) (so_callT (so_cons (so_prop (so_var (i := 6))) (so_cons (so_ixL (so_var (i := 4)) (so_c (sca_int _))) so_nil))))))))))))))))))))))⟩) (val__law_ps_right p)
def spLaw (K : PySem.W.Frag) : Sp := fun vs H Q _ => ∃ (a : Addr) (ns : List Int), vs = [.ref a] ∧ SqL K H a (ns.map V.int) ∧ ns.length ≤ 63 ∧ (∀ z ∈ ns, Builtin.Int.intBits z ≤ 1048576) ∧ ∀ H', Q (.bl true) H'
theorem ok_law (p : Prog K mg) : FnG P w K mg base CX0 90 p.f_law p.fd_law ["_law_script"] (spLaw K) := by
  refine okG p.d_law.F sc_law (fun vs H Q E h => ?_) (fun cdv A outer s H vs Q E hg hr h => ?_)
  · obtain ⟨a, ns, rfl, _⟩ := h
    rfl
  · obtain ⟨a, ns, rfl, hs, hl, hb, q⟩ := h
    refine ⟨_, (pss_cons (ps_for PassesOwn.never rfl (pi_range1 (by rfl) p.blt.range (pa_cons (pe_callB (call_max2 rfl) (by rfl) p.blt.max (by decide +kernel) (pa_cons pe_int (pa_cons (pe_callB (call_min2 rfl) (by rfl) p.blt.min (by decide +kernel) (pa_cons pe_int (pa_cons (pe_callB call_len_seq (by rfl) p.blt.len PySem.boot_len (pa_cons (pv 0) pa_nil)) pa_nil))) pa_nil))) pa_nil)) (pg_name (i := 1) sc_law.nd rfl (Or.inl rfl))
      (pss_one (ps_if (pt_not (pt_val (pe_callG ((ok__law_ps_right p).mono (by decide)) hg hr (by rfl) p.d__law_ps_right.gl p.d__law_ps_right.kp p.d__law_ps_right.bd pass0 (pa_cons (pe_callG ((ok__law_ps_sack p).mono (by decide)) hg hr (by rfl) p.d__law_ps_sack.gl p.d__law_ps_sack.kp p.d__law_ps_sack.bd pass0 (pa_cons (pv 0) (pa_cons (pv 1) pa_nil))) pa_nil))))
      (pss_one (ps_ret pe_bl)) pss_nil)))
      (pss_one (ps_ret pe_bl))), ?_⟩
    refine ⟨_, rfl, a, _, rfl, .inl hs, _, _, rfl, _, _, rfl, ?_⟩
    rw [ints_len]
    refine ⟨_, rfl, by split <;> split <;> omega, by split <;> split <;> omega, ?_⟩
    refine for_range (fun i σ H1 => ∃ y1, σ = [some (.ref a), y1] ∧ Same H H1) ⟨none, rfl, Same.refl _⟩ (fun i σ H1 hi hI => ?_) (fun σ H1 hI => q _)
    obtain ⟨y1, rfl, sm⟩ := hI
    have hi' : i ≤ 64 := by
      revert hi
      split <;> split <;> omega
    -- right(sack(script, rank))
    refine ⟨_, rfl, _, rfl, a, ns, _, rfl, sm.seq hs, hl, hb, by omega, by omega, fun H2 u sm2 un pu => ?_⟩
    refine ⟨u, _, [], [], [], _, rfl, pu, by omega, .nil, (fun z => nomatch z), ⟨rfl, rfl⟩, fun d v H4 ed fr pu4 nw => ?_⟩
    subst ed
    obtain ⟨S, rp, _⟩ := nw
    cases rp
    refine ⟨_, rfl, iteF ?_⟩
    refine ⟨_, rfl, fun b o e => fr b o (sm2 b o (sm b o e)) fun z => ?_⟩
    rw [z] at e
    have := sm _ _ e
    rw [un] at this
    cases this
theorem all_mk {l : PySem.W.OpenLaw} {w : World} {K : PySem.W.Frag} {h : Heap} {mg : Str → Option Value} {fa : Addr} (X : K.In h) (G : h.Ns mainGlobals mg) (hfa : mg "law" = some (.ref fa))
    {f0 f1 f2 f3 f4 f5 f6 f7 f8 f9 f10 f11 f12 f13 f14 f15 f16 f17 f18 f19 f20 f21 f22 f23 f24 f25 f26 f27 f28 f29 f30 f31 f32 f33 f34 f35 f36 f37 f38 f39 f40 f41 f42 f43 f44 : Addr} {od0 an0 : Option Addr} {sl0 : Array (Option Value)} {oc0 kV0 dc0 pm0 cd0 ct0 : Value} {od1 an1 : Option Addr} {sl1 : Array (Option Value)} {oc1 kV1 dc1 pm1 cd1 ct1 : Value} {od2 an2 : Option Addr} {sl2 : Array (Option Value)} {oc2 kV2 dc2 pm2 cd2 ct2 : Value} {od3 an3 : Option Addr} {sl3 : Array (Option Value)} {oc3 kV3 dc3 pm3 cd3 ct3 : Value} {od4 an4 : Option Addr} {sl4 : Array (Option Value)} {oc4 kV4 dc4 pm4 cd4 ct4 : Value} {od5 an5 : Option Addr} {sl5 : Array (Option Value)} {oc5 kV5 dc5 pm5 cd5 ct5 : Value} {od6 an6 : Option Addr} {sl6 : Array (Option Value)} {oc6 kV6 dc6 pm6 cd6 ct6 : Value} {od7 an7 : Option Addr} {sl7 : Array (Option Value)} {oc7 kV7 dc7 pm7 cd7 ct7 : Value} {od8 an8 : Option Addr} {sl8 : Array (Option Value)} {oc8 kV8 dc8 pm8 cd8 ct8 : Value} {od9 an9 : Option Addr} {sl9 : Array (Option Value)} {oc9 kV9 dc9 pm9 cd9 ct9 : Value} {od10 an10 : Option Addr} {sl10 : Array (Option Value)} {oc10 kV10 dc10 pm10 cd10 ct10 : Value} {od11 an11 : Option Addr} {sl11 : Array (Option Value)} {oc11 kV11 dc11 pm11 cd11 ct11 : Value} {od12 an12 : Option Addr} {sl12 : Array (Option Value)} {oc12 kV12 dc12 pm12 cd12 ct12 : Value} {od13 an13 : Option Addr} {sl13 : Array (Option Value)} {oc13 kV13 dc13 pm13 cd13 ct13 : Value} {od14 an14 : Option Addr} {sl14 : Array (Option Value)} {oc14 kV14 dc14 pm14 cd14 ct14 : Value} {od15 an15 : Option Addr} {sl15 : Array (Option Value)} {oc15 kV15 dc15 pm15 cd15 ct15 : Value} {od16 an16 : Option Addr} {sl16 : Array (Option Value)} {oc16 kV16 dc16 pm16 cd16 ct16 : Value} {od17 an17 : Option Addr} {sl17 : Array (Option Value)} {oc17 kV17 dc17 pm17 cd17 ct17 : Value} {od18 an18 : Option Addr} {sl18 : Array (Option Value)} {oc18 kV18 dc18 pm18 cd18 ct18 : Value} {od19 an19 : Option Addr} {sl19 : Array (Option Value)} {oc19 kV19 dc19 pm19 cd19 ct19 : Value} {od20 an20 : Option Addr} {sl20 : Array (Option Value)} {oc20 kV20 dc20 pm20 cd20 ct20 : Value} {od21 an21 : Option Addr} {sl21 : Array (Option Value)} {oc21 kV21 dc21 pm21 cd21 ct21 : Value} {od22 an22 : Option Addr} {sl22 : Array (Option Value)} {oc22 kV22 dc22 pm22 cd22 ct22 : Value} {od23 an23 : Option Addr} {sl23 : Array (Option Value)} {oc23 kV23 dc23 pm23 cd23 ct23 : Value} {od24 an24 : Option Addr} {sl24 : Array (Option Value)} {oc24 kV24 dc24 pm24 cd24 ct24 : Value} {od25 an25 : Option Addr} {sl25 : Array (Option Value)} {oc25 kV25 dc25 pm25 cd25 ct25 : Value} {od26 an26 : Option Addr} {sl26 : Array (Option Value)} {oc26 kV26 dc26 pm26 cd26 ct26 : Value} {od27 an27 : Option Addr} {sl27 : Array (Option Value)} {oc27 kV27 dc27 pm27 cd27 ct27 : Value} {od28 an28 : Option Addr} {sl28 : Array (Option Value)} {oc28 kV28 dc28 pm28 cd28 ct28 : Value} {od29 an29 : Option Addr} {sl29 : Array (Option Value)} {oc29 kV29 dc29 pm29 cd29 ct29 : Value} {od30 an30 : Option Addr} {sl30 : Array (Option Value)} {oc30 kV30 dc30 pm30 cd30 ct30 : Value} {od31 an31 : Option Addr} {sl31 : Array (Option Value)} {oc31 kV31 dc31 pm31 cd31 ct31 : Value} {od32 an32 : Option Addr} {sl32 : Array (Option Value)} {oc32 kV32 dc32 pm32 cd32 ct32 : Value} {od33 an33 : Option Addr} {sl33 : Array (Option Value)} {oc33 kV33 dc33 pm33 cd33 ct33 : Value} {od34 an34 : Option Addr} {sl34 : Array (Option Value)} {oc34 kV34 dc34 pm34 cd34 ct34 : Value} {od35 an35 : Option Addr} {sl35 : Array (Option Value)} {oc35 kV35 dc35 pm35 cd35 ct35 : Value} {od36 an36 : Option Addr} {sl36 : Array (Option Value)} {oc36 kV36 dc36 pm36 cd36 ct36 : Value} {od37 an37 : Option Addr} {sl37 : Array (Option Value)} {oc37 kV37 dc37 pm37 cd37 ct37 : Value} {od38 an38 : Option Addr} {sl38 : Array (Option Value)} {oc38 kV38 dc38 pm38 cd38 ct38 : Value} {od39 an39 : Option Addr} {sl39 : Array (Option Value)} {oc39 kV39 dc39 pm39 cd39 ct39 : Value} {od40 an40 : Option Addr} {sl40 : Array (Option Value)} {oc40 kV40 dc40 pm40 cd40 ct40 : Value} {od41 an41 : Option Addr} {sl41 : Array (Option Value)} {oc41 kV41 dc41 pm41 cd41 ct41 : Value} {od42 an42 : Option Addr} {sl42 : Array (Option Value)} {oc42 kV42 dc42 pm42 cd42 ct42 : Value} {od43 an43 : Option Addr} {sl43 : Array (Option Value)} {oc43 kV43 dc43 pm43 cd43 ct43 : Value} {od44 an44 : Option Addr} {sl44 : Array (Option Value)} {oc44 kV44 dc44 pm44 cd44 ct44 : Value}
    {C_Book : Addr} (aC_Book : PySem.W.nsIn K mainGlobals "Book" = some (some (.ref C_Book)))
    (a0 : PySem.W.nsIn K mainGlobals "is_effect" = some (some (.ref f0))) (l0 : K.lookup f0 = some ⟨oc0, od0, .func (PySem.W.fnOf "is_effect" "is_effect" (defArgs s_is_effect) (defBody s_is_effect) (defScope s_is_effect) .none kV0 dc0 pm0 an0 cd0 ct0), sl0⟩) (c0 : PySem.W.codeIn K cd0 "is_effect" = true) (k0 : PySem.W.keepIn K (.ref f0) = true)
    (a1 : PySem.W.nsIn K mainGlobals "least_of" = some (some (.ref f1))) (l1 : K.lookup f1 = some ⟨oc1, od1, .func (PySem.W.fnOf "least_of" "least_of" (defArgs s_least_of) (defBody s_least_of) (defScope s_least_of) .none kV1 dc1 pm1 an1 cd1 ct1), sl1⟩) (c1 : PySem.W.codeIn K cd1 "least_of" = true) (k1 : PySem.W.keepIn K (.ref f1) = true)
    (a2 : PySem.W.nsIn K mainGlobals "checked" = some (some (.ref f2))) (l2 : K.lookup f2 = some ⟨oc2, od2, .func (PySem.W.fnOf "checked" "checked" (defArgs s_checked) (defBody s_checked) (defScope s_checked) .none kV2 dc2 pm2 an2 cd2 ct2), sl2⟩) (c2 : PySem.W.codeIn K cd2 "checked" = true) (k2 : PySem.W.keepIn K (.ref f2) = true)
    (a3 : PySem.W.nsIn K mainGlobals "join_of" = some (some (.ref f3))) (l3 : K.lookup f3 = some ⟨oc3, od3, .func (PySem.W.fnOf "join_of" "join_of" (defArgs s_join_of) (defBody s_join_of) (defScope s_join_of) .none kV3 dc3 pm3 an3 cd3 ct3), sl3⟩) (c3 : PySem.W.codeIn K cd3 "join_of" = true) (k3 : PySem.W.keepIn K (.ref f3) = true)
    (a4 : PySem.W.nsIn K mainGlobals "under_of" = some (some (.ref f4))) (l4 : K.lookup f4 = some ⟨oc4, od4, .func (PySem.W.fnOf "under_of" "under_of" (defArgs s_under_of) (defBody s_under_of) (defScope s_under_of) .none kV4 dc4 pm4 an4 cd4 ct4), sl4⟩) (c4 : PySem.W.codeIn K cd4 "under_of" = true) (k4 : PySem.W.keepIn K (.ref f4) = true)
    (a5 : PySem.W.nsIn K mainGlobals "power_of" = some (some (.ref f5))) (l5 : K.lookup f5 = some ⟨oc5, od5, .func (PySem.W.fnOf "power_of" "power_of" (defArgs s_power_of) (defBody s_power_of) (defScope s_power_of) .none kV5 dc5 pm5 an5 cd5 ct5), sl5⟩) (c5 : PySem.W.codeIn K cd5 "power_of" = true) (k5 : PySem.W.keepIn K (.ref f5) = true)
    (a6 : PySem.W.nsIn K mainGlobals "is_name" = some (some (.ref f6))) (l6 : K.lookup f6 = some ⟨oc6, od6, .func (PySem.W.fnOf "is_name" "is_name" (defArgs s_is_name) (defBody s_is_name) (defScope s_is_name) .none kV6 dc6 pm6 an6 cd6 ct6), sl6⟩) (c6 : PySem.W.codeIn K cd6 "is_name" = true) (k6 : PySem.W.keepIn K (.ref f6) = true)
    (a7 : PySem.W.nsIn K mainGlobals "copy_of" = some (some (.ref f7))) (l7 : K.lookup f7 = some ⟨oc7, od7, .func (PySem.W.fnOf "copy_of" "copy_of" (defArgs s_copy_of) (defBody s_copy_of) (defScope s_copy_of) .none kV7 dc7 pm7 an7 cd7 ct7), sl7⟩) (c7 : PySem.W.codeIn K cd7 "copy_of" = true) (k7 : PySem.W.keepIn K (.ref f7) = true)
    (a8 : PySem.W.nsIn K mainGlobals "is_long_step" = some (some (.ref f8))) (l8 : K.lookup f8 = some ⟨oc8, od8, .func (PySem.W.fnOf "is_long_step" "is_long_step" (defArgs s_is_long_step) (defBody s_is_long_step) (defScope s_is_long_step) .none kV8 dc8 pm8 an8 cd8 ct8), sl8⟩) (c8 : PySem.W.codeIn K cd8 "is_long_step" = true) (k8 : PySem.W.keepIn K (.ref f8) = true)
    (a9 : PySem.W.nsIn K mainGlobals "check_phrase" = some (some (.ref f9))) (l9 : K.lookup f9 = some ⟨oc9, od9, .func (PySem.W.fnOf "check_phrase" "check_phrase" (defArgs s_check_phrase) (defBody s_check_phrase) (defScope s_check_phrase) .none kV9 dc9 pm9 an9 cd9 ct9), sl9⟩) (c9 : PySem.W.codeIn K cd9 "check_phrase" = true) (k9 : PySem.W.keepIn K (.ref f9) = true)
    (a10 : PySem.W.nsIn K mainGlobals "names_in" = some (some (.ref f10))) (l10 : K.lookup f10 = some ⟨oc10, od10, .func (PySem.W.fnOf "names_in" "names_in" (defArgs s_names_in) (defBody s_names_in) (defScope s_names_in) .none kV10 dc10 pm10 an10 cd10 ct10), sl10⟩) (c10 : PySem.W.codeIn K cd10 "names_in" = true) (k10 : PySem.W.keepIn K (.ref f10) = true)
    (a11 : PySem.W.nsIn K mainGlobals "phrase_effect" = some (some (.ref f11))) (l11 : K.lookup f11 = some ⟨oc11, od11, .func (PySem.W.fnOf "phrase_effect" "phrase_effect" (defArgs s_phrase_effect) (defBody s_phrase_effect) (defScope s_phrase_effect) .none kV11 dc11 pm11 an11 cd11 ct11), sl11⟩) (c11 : PySem.W.codeIn K cd11 "phrase_effect" = true) (k11 : PySem.W.keepIn K (.ref f11) = true)
    (a12 : PySem.W.nsIn K mainGlobals "step_effect" = some (some (.ref f12))) (l12 : K.lookup f12 = some ⟨oc12, od12, .func (PySem.W.fnOf "step_effect" "step_effect" (defArgs s_step_effect) (defBody s_step_effect) (defScope s_step_effect) .none kV12 dc12 pm12 an12 cd12 ct12), sl12⟩) (c12 : PySem.W.codeIn K cd12 "step_effect" = true) (k12 : PySem.W.keepIn K (.ref f12) = true)
    (a13 : PySem.W.findIn K (.ref C_Book) "__init__" = some (some (.ref f13))) (if_13 : PySem.W.isFn K (.ref f13) = true)
    (l13 : K.lookup f13 = some ⟨oc13, od13, .func (PySem.W.fnOf "__init__" "Book.__init__" (defArgs s_Book___init__) (defBody s_Book___init__) (defScope s_Book___init__) .none kV13 dc13 pm13 an13 cd13 ct13), sl13⟩) (c13 : PySem.W.codeIn K cd13 "Book.__init__" = true) (k13 : PySem.W.keepIn K (.ref f13) = true)
    {pr14 : Addr} {rest14 : List Value} (a14 : PySem.W.findIn K (.ref C_Book) "words" = some (some (.ref pr14))) (pr_14 : PySem.W.recIn K pr14 "property" = some (.ref f14 :: rest14)) (pg_14 : PySem.W.specialIn K (.ref pr14) "__get__" = some (some (.builtin "property.__get__"))) (pt_14 : PySem.W.takesIn K (.ref pr14) = some true)
    (l14 : K.lookup f14 = some ⟨oc14, od14, .func (PySem.W.fnOf "words" "Book.words" (defArgs s_Book_words) (defBody s_Book_words) (defScope s_Book_words) .none kV14 dc14 pm14 an14 cd14 ct14), sl14⟩) (c14 : PySem.W.codeIn K cd14 "Book.words" = true) (k14 : PySem.W.keepIn K (.ref f14) = true)
    (a15 : PySem.W.findIn K (.ref C_Book) "names" = some (some (.ref f15))) (if_15 : PySem.W.isFn K (.ref f15) = true)
    (l15 : K.lookup f15 = some ⟨oc15, od15, .func (PySem.W.fnOf "names" "Book.names" (defArgs s_Book_names) (defBody s_Book_names) (defScope s_Book_names) .none kV15 dc15 pm15 an15 cd15 ct15), sl15⟩) (c15 : PySem.W.codeIn K cd15 "Book.names" = true) (k15 : PySem.W.keepIn K (.ref f15) = true)
    (a16 : PySem.W.findIn K (.ref C_Book) "effects_held" = some (some (.ref f16))) (if_16 : PySem.W.isFn K (.ref f16) = true)
    (l16 : K.lookup f16 = some ⟨oc16, od16, .func (PySem.W.fnOf "effects_held" "Book.effects_held" (defArgs s_Book_effects_held) (defBody s_Book_effects_held) (defScope s_Book_effects_held) .none kV16 dc16 pm16 an16 cd16 ct16), sl16⟩) (c16 : PySem.W.codeIn K cd16 "Book.effects_held" = true) (k16 : PySem.W.keepIn K (.ref f16) = true)
    (a17 : PySem.W.findIn K (.ref C_Book) "effect" = some (some (.ref f17))) (if_17 : PySem.W.isFn K (.ref f17) = true)
    (l17 : K.lookup f17 = some ⟨oc17, od17, .func (PySem.W.fnOf "effect" "Book.effect" (defArgs s_Book_effect) (defBody s_Book_effect) (defScope s_Book_effect) .none kV17 dc17 pm17 an17 cd17 ct17), sl17⟩) (c17 : PySem.W.codeIn K cd17 "Book.effect" = true) (k17 : PySem.W.keepIn K (.ref f17) = true)
    (a18 : PySem.W.findIn K (.ref C_Book) "__len__" = some (some (.ref f18))) (if_18 : PySem.W.isFn K (.ref f18) = true)
    (ty_18 : PySem.W.typeIn K (.ref f18) = some (.type "function"))
    (l18 : K.lookup f18 = some ⟨oc18, od18, .func (PySem.W.fnOf "__len__" "Book.__len__" (defArgs s_Book___len__) (defBody s_Book___len__) (defScope s_Book___len__) .none kV18 dc18 pm18 an18 cd18 ct18), sl18⟩) (c18 : PySem.W.codeIn K cd18 "Book.__len__" = true) (k18 : PySem.W.keepIn K (.ref f18) = true)
    (a19 : PySem.W.findIn K (.ref C_Book) "__eq__" = some (some (.ref f19))) (if_19 : PySem.W.isFn K (.ref f19) = true)
    (ne_19 : PySem.W.findIn K (.ref C_Book) "__ne__" = some (some (.builtin "object.__ne__"))) (ob_19 : PySem.W.mroIn K C_Book (.type "object") = some true)
    (l19 : K.lookup f19 = some ⟨oc19, od19, .func (PySem.W.fnOf "__eq__" "Book.__eq__" (defArgs s_Book___eq__) (defBody s_Book___eq__) (defScope s_Book___eq__) .none kV19 dc19 pm19 an19 cd19 ct19), sl19⟩) (c19 : PySem.W.codeIn K cd19 "Book.__eq__" = true) (k19 : PySem.W.keepIn K (.ref f19) = true)
    (a20 : PySem.W.nsIn K mainGlobals "_law_coin" = some (some (.ref f20))) (l20 : K.lookup f20 = some ⟨oc20, od20, .func (PySem.W.fnOf "_law_coin" "_law_coin" (defArgs s__law_coin) (defBody s__law_coin) (defScope s__law_coin) .none kV20 dc20 pm20 an20 cd20 ct20), sl20⟩) (c20 : PySem.W.codeIn K cd20 "_law_coin" = true) (k20 : PySem.W.keepIn K (.ref f20) = true)
    (a21 : PySem.W.nsIn K mainGlobals "_law_words" = some (some (.ref f21))) (l21 : K.lookup f21 = some ⟨oc21, od21, .func (PySem.W.fnOf "_law_words" "_law_words" (defArgs s__law_words) (defBody s__law_words) (defScope s__law_words) .none kV21 dc21 pm21 an21 cd21 ct21), sl21⟩) (c21 : PySem.W.codeIn K cd21 "_law_words" = true) (k21 : PySem.W.keepIn K (.ref f21) = true)
    (a22 : PySem.W.nsIn K mainGlobals "_law_copied" = some (some (.ref f22))) (l22 : K.lookup f22 = some ⟨oc22, od22, .func (PySem.W.fnOf "_law_copied" "_law_copied" (defArgs s__law_copied) (defBody s__law_copied) (defScope s__law_copied) .none kV22 dc22 pm22 an22 cd22 ct22), sl22⟩) (c22 : PySem.W.codeIn K cd22 "_law_copied" = true) (k22 : PySem.W.keepIn K (.ref f22) = true)
    (a23 : PySem.W.nsIn K mainGlobals "_law_ps_sack" = some (some (.ref f23))) (l23 : K.lookup f23 = some ⟨oc23, od23, .func (PySem.W.fnOf "_law_ps_sack" "_law_ps_sack" (defArgs s__law_ps_sack) (defBody s__law_ps_sack) (defScope s__law_ps_sack) .none kV23 dc23 pm23 an23 cd23 ct23), sl23⟩) (c23 : PySem.W.codeIn K cd23 "_law_ps_sack" = true) (k23 : PySem.W.keepIn K (.ref f23) = true)
    (a24 : PySem.W.nsIn K mainGlobals "_law_ps_least" = some (some (.ref f24))) (l24 : K.lookup f24 = some ⟨oc24, od24, .func (PySem.W.fnOf "_law_ps_least" "_law_ps_least" (defArgs s__law_ps_least) (defBody s__law_ps_least) (defScope s__law_ps_least) .none kV24 dc24 pm24 an24 cd24 ct24), sl24⟩) (c24 : PySem.W.codeIn K cd24 "_law_ps_least" = true) (k24 : PySem.W.keepIn K (.ref f24) = true)
    (a25 : PySem.W.nsIn K mainGlobals "_law_ps_order" = some (some (.ref f25))) (l25 : K.lookup f25 = some ⟨oc25, od25, .func (PySem.W.fnOf "_law_ps_order" "_law_ps_order" (defArgs s__law_ps_order) (defBody s__law_ps_order) (defScope s__law_ps_order) .none kV25 dc25 pm25 an25 cd25 ct25), sl25⟩) (c25 : PySem.W.codeIn K cd25 "_law_ps_order" = true) (k25 : PySem.W.keepIn K (.ref f25) = true)
    (a26 : PySem.W.nsIn K mainGlobals "_law_ps_drawn" = some (some (.ref f26))) (l26 : K.lookup f26 = some ⟨oc26, od26, .func (PySem.W.fnOf "_law_ps_drawn" "_law_ps_drawn" (defArgs s__law_ps_drawn) (defBody s__law_ps_drawn) (defScope s__law_ps_drawn) .none kV26 dc26 pm26 an26 cd26 ct26), sl26⟩) (c26 : PySem.W.codeIn K cd26 "_law_ps_drawn" = true) (k26 : PySem.W.keepIn K (.ref f26) = true)
    (a27 : PySem.W.nsIn K mainGlobals "_law_ps_do" = some (some (.ref f27))) (l27 : K.lookup f27 = some ⟨oc27, od27, .func (PySem.W.fnOf "_law_ps_do" "_law_ps_do" (defArgs s__law_ps_do) (defBody s__law_ps_do) (defScope s__law_ps_do) .none kV27 dc27 pm27 an27 cd27 ct27), sl27⟩) (c27 : PySem.W.codeIn K cd27 "_law_ps_do" = true) (k27 : PySem.W.keepIn K (.ref f27) = true)
    (a28 : PySem.W.nsIn K mainGlobals "_law_ps_both" = some (some (.ref f28))) (l28 : K.lookup f28 = some ⟨oc28, od28, .func (PySem.W.fnOf "_law_ps_both" "_law_ps_both" (defArgs s__law_ps_both) (defBody s__law_ps_both) (defScope s__law_ps_both) .none kV28 dc28 pm28 an28 cd28 ct28), sl28⟩) (c28 : PySem.W.codeIn K cd28 "_law_ps_both" = true) (k28 : PySem.W.keepIn K (.ref f28) = true)
    (a29 : PySem.W.nsIn K mainGlobals "_law_ps_beneath" = some (some (.ref f29))) (l29 : K.lookup f29 = some ⟨oc29, od29, .func (PySem.W.fnOf "_law_ps_beneath" "_law_ps_beneath" (defArgs s__law_ps_beneath) (defBody s__law_ps_beneath) (defScope s__law_ps_beneath) .none kV29 dc29 pm29 an29 cd29 ct29), sl29⟩) (c29 : PySem.W.codeIn K cd29 "_law_ps_beneath" = true) (k29 : PySem.W.keepIn K (.ref f29) = true)
    (a30 : PySem.W.nsIn K mainGlobals "_law_ps_same" = some (some (.ref f30))) (l30 : K.lookup f30 = some ⟨oc30, od30, .func (PySem.W.fnOf "_law_ps_same" "_law_ps_same" (defArgs s__law_ps_same) (defBody s__law_ps_same) (defScope s__law_ps_same) .none kV30 dc30 pm30 an30 cd30 ct30), sl30⟩) (c30 : PySem.W.codeIn K cd30 "_law_ps_same" = true) (k30 : PySem.W.keepIn K (.ref f30) = true)
    (a31 : PySem.W.nsIn K mainGlobals "_law_ps_spoil" = some (some (.ref f31))) (l31 : K.lookup f31 = some ⟨oc31, od31, .func (PySem.W.fnOf "_law_ps_spoil" "_law_ps_spoil" (defArgs s__law_ps_spoil) (defBody s__law_ps_spoil) (defScope s__law_ps_spoil) .none kV31 dc31 pm31 an31 cd31 ct31), sl31⟩) (c31 : PySem.W.codeIn K cd31 "_law_ps_spoil" = true) (k31 : PySem.W.keepIn K (.ref f31) = true)
    (a32 : PySem.W.nsIn K mainGlobals "_law_ps_alone" = some (some (.ref f32))) (l32 : K.lookup f32 = some ⟨oc32, od32, .func (PySem.W.fnOf "_law_ps_alone" "_law_ps_alone" (defArgs s__law_ps_alone) (defBody s__law_ps_alone) (defScope s__law_ps_alone) .none kV32 dc32 pm32 an32 cd32 ct32), sl32⟩) (c32 : PySem.W.codeIn K cd32 "_law_ps_alone" = true) (k32 : PySem.W.keepIn K (.ref f32) = true)
    (a33 : PySem.W.nsIn K mainGlobals "_law_ps_labels" = some (some (.ref f33))) (l33 : K.lookup f33 = some ⟨oc33, od33, .func (PySem.W.fnOf "_law_ps_labels" "_law_ps_labels" (defArgs s__law_ps_labels) (defBody s__law_ps_labels) (defScope s__law_ps_labels) .none kV33 dc33 pm33 an33 cd33 ct33), sl33⟩) (c33 : PySem.W.codeIn K cd33 "_law_ps_labels" = true) (k33 : PySem.W.keepIn K (.ref f33) = true)
    (a34 : PySem.W.nsIn K mainGlobals "_law_ps_steps" = some (some (.ref f34))) (l34 : K.lookup f34 = some ⟨oc34, od34, .func (PySem.W.fnOf "_law_ps_steps" "_law_ps_steps" (defArgs s__law_ps_steps) (defBody s__law_ps_steps) (defScope s__law_ps_steps) .none kV34 dc34 pm34 an34 cd34 ct34), sl34⟩) (c34 : PySem.W.codeIn K cd34 "_law_ps_steps" = true) (k34 : PySem.W.keepIn K (.ref f34) = true)
    (a35 : PySem.W.nsIn K mainGlobals "_law_ps_phrase" = some (some (.ref f35))) (l35 : K.lookup f35 = some ⟨oc35, od35, .func (PySem.W.fnOf "_law_ps_phrase" "_law_ps_phrase" (defArgs s__law_ps_phrase) (defBody s__law_ps_phrase) (defScope s__law_ps_phrase) .none kV35 dc35 pm35 an35 cd35 ct35), sl35⟩) (c35 : PySem.W.codeIn K cd35 "_law_ps_phrase" = true) (k35 : PySem.W.keepIn K (.ref f35) = true)
    (a36 : PySem.W.nsIn K mainGlobals "_law_ps_step" = some (some (.ref f36))) (l36 : K.lookup f36 = some ⟨oc36, od36, .func (PySem.W.fnOf "_law_ps_step" "_law_ps_step" (defArgs s__law_ps_step) (defBody s__law_ps_step) (defScope s__law_ps_step) .none kV36 dc36 pm36 an36 cd36 ct36), sl36⟩) (c36 : PySem.W.codeIn K cd36 "_law_ps_step" = true) (k36 : PySem.W.keepIn K (.ref f36) = true)
    (a37 : PySem.W.nsIn K mainGlobals "_law_ps_rows" = some (some (.ref f37))) (l37 : K.lookup f37 = some ⟨oc37, od37, .func (PySem.W.fnOf "_law_ps_rows" "_law_ps_rows" (defArgs s__law_ps_rows) (defBody s__law_ps_rows) (defScope s__law_ps_rows) .none kV37 dc37 pm37 an37 cd37 ct37), sl37⟩) (c37 : PySem.W.codeIn K cd37 "_law_ps_rows" = true) (k37 : PySem.W.keepIn K (.ref f37) = true)
    (a38 : PySem.W.nsIn K mainGlobals "_law_ps_plain_rows" = some (some (.ref f38))) (l38 : K.lookup f38 = some ⟨oc38, od38, .func (PySem.W.fnOf "_law_ps_plain_rows" "_law_ps_plain_rows" (defArgs s__law_ps_plain_rows) (defBody s__law_ps_plain_rows) (defScope s__law_ps_plain_rows) .none kV38 dc38 pm38 an38 cd38 ct38), sl38⟩) (c38 : PySem.W.codeIn K cd38 "_law_ps_plain_rows" = true) (k38 : PySem.W.keepIn K (.ref f38) = true)
    (a39 : PySem.W.nsIn K mainGlobals "_law_ps_any_rows" = some (some (.ref f39))) (l39 : K.lookup f39 = some ⟨oc39, od39, .func (PySem.W.fnOf "_law_ps_any_rows" "_law_ps_any_rows" (defArgs s__law_ps_any_rows) (defBody s__law_ps_any_rows) (defScope s__law_ps_any_rows) .none kV39 dc39 pm39 an39 cd39 ct39), sl39⟩) (c39 : PySem.W.codeIn K cd39 "_law_ps_any_rows" = true) (k39 : PySem.W.keepIn K (.ref f39) = true)
    (a40 : PySem.W.nsIn K mainGlobals "_law_ps_told_rows" = some (some (.ref f40))) (l40 : K.lookup f40 = some ⟨oc40, od40, .func (PySem.W.fnOf "_law_ps_told_rows" "_law_ps_told_rows" (defArgs s__law_ps_told_rows) (defBody s__law_ps_told_rows) (defScope s__law_ps_told_rows) .none kV40 dc40 pm40 an40 cd40 ct40), sl40⟩) (c40 : PySem.W.codeIn K cd40 "_law_ps_told_rows" = true) (k40 : PySem.W.keepIn K (.ref f40) = true)
    (a41 : PySem.W.nsIn K mainGlobals "_law_ps_huge" = some (some (.ref f41))) (l41 : K.lookup f41 = some ⟨oc41, od41, .func (PySem.W.fnOf "_law_ps_huge" "_law_ps_huge" (defArgs s__law_ps_huge) (defBody s__law_ps_huge) (defScope s__law_ps_huge) .none kV41 dc41 pm41 an41 cd41 ct41), sl41⟩) (c41 : PySem.W.codeIn K cd41 "_law_ps_huge" = true) (k41 : PySem.W.keepIn K (.ref f41) = true)
    (a42 : PySem.W.nsIn K mainGlobals "_law_ps_shown" = some (some (.ref f42))) (l42 : K.lookup f42 = some ⟨oc42, od42, .func (PySem.W.fnOf "_law_ps_shown" "_law_ps_shown" (defArgs s__law_ps_shown) (defBody s__law_ps_shown) (defScope s__law_ps_shown) .none kV42 dc42 pm42 an42 cd42 ct42), sl42⟩) (c42 : PySem.W.codeIn K cd42 "_law_ps_shown" = true) (k42 : PySem.W.keepIn K (.ref f42) = true)
    (a43 : PySem.W.nsIn K mainGlobals "_law_ps_right" = some (some (.ref f43))) (l43 : K.lookup f43 = some ⟨oc43, od43, .func (PySem.W.fnOf "_law_ps_right" "_law_ps_right" (defArgs s__law_ps_right) (defBody s__law_ps_right) (defScope s__law_ps_right) .none kV43 dc43 pm43 an43 cd43 ct43), sl43⟩) (c43 : PySem.W.codeIn K cd43 "_law_ps_right" = true) (k43 : PySem.W.keepIn K (.ref f43) = true)
    (a44 : PySem.W.nsIn K mainGlobals "law" = some (some (.ref f44))) (l44 : K.lookup f44 = some ⟨oc44, od44, .func (PySem.W.fnOf "law" "law" (defArgs s_law) (defBody s_law) (defScope s_law) .none kV44 dc44 pm44 an44 cd44 ct44), sl44⟩) (c44 : PySem.W.codeIn K cd44 "law" = true) (k44 : PySem.W.keepIn K (.ref f44) = true)
    (z0 : PySem.W.nsIn K mainGlobals "len" = some none)
    (z1 : PySem.W.nsIn K mainGlobals "range" = some none)
    (z2 : PySem.W.nsIn K mainGlobals "max" = some none)
    (z3 : PySem.W.nsIn K mainGlobals "min" = some none)
    (z4 : PySem.W.nsIn K mainGlobals "abs" = some none)
    (z5 : PySem.W.nsIn K mainGlobals "int" = some none)
    (z6 : PySem.W.nsIn K mainGlobals "list" = some none)
    (z7 : PySem.W.nsIn K mainGlobals "tuple" = some none)
    (z8 : PySem.W.nsIn K mainGlobals "repr" = some none)
    (z9 : PySem.W.nsIn K mainGlobals "all" = some none)
    (z10 : PySem.W.nsIn K mainGlobals "any" = some none)
    (z11 : PySem.W.nsIn K mainGlobals "sum" = some none)
    (z12 : PySem.W.nsIn K mainGlobals "sorted" = some none)
    (z13 : PySem.W.nsIn K mainGlobals "isinstance" = some none)
    (z14 : PySem.W.nsIn K mainGlobals "set" = some none)
    (z15 : PySem.W.nsIn K mainGlobals "enumerate" = some none)
    (z16 : PySem.W.nsIn K mainGlobals "zip" = some none)
    (z17 : PySem.W.nsIn K mainGlobals "str" = some none)
    (z18 : PySem.W.nsIn K mainGlobals "divmod" = some none)
    (z19 : PySem.W.nsIn K mainGlobals "dict" = some none)
    (z20 : PySem.W.nsIn K mainGlobals "bool" = some none)
    (z21 : PySem.W.nsIn K mainGlobals "reversed" = some none)
    (pg_Book : PySem.W.plainGet K C_Book Str.empty = true) (hd_Book : PySem.W.hasDictIn K C_Book = true) (po_Book : PySem.W.plainOver K C_Book = true) (sa_Book : PySem.W.findIn K (.ref C_Book) "__setattr__" = some (some (.builtin "object.__setattr__"))) (mk_Book : PySem.W.makesIn K C_Book = true) (kc_Book : PySem.W.keepIn K (.ref C_Book) = true)
    (ia_Book : PySem.W.findIn K (.ref C_Book) "__class__" = some (some (.builtin "object.__class__"))) (im_Book : PySem.W.mroIn K C_Book (.type "object") = some true) (ik_Book : PySem.W.kitOne K (.ref C_Book) (.ref C_Book) = some true)
    (nf_Book_kept : PySem.W.findIn K (.ref C_Book) "kept" = some none)
    (isn0 : PySem.W.specialIn K (.builtin "object.__class__") "__get__" = some (some (.builtin "getset_descriptor.__get__"))) (ist0 : PySem.W.takesIn K (.builtin "object.__class__") = some true)
    {tk_LETTERS : Tok} (g_LETTERS : PySem.W.nsIn K mainGlobals "LETTERS" = some (some (.str ("abcdefghijklmnopqrstuvwxyz" : String) tk_LETTERS)))
    {tk_LONGEST : Tok} (g_LONGEST : PySem.W.nsIn K mainGlobals "LONGEST" = some (some (.int 8 tk_LONGEST)))
    : ∃ fd : FuncData, (∀ (s : Shared) (v : Value), BindsTo s fd ⟨[v], []⟩ [("_law_script", v)]) ∧ ∀ base : Heap, K.In base → base.Ns mainGlobals mg → FnG l.prog w K mg base CX0 90 fa fd ["_law_script"] (spLaw K) := by
  have e := hfa.symm.trans (PySem.W.mg_of X G a44)
  cases e
  exact ⟨PySem.W.fnOf "law" "law" (defArgs s_law) (defBody s_law) (defScope s_law) .none kV44 dc44 pm44 an44 cd44 ct44, fun s v => .of_eq rfl, fun base _ _ => ok_law (⟨⟨PySem.W.mg_none_of X G z0, PySem.W.mg_none_of X G z1, PySem.W.mg_none_of X G z2, PySem.W.mg_none_of X G z3, PySem.W.mg_none_of X G z4, PySem.W.mg_none_of X G z5, PySem.W.mg_none_of X G z6, PySem.W.mg_none_of X G z7, PySem.W.mg_none_of X G z8, PySem.W.mg_none_of X G z9, PySem.W.mg_none_of X G z10, PySem.W.mg_none_of X G z11, PySem.W.mg_none_of X G z12, PySem.W.mg_none_of X G z13, PySem.W.mg_none_of X G z14, PySem.W.mg_none_of X G z15, PySem.W.mg_none_of X G z16, PySem.W.mg_none_of X G z17, PySem.W.mg_none_of X G z18, PySem.W.mg_none_of X G z19, PySem.W.mg_none_of X G z20, PySem.W.mg_none_of X G z21⟩,
    f0, _, ⟨fun_mk (st := s_is_effect) l0 c0 k0, PySem.W.mg_of X G a0, (fun_mk (st := s_is_effect) l0 c0 k0).binds fun _ _ _ _ _ _ us hl => match us, hl with | [_], _ => rfl⟩,
    f1, _, ⟨fun_mk (st := s_least_of) l1 c1 k1, PySem.W.mg_of X G a1, (fun_mk (st := s_least_of) l1 c1 k1).binds fun _ _ _ _ _ _ us hl => match us, hl with | [_, _], _ => rfl⟩,
    f2, _, ⟨fun_mk (st := s_checked) l2 c2 k2, PySem.W.mg_of X G a2, (fun_mk (st := s_checked) l2 c2 k2).binds fun _ _ _ _ _ _ us hl => match us, hl with | [_], _ => rfl⟩,
    f3, _, ⟨fun_mk (st := s_join_of) l3 c3 k3, PySem.W.mg_of X G a3, (fun_mk (st := s_join_of) l3 c3 k3).binds fun _ _ _ _ _ _ us hl => match us, hl with | [_, _], _ => rfl⟩,
    f4, _, ⟨fun_mk (st := s_under_of) l4 c4 k4, PySem.W.mg_of X G a4, (fun_mk (st := s_under_of) l4 c4 k4).binds fun _ _ _ _ _ _ us hl => match us, hl with | [_, _], _ => rfl⟩,
    f5, _, ⟨fun_mk (st := s_power_of) l5 c5 k5, PySem.W.mg_of X G a5, (fun_mk (st := s_power_of) l5 c5 k5).binds fun _ _ _ _ _ _ us hl => match us, hl with | [_, _], _ => rfl⟩,
    f6, _, ⟨fun_mk (st := s_is_name) l6 c6 k6, PySem.W.mg_of X G a6, (fun_mk (st := s_is_name) l6 c6 k6).binds fun _ _ _ _ _ _ us hl => match us, hl with | [_], _ => rfl⟩,
    f7, _, ⟨fun_mk (st := s_copy_of) l7 c7 k7, PySem.W.mg_of X G a7, (fun_mk (st := s_copy_of) l7 c7 k7).binds fun _ _ _ _ _ _ us hl => match us, hl with | [_], _ => rfl⟩,
    f8, _, ⟨fun_mk (st := s_is_long_step) l8 c8 k8, PySem.W.mg_of X G a8, (fun_mk (st := s_is_long_step) l8 c8 k8).binds fun _ _ _ _ _ _ us hl => match us, hl with | [_], _ => rfl⟩,
    f9, _, ⟨fun_mk (st := s_check_phrase) l9 c9 k9, PySem.W.mg_of X G a9, (fun_mk (st := s_check_phrase) l9 c9 k9).binds fun _ _ _ _ _ _ us hl => match us, hl with | [_, _], _ => rfl⟩,
    f10, _, ⟨fun_mk (st := s_names_in) l10 c10 k10, PySem.W.mg_of X G a10, (fun_mk (st := s_names_in) l10 c10 k10).binds fun _ _ _ _ _ _ us hl => match us, hl with | [_], _ => rfl⟩,
    f11, _, ⟨fun_mk (st := s_phrase_effect) l11 c11 k11, PySem.W.mg_of X G a11, (fun_mk (st := s_phrase_effect) l11 c11 k11).binds fun _ _ _ _ _ _ us hl => match us, hl with | [_, _], _ => rfl⟩,
    f12, _, ⟨fun_mk (st := s_step_effect) l12 c12 k12, PySem.W.mg_of X G a12, (fun_mk (st := s_step_effect) l12 c12 k12).binds fun _ _ _ _ _ _ us hl => match us, hl with | [_, _], _ => rfl⟩,
    f13, _, ⟨fun_mk (st := s_Book___init__) l13 c13 k13, (fun_mk (st := s_Book___init__) l13 c13 k13).binds fun _ _ _ _ _ _ us hl => match us, hl with | [_, _], _ => rfl⟩,
    f14, _, ⟨fun_mk (st := s_Book_words) l14 c14 k14, (fun_mk (st := s_Book_words) l14 c14 k14).binds fun _ _ _ _ _ _ us hl => match us, hl with | [_], _ => rfl⟩,
    f15, _, ⟨fun_mk (st := s_Book_names) l15 c15 k15, (fun_mk (st := s_Book_names) l15 c15 k15).binds fun _ _ _ _ _ _ us hl => match us, hl with | [_], _ => rfl⟩,
    f16, _, ⟨fun_mk (st := s_Book_effects_held) l16 c16 k16, (fun_mk (st := s_Book_effects_held) l16 c16 k16).binds fun _ _ _ _ _ _ us hl => match us, hl with | [_, _], _ => rfl⟩,
    f17, _, ⟨fun_mk (st := s_Book_effect) l17 c17 k17, (fun_mk (st := s_Book_effect) l17 c17 k17).binds fun _ _ _ _ _ _ us hl => match us, hl with | [_, _], _ => rfl⟩,
    f18, _, ⟨fun_mk (st := s_Book___len__) l18 c18 k18, (fun_mk (st := s_Book___len__) l18 c18 k18).binds fun _ _ _ _ _ _ us hl => match us, hl with | [_], _ => rfl⟩,
    f19, _, ⟨fun_mk (st := s_Book___eq__) l19 c19 k19, (fun_mk (st := s_Book___eq__) l19 c19 k19).binds fun _ _ _ _ _ _ us hl => match us, hl with | [_, _], _ => rfl⟩,
    f20, _, ⟨fun_mk (st := s__law_coin) l20 c20 k20, PySem.W.mg_of X G a20, (fun_mk (st := s__law_coin) l20 c20 k20).binds fun _ _ _ _ _ _ us hl => match us, hl with | [_, _], _ => rfl⟩,
    f21, _, ⟨fun_mk (st := s__law_words) l21 c21 k21, PySem.W.mg_of X G a21, (fun_mk (st := s__law_words) l21 c21 k21).binds fun _ _ _ _ _ _ us hl => match us, hl with | [_, _], _ => rfl⟩,
    f22, _, ⟨fun_mk (st := s__law_copied) l22 c22 k22, PySem.W.mg_of X G a22, (fun_mk (st := s__law_copied) l22 c22 k22).binds fun _ _ _ _ _ _ us hl => match us, hl with | [_], _ => rfl⟩,
    f23, _, ⟨fun_mk (st := s__law_ps_sack) l23 c23 k23, PySem.W.mg_of X G a23, (fun_mk (st := s__law_ps_sack) l23 c23 k23).binds fun _ _ _ _ _ _ us hl => match us, hl with | [_, _], _ => rfl⟩,
    f24, _, ⟨fun_mk (st := s__law_ps_least) l24 c24 k24, PySem.W.mg_of X G a24, (fun_mk (st := s__law_ps_least) l24 c24 k24).binds fun _ _ _ _ _ _ us hl => match us, hl with | [_, _], _ => rfl⟩,
    f25, _, ⟨fun_mk (st := s__law_ps_order) l25 c25 k25, PySem.W.mg_of X G a25, (fun_mk (st := s__law_ps_order) l25 c25 k25).binds fun _ _ _ _ _ _ us hl => match us, hl with | [_, _], _ => rfl⟩,
    f26, _, ⟨fun_mk (st := s__law_ps_drawn) l26 c26 k26, PySem.W.mg_of X G a26, (fun_mk (st := s__law_ps_drawn) l26 c26 k26).binds fun _ _ _ _ _ _ us hl => match us, hl with | [_, _, _], _ => rfl⟩,
    f27, _, ⟨fun_mk (st := s__law_ps_do) l27 c27 k27, PySem.W.mg_of X G a27, (fun_mk (st := s__law_ps_do) l27 c27 k27).binds fun _ _ _ _ _ _ us hl => match us, hl with | [_, _], _ => rfl⟩,
    f28, _, ⟨fun_mk (st := s__law_ps_both) l28 c28 k28, PySem.W.mg_of X G a28, (fun_mk (st := s__law_ps_both) l28 c28 k28).binds fun _ _ _ _ _ _ us hl => match us, hl with | [_, _], _ => rfl⟩,
    f29, _, ⟨fun_mk (st := s__law_ps_beneath) l29 c29 k29, PySem.W.mg_of X G a29, (fun_mk (st := s__law_ps_beneath) l29 c29 k29).binds fun _ _ _ _ _ _ us hl => match us, hl with | [_, _], _ => rfl⟩,
    f30, _, ⟨fun_mk (st := s__law_ps_same) l30 c30 k30, PySem.W.mg_of X G a30, (fun_mk (st := s__law_ps_same) l30 c30 k30).binds fun _ _ _ _ _ _ us hl => match us, hl with | [_, _], _ => rfl⟩,
    f31, _, ⟨fun_mk (st := s__law_ps_spoil) l31 c31 k31, PySem.W.mg_of X G a31, (fun_mk (st := s__law_ps_spoil) l31 c31 k31).binds fun _ _ _ _ _ _ us hl => match us, hl with | [_, _], _ => rfl⟩,
    f32, _, ⟨fun_mk (st := s__law_ps_alone) l32 c32 k32, PySem.W.mg_of X G a32, (fun_mk (st := s__law_ps_alone) l32 c32 k32).binds fun _ _ _ _ _ _ us hl => match us, hl with | [_], _ => rfl⟩,
    f33, _, ⟨fun_mk (st := s__law_ps_labels) l33 c33 k33, PySem.W.mg_of X G a33, (fun_mk (st := s__law_ps_labels) l33 c33 k33).binds fun _ _ _ _ _ _ us hl => match us, hl with | [_, _], _ => rfl⟩,
    f34, _, ⟨fun_mk (st := s__law_ps_steps) l34 c34 k34, PySem.W.mg_of X G a34, (fun_mk (st := s__law_ps_steps) l34 c34 k34).binds fun _ _ _ _ _ _ us hl => match us, hl with | [_, _, _, _, _], _ => rfl⟩,
    f35, _, ⟨fun_mk (st := s__law_ps_phrase) l35 c35 k35, PySem.W.mg_of X G a35, (fun_mk (st := s__law_ps_phrase) l35 c35 k35).binds fun _ _ _ _ _ _ us hl => match us, hl with | [_, _, _, _], _ => rfl⟩,
    f36, _, ⟨fun_mk (st := s__law_ps_step) l36 c36 k36, PySem.W.mg_of X G a36, (fun_mk (st := s__law_ps_step) l36 c36 k36).binds fun _ _ _ _ _ _ us hl => match us, hl with | [_, _, _, _], _ => rfl⟩,
    f37, _, ⟨fun_mk (st := s__law_ps_rows) l37 c37 k37, PySem.W.mg_of X G a37, (fun_mk (st := s__law_ps_rows) l37 c37 k37).binds fun _ _ _ _ _ _ us hl => match us, hl with | [_, _, _, _, _, _], _ => rfl⟩,
    f38, _, ⟨fun_mk (st := s__law_ps_plain_rows) l38 c38 k38, PySem.W.mg_of X G a38, (fun_mk (st := s__law_ps_plain_rows) l38 c38 k38).binds fun _ _ _ _ _ _ us hl => match us, hl with | [_, _], _ => rfl⟩,
    f39, _, ⟨fun_mk (st := s__law_ps_any_rows) l39 c39 k39, PySem.W.mg_of X G a39, (fun_mk (st := s__law_ps_any_rows) l39 c39 k39).binds fun _ _ _ _ _ _ us hl => match us, hl with | [_], _ => rfl⟩,
    f40, _, ⟨fun_mk (st := s__law_ps_told_rows) l40 c40 k40, PySem.W.mg_of X G a40, (fun_mk (st := s__law_ps_told_rows) l40 c40 k40).binds fun _ _ _ _ _ _ us hl => match us, hl with | [_], _ => rfl⟩,
    f41, _, ⟨fun_mk (st := s__law_ps_huge) l41 c41 k41, PySem.W.mg_of X G a41, (fun_mk (st := s__law_ps_huge) l41 c41 k41).binds fun _ _ _ _ _ _ us hl => match us, hl with | [_, _], _ => rfl⟩,
    f42, _, ⟨fun_mk (st := s__law_ps_shown) l42 c42 k42, PySem.W.mg_of X G a42, (fun_mk (st := s__law_ps_shown) l42 c42 k42).binds fun _ _ _ _ _ _ us hl => match us, hl with | [_], _ => rfl⟩,
    f43, _, ⟨fun_mk (st := s__law_ps_right) l43 c43 k43, PySem.W.mg_of X G a43, (fun_mk (st := s__law_ps_right) l43 c43 k43).binds fun _ _ _ _ _ _ us hl => match us, hl with | [_], _ => rfl⟩,
    fa, _, ⟨fun_mk (st := s_law) l44 c44 k44, PySem.W.mg_of X G a44, (fun_mk (st := s_law) l44 c44 k44).binds fun _ _ _ _ _ _ us hl => match us, hl with | [_], _ => rfl⟩,
    C_Book, ⟨pg_Book, hd_Book, po_Book, sa_Book⟩, PySem.W.mg_of X G aC_Book, ⟨mk_Book, a13, if_13, kc_Book⟩,
    pr14, ⟨a14, pg_14, pt_14, rest14, pr_14⟩,
    ⟨a15, if_15, k15⟩,
    ⟨a16, if_16, k16⟩,
    ⟨a17, if_17, k17⟩,
    ⟨⟨pg_Book, hd_Book, po_Book, sa_Book⟩, ia_Book, isn0, ist0, im_Book, ik_Book⟩,
    nf_Book_kept,
    ⟨a18, ty_18⟩,
    ⟨a19, if_19, ne_19, ob_19⟩,
    tk_LETTERS, PySem.W.mg_of X G g_LETTERS,
    tk_LONGEST, PySem.W.mg_of X G g_LONGEST⟩ : Prog K mg)⟩
end
end My
open PySem PySem.W PyProof.Rows
set_option maxHeartbeats 0 in
theorem PySem.Challenge.cw_pileshifts_k14_books_keep_words_holds : PySem.Challenge.rw_pileshifts_k14_books_keep_words.Holds := by
  w_on; o_law; k_head; (case hw => w_witness2)
  k_fill
  refine G.walk_ofG (l := PySem.Challenge.rw_pileshifts_k14_books_keep_words) (n := 63) (k := 90) (x := "_law_script") (CX := fun _ => L2.CX0) (sp := fun w => My.spLaw _) rfl (by decide) rfl ⟨rfl, by decide, by decide⟩ (fun w h Y => PySem.W.kIn_of Y) ?F (fun _ _ a ns hl hb _ hS => ⟨a, ns, rfl, hS, hl, hb, fun _ => rfl⟩) (fun _ _ _ _ _ h => h)
  case F =>
    intro w mg fa h KX G hmg
    refine' My.all_mk KX G hmg ?aC_Book ?a0 ?l0 ?c0 ?k0 ?a1 ?l1 ?c1 ?k1 ?a2 ?l2 ?c2 ?k2 ?a3 ?l3 ?c3 ?k3 ?a4 ?l4 ?c4 ?k4 ?a5 ?l5 ?c5 ?k5 ?a6 ?l6 ?c6 ?k6 ?a7 ?l7 ?c7 ?k7 ?a8 ?l8 ?c8 ?k8 ?a9 ?l9 ?c9 ?k9 ?a10 ?l10 ?c10 ?k10 ?a11 ?l11 ?c11 ?k11 ?a12 ?l12 ?c12 ?k12 ?a13 ?if_13 ?l13 ?c13 ?k13 ?a14 ?pr_14 ?pg_14 ?pt_14 ?l14 ?c14 ?k14 ?a15 ?if_15 ?l15 ?c15 ?k15 ?a16 ?if_16 ?l16 ?c16 ?k16 ?a17 ?if_17 ?l17 ?c17 ?k17 ?a18 ?if_18 ?ty_18 ?l18 ?c18 ?k18 ?a19 ?if_19 ?ne_19 ?ob_19 ?l19 ?c19 ?k19 ?a20 ?l20 ?c20 ?k20 ?a21 ?l21 ?c21 ?k21 ?a22 ?l22 ?c22 ?k22 ?a23 ?l23 ?c23 ?k23 ?a24 ?l24 ?c24 ?k24 ?a25 ?l25 ?c25 ?k25 ?a26 ?l26 ?c26 ?k26 ?a27 ?l27 ?c27 ?k27 ?a28 ?l28 ?c28 ?k28 ?a29 ?l29 ?c29 ?k29 ?a30 ?l30 ?c30 ?k30 ?a31 ?l31 ?c31 ?k31 ?a32 ?l32 ?c32 ?k32 ?a33 ?l33 ?c33 ?k33 ?a34 ?l34 ?c34 ?k34 ?a35 ?l35 ?c35 ?k35 ?a36 ?l36 ?c36 ?k36 ?a37 ?l37 ?c37 ?k37 ?a38 ?l38 ?c38 ?k38 ?a39 ?l39 ?c39 ?k39 ?a40 ?l40 ?c40 ?k40 ?a41 ?l41 ?c41 ?k41 ?a42 ?l42 ?c42 ?k42 ?a43 ?l43 ?c43 ?k43 ?a44 ?l44 ?c44 ?k44 ?z0 ?z1 ?z2 ?z3 ?z4 ?z5 ?z6 ?z7 ?z8 ?z9 ?z10 ?z11 ?z12 ?z13 ?z14 ?z15 ?z16 ?z17 ?z18 ?z19 ?z20 ?z21 ?pg_Book ?hd_Book ?po_Book ?sa_Book ?mk_Book ?kc_Book ?nf_Book_kept ?ia_Book ?im_Book ?ik_Book ?isn0 ?ist0 ?g_LETTERS ?g_LONGEST
    (case aC_Book => k_is)
    (case a0 => k_is)
    (case l0 => k_is)
    (case c0 => k_is)
    (case k0 => k_is)
    (case a1 => k_is)
    (case l1 => k_is)
    (case c1 => k_is)
    (case k1 => k_is)
    (case a2 => k_is)
    (case l2 => k_is)
    (case c2 => k_is)
    (case k2 => k_is)
    (case a3 => k_is)
    (case l3 => k_is)
    (case c3 => k_is)
    (case k3 => k_is)
    (case a4 => k_is)
    (case l4 => k_is)
    (case c4 => k_is)
    (case k4 => k_is)
    (case a5 => k_is)
    (case l5 => k_is)
    (case c5 => k_is)
    (case k5 => k_is)
    (case a6 => k_is)
    (case l6 => k_is)
    (case c6 => k_is)
    (case k6 => k_is)
    (case a7 => k_is)
    (case l7 => k_is)
    (case c7 => k_is)
    (case k7 => k_is)
    (case a8 => k_is)
    (case l8 => k_is)
    (case c8 => k_is)
    (case k8 => k_is)
    (case a9 => k_is)
    (case l9 => k_is)
    (case c9 => k_is)
    (case k9 => k_is)
    (case a10 => k_is)
    (case l10 => k_is)
    (case c10 => k_is)
    (case k10 => k_is)
    (case a11 => k_is)
    (case l11 => k_is)
    (case c11 => k_is)
    (case k11 => k_is)
    (case a12 => k_is)
    (case l12 => k_is)
    (case c12 => k_is)
    (case k12 => k_is)
    (case a13 => k_is)
    (case if_13 => k_is)
    (case l13 => k_is)
    (case c13 => k_is)
    (case k13 => k_is)
    (case a14 => k_is)
    (case pr_14 => first | k_is | rfl | decide +kernel)
    (case pg_14 => first | k_is | rfl | decide +kernel)
    (case pt_14 => first | k_is | rfl | decide +kernel)
    (case l14 => k_is)
    (case c14 => k_is)
    (case k14 => k_is)
    (case a15 => k_is)
    (case if_15 => k_is)
    (case l15 => k_is)
    (case c15 => k_is)
    (case k15 => k_is)
    (case a16 => k_is)
    (case if_16 => k_is)
    (case l16 => k_is)
    (case c16 => k_is)
    (case k16 => k_is)
    (case a17 => k_is)
    (case if_17 => k_is)
    (case l17 => k_is)
    (case c17 => k_is)
    (case k17 => k_is)
    (case a18 => k_is)
    (case if_18 => k_is)
    (case ty_18 => first | k_is | rfl | decide +kernel)
    (case l18 => k_is)
    (case c18 => k_is)
    (case k18 => k_is)
    (case a19 => k_is)
    (case if_19 => k_is)
    (case ne_19 => first | k_is | rfl | decide +kernel)
    (case ob_19 => first | k_is | rfl | decide +kernel)
    (case l19 => k_is)
    (case c19 => k_is)
    (case k19 => k_is)
    (case a20 => k_is)
    (case l20 => k_is)
    (case c20 => k_is)
    (case k20 => k_is)
    (case a21 => k_is)
    (case l21 => k_is)
    (case c21 => k_is)
    (case k21 => k_is)
    (case a22 => k_is)
    (case l22 => k_is)
    (case c22 => k_is)
    (case k22 => k_is)
    (case a23 => k_is)
    (case l23 => k_is)
    (case c23 => k_is)
    (case k23 => k_is)
    (case a24 => k_is)
    (case l24 => k_is)
    (case c24 => k_is)
    (case k24 => k_is)
    (case a25 => k_is)
    (case l25 => k_is)
    (case c25 => k_is)
    (case k25 => k_is)
    (case a26 => k_is)
    (case l26 => k_is)
    (case c26 => k_is)
    (case k26 => k_is)
    (case a27 => k_is)
    (case l27 => k_is)
    (case c27 => k_is)
    (case k27 => k_is)
    (case a28 => k_is)
    (case l28 => k_is)
    (case c28 => k_is)
    (case k28 => k_is)
    (case a29 => k_is)
    (case l29 => k_is)
    (case c29 => k_is)
    (case k29 => k_is)
    (case a30 => k_is)
    (case l30 => k_is)
    (case c30 => k_is)
    (case k30 => k_is)
    (case a31 => k_is)
    (case l31 => k_is)
    (case c31 => k_is)
    (case k31 => k_is)
    (case a32 => k_is)
    (case l32 => k_is)
    (case c32 => k_is)
    (case k32 => k_is)
    (case a33 => k_is)
    (case l33 => k_is)
    (case c33 => k_is)
    (case k33 => k_is)
    (case a34 => k_is)
    (case l34 => k_is)
    (case c34 => k_is)
    (case k34 => k_is)
    (case a35 => k_is)
    (case l35 => k_is)
    (case c35 => k_is)
    (case k35 => k_is)
    (case a36 => k_is)
    (case l36 => k_is)
    (case c36 => k_is)
    (case k36 => k_is)
    (case a37 => k_is)
    (case l37 => k_is)
    (case c37 => k_is)
    (case k37 => k_is)
    (case a38 => k_is)
    (case l38 => k_is)
    (case c38 => k_is)
    (case k38 => k_is)
    (case a39 => k_is)
    (case l39 => k_is)
    (case c39 => k_is)
    (case k39 => k_is)
    (case a40 => k_is)
    (case l40 => k_is)
    (case c40 => k_is)
    (case k40 => k_is)
    (case a41 => k_is)
    (case l41 => k_is)
    (case c41 => k_is)
    (case k41 => k_is)
    (case a42 => k_is)
    (case l42 => k_is)
    (case c42 => k_is)
    (case k42 => k_is)
    (case a43 => k_is)
    (case l43 => k_is)
    (case c43 => k_is)
    (case k43 => k_is)
    (case a44 => k_is)
    (case l44 => k_is)
    (case c44 => k_is)
    (case k44 => k_is)
    (case z0 => k_is)
    (case z1 => k_is)
    (case z2 => k_is)
    (case z3 => k_is)
    (case z4 => k_is)
    (case z5 => k_is)
    (case z6 => k_is)
    (case z7 => k_is)
    (case z8 => k_is)
    (case z9 => k_is)
    (case z10 => k_is)
    (case z11 => k_is)
    (case z12 => k_is)
    (case z13 => k_is)
    (case z14 => k_is)
    (case z15 => k_is)
    (case z16 => k_is)
    (case z17 => k_is)
    (case z18 => k_is)
    (case z19 => k_is)
    (case z20 => k_is)
    (case z21 => k_is)
    (case pg_Book => first | k_is | rfl | decide +kernel)
    (case hd_Book => k_is)
    (case po_Book => k_is)
    (case sa_Book => k_is)
    (case mk_Book => k_is)
    (case kc_Book => k_is)
    (case nf_Book_kept => k_is)
    (case ia_Book => first | k_is | rfl | decide +kernel)
    (case im_Book => first | k_is | rfl | decide +kernel)
    (case ik_Book => first | k_is | rfl | decide +kernel)
    (case isn0 => first | k_is | rfl | decide +kernel)
    (case ist0 => first | k_is | rfl | decide +kernel)
    (case g_LETTERS => k_is)
    (case g_LONGEST => k_is)
