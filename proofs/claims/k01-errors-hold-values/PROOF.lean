import PyProof.Rows.All
import Wide.All
import OpenK.AllK
import Wide.FinOn
import HandS.ForMost
import HandS.Wide
import HandS.WideBits
import KE.BitLaws
import HandS.EndBits
import HandS.Conv
import HandS.SetFor
import HandS.Codes
import HandS.IsInst
import HandS.Dict
import PyProof.DictTruth
import PyProof.DictKeyH
import PyProof.P3In
import PyProof.Rows.SetFrom
import HandS.Zip
import HandS.SortKw
import KE.DatumOrd
import PyProof.StrLawsRepr
import HandS.More
import HandS.TryMany
import KE.KDictZip
import PyProof.EnumMake
import PyProof.EnumFor
import HandS.ExcIs
import KE.KExcIs
import HandS.Exc
import HandS.ExcOwn
import HandS.ExcInit
import HandS.ExcField
import HandS.WordsExc
import HandS.TryOnly
import HandS.NoneIn
import HandS.Style
import PyProof.ReprRoads
import PyProof.ReprLen
import PyProof.MaxThree
import KE.SortData
import HandS.Property
import HandS.MakeKw
import HandS.DictComp
import HandS.Star
import HandS.NamedTupSort
import PyProof.InstEq
import PyProof.InstNe
import PyProof.CompUse
import PySem.Challenge.RW_pileshifts_k01_errors_hold_values
set_option Elab.async false
set_option linter.all false
set_option maxRecDepth 100000
set_option maxHeartbeats 4000000
namespace G
open PySem PySem.Spec PyProof.Rows L2
abbrev D := PyData
/-- no tuple -/
def NT : HO → Prop
  | .tup _ => False
  | .xd _ => False
  | _ => True
def dOf : Key → D
  | .inl i => .int i
  | .inr x => .str x
/-- what holds values: an instance with its fields, a dict with its keys -/
inductive Bx (H : Hp) (a : Addr) : D → List V → Prop
  | ins {C dx : Addr} {ns : List Str} {vs : List V} : H a = some (.ins C dx (ns.zip vs)) → ns.length = vs.length → Bx H a (.tuple (.int C :: ns.map PyData.str)) vs
  | dK {ks : List Key} {vs : List V} : H a = some (.dK (ks.zip vs)) → ks.length = vs.length → Bx H a (.list (ks.map dOf)) vs
theorem Bx.mono {H H' : Hp} {a : Addr} {t : D} {vs : List V} (h : Bx H a t vs) (k : ∀ o, H a = some o → H' a = some o) : Bx H' a t vs := by
  cases h with
  | ins e l => exact .ins (k _ e) l
  | dK e l => exact .dK (k _ e) l
theorem Bx.dom {H : Hp} {a : Addr} {t : D} {vs : List V} (h : Bx H a t vs) : ∃ o, H a = some o ∧ NT o := by
  cases h with
  | ins e _ => exact ⟨_, e, True.intro⟩
  | dK e _ => exact ⟨_, e, True.intro⟩
theorem zip_inj {α β : Type} {ns ms : List α} {vs us : List β} (h : ns.length = vs.length) (k : ms.length = us.length) (e : ns.zip vs = ms.zip us) : ns = ms ∧ vs = us := by
  have a := congrArg (List.map (·.1)) e
  have b := congrArg (List.map (·.2)) e
  rw [List.map_fst_zip (by omega), List.map_fst_zip (by omega)] at a
  rw [List.map_snd_zip (by omega), List.map_snd_zip (by omega)] at b
  exact ⟨a, b⟩
theorem Bx.uniq {H : Hp} {a : Addr} {t t' : D} {vs us : List V} (h : Bx H a t vs) (k : Bx H a t' us) : t = t' ∧ vs = us := by
  cases h with
  | ins e l =>
    cases k with
    | ins e' l' =>
      rw [e] at e'
      simp only [Option.some.injEq, HO.ins.injEq] at e'
      obtain ⟨rfl, _, z⟩ := e'
      obtain ⟨rfl, rfl⟩ := zip_inj l l' z
      exact ⟨rfl, rfl⟩
    | dK e' _ => rw [e] at e'; cases e'
  | dK e l =>
    cases k with
    | ins e' _ => rw [e] at e'; cases e'
    | dK e' l' =>
      rw [e] at e'
      simp only [Option.some.injEq, HO.dK.injEq] at e'
      obtain ⟨rfl, rfl⟩ := zip_inj l l' e'
      exact ⟨rfl, rfl⟩
mutual
inductive Rep (H : Hp) : List Addr → V → D → Prop
  | non : Rep H [] .non .none
  | bl (b : Bool) : Rep H [] (.bl b) (.bool b)
  | int (i : Int) : Rep H [] (.int i) (.int i)
  | str (x : Str) : Rep H [] (.str x) (.str x)
  | lst {a : Addr} {vs : List V} {S : List Addr} {ds : List D} : H a = some (.lst vs) → Reps H S vs ds → Rep H (a :: S) (.ref a) (.list ds)
  | tup {a : Addr} {vs : List V} {S : List Addr} {ds : List D} : H a = some (.tup vs) → Reps H S vs ds → Rep H S (.ref a) (.tuple ds)
  | box {a : Addr} {t : D} {vs : List V} {S : List Addr} {ds : List D} : Bx H a t vs → Reps H S vs ds → Rep H (a :: S) (.ref a) (.dict [(t, .list ds)])
inductive Reps (H : Hp) : List Addr → List V → List D → Prop
  | nil : Reps H [] [] []
  | cons {S T : List Addr} {v : V} {vs : List V} {d : D} {ds : List D} : Rep H S v d → Reps H T vs ds → Reps H (S ++ T) (v :: vs) (d :: ds)
end
section
variable {H H' : Hp}
mutual
theorem Rep.mono (ht : ∀ t vs, H t = some (.tup vs) → H' t = some (.tup vs)) : ∀ (d : D) (S : List Addr) (v : V), Rep H S v d → (∀ a ∈ S, ∀ o, H a = some o → H' a = some o) → Rep H' S v d
  | .none, _, _, h, _ => by cases h; exact .non
  | .bool b, _, _, h, _ => by cases h; exact .bl b
  | .int i, _, _, h, _ => by cases h; exact .int i
  | .str x, _, _, h, _ => by cases h; exact .str x
  | .list ds, _, _, h, k => by
    cases h with
    | lst h1 h2 => exact .lst (k _ List.mem_cons_self _ h1) (Reps.mono ht ds _ _ h2 fun a ha => k a (List.mem_cons_of_mem _ ha))
  | .tuple ds, _, _, h, k => by
    cases h with
    | tup h1 h2 => exact .tup (ht _ _ h1) (Reps.mono ht ds _ _ h2 k)
  | .dict _, _, _, h, k => by
    cases h with
    | box h1 h2 => exact .box (h1.mono (k _ List.mem_cons_self)) (Reps.mono ht _ _ _ h2 fun a ha => k a (List.mem_cons_of_mem _ ha))
theorem Reps.mono (ht : ∀ t vs, H t = some (.tup vs) → H' t = some (.tup vs)) : ∀ (ds : List D) (S : List Addr) (vs : List V), Reps H S vs ds → (∀ a ∈ S, ∀ o, H a = some o → H' a = some o) → Reps H' S vs ds
  | [], _, _, h, _ => by cases h; exact .nil
  | d :: ds, _, _, h, k => by
    cases h with
    | cons h1 h2 => exact .cons (Rep.mono ht d _ _ h1 fun a ha => k a (List.mem_append_left _ ha)) (Reps.mono ht ds _ _ h2 fun a ha => k a (List.mem_append_right _ ha))
end
mutual
/-- the lists of a tree stand in the heap -/
theorem Rep.domN : ∀ (d : D) (S : List Addr) (v : V), Rep H S v d → ∀ a ∈ S, ∃ o, H a = some o ∧ NT o
  | .none, _, _, h => by cases h; intro a z; cases z
  | .bool b, _, _, h => by cases h; intro a z; cases z
  | .int i, _, _, h => by cases h; intro a z; cases z
  | .str x, _, _, h => by cases h; intro a z; cases z
  | .list ds, _, _, h => by
    cases h with
    | lst h1 h2 =>
      intro a z
      rcases List.mem_cons.mp z with rfl | z
      · exact ⟨_, h1, True.intro⟩
      · exact Reps.domN ds _ _ h2 a z
  | .tuple ds, _, _, h => by
    cases h with
    | tup h1 h2 => exact Reps.domN ds _ _ h2
  | .dict _, _, _, h => by
    cases h with
    | box h1 h2 =>
      intro a z
      rcases List.mem_cons.mp z with rfl | z
      · exact h1.dom
      · exact Reps.domN _ _ _ h2 a z
theorem Reps.domN : ∀ (ds : List D) (S : List Addr) (vs : List V), Reps H S vs ds → ∀ a ∈ S, ∃ o, H a = some o ∧ NT o
  | [], _, _, h => by cases h; intro a z; cases z
  | d :: ds, _, _, h => by
    cases h with
    | cons h1 h2 =>
      intro a z
      rcases List.mem_append.mp z with z | z
      · exact Rep.domN d _ _ h1 a z
      · exact Reps.domN ds _ _ h2 a z
end
theorem Rep.dom (d : D) (S : List Addr) (v : V) (h : Rep H S v d) : ∀ a ∈ S, ∃ o, H a = some o := fun a m => let ⟨o, e, _⟩ := Rep.domN d S v h a m; ⟨o, e⟩
theorem Reps.dom (ds : List D) (S : List Addr) (vs : List V) (h : Reps H S vs ds) : ∀ a ∈ S, ∃ o, H a = some o := fun a m => let ⟨o, e, _⟩ := Reps.domN ds S vs h a m; ⟨o, e⟩
mutual
/-- read by the layer's own words -/
theorem Rep.dp (K : PySem.W.Frag) : ∀ (d : D) (S : List Addr) (v : V), Rep H S v d → d.hasDict = false → Dp K H v d
  | .none, _, _, h, _ => by cases h; exact .non
  | .bool b, _, _, h, _ => by cases h; exact .bl b
  | .int i, _, _, h, _ => by cases h; exact .int i
  | .str x, _, _, h, _ => by cases h; exact .str x
  | .list ds, _, _, h, q => by
    cases h with
    | lst h1 h2 => exact .lst (SqL.of h1) (Reps.dp K ds _ _ h2 (by simpa [PyData.hasDict] using q))
  | .tuple ds, _, _, h, q => by
    cases h with
    | tup h1 h2 => exact .tup (SqT.of h1) (Reps.dp K ds _ _ h2 (by simpa [PyData.hasDict] using q))
  | .dict _, _, _, h, q => by simp [PyData.hasDict] at q
theorem Reps.dp (K : PySem.W.Frag) : ∀ (ds : List D) (S : List Addr) (vs : List V), Reps H S vs ds → PyData.hasDictAll ds = false → DpAll K H vs ds
  | [], _, _, h, _ => by cases h; exact .nil
  | d :: ds, _, _, h, q => by
    have q' : d.hasDict = false ∧ PyData.hasDictAll ds = false := by simpa [PyData.hasDictAll] using q
    cases h with
    | cons h1 h2 => exact .cons (Rep.dp K d _ _ h1 q'.1) (Reps.dp K ds _ _ h2 q'.2)
end
theorem Reps.length : ∀ {ds : List D} {S : List Addr} {vs : List V}, Reps H S vs ds → vs.length = ds.length
  | [], _, _, h => by cases h; rfl
  | d :: ds, _, _, h => by
    cases h with
    | cons h1 h2 => simp [Reps.length h2]
theorem Reps.append : ∀ {ds es : List D} {S T : List Addr} {vs us : List V}, Reps H S vs ds → Reps H T us es → Reps H (S ++ T) (vs ++ us) (ds ++ es)
  | [], _, _, _, _, _, h, k => by cases h; exact k
  | d :: ds, _, _, _, _, _, h, k => by
    cases h with
    | cons h1 h2 =>
      have q := Reps.cons h1 (Reps.append h2 k)
      rw [← List.append_assoc] at q
      exact q
theorem Reps.split : ∀ {ds es : List D} {S : List Addr} {us : List V}, Reps H S us (ds ++ es) → ∃ S1 S2 u1 u2, S = S1 ++ S2 ∧ us = u1 ++ u2 ∧ Reps H S1 u1 ds ∧ Reps H S2 u2 es
  | [], _, S, us, h => ⟨[], S, [], us, rfl, rfl, .nil, h⟩
  | d :: ds, _, _, _, h => by
    cases h with
    | cons h1 h2 =>
      obtain ⟨S1, S2, u1, u2, rfl, rfl, a, b⟩ := Reps.split h2
      exact ⟨_, S2, _, u2, (List.append_assoc ..).symm, rfl, .cons h1 a, b⟩
/-- one item -/
theorem Reps.get : ∀ {ds : List D} {S : List Addr} {vs : List V} {i : Nat} {d : D}, Reps H S vs ds → ds[i]? = some d → ∃ v T, vs[i]? = some v ∧ Rep H T v d ∧ ∀ a ∈ T, a ∈ S
  | [], _, _, _, _, _, e => by simp at e
  | d :: ds, _, _, 0, _, h, e => by
    cases h with
    | cons h1 h2 =>
      simp at e
      subst e
      exact ⟨_, _, rfl, h1, fun a z => List.mem_append_left _ z⟩
  | d :: ds, _, _, i + 1, _, h, e => by
    cases h with
    | cons h1 h2 =>
      obtain ⟨v, T, e1, r, s⟩ := Reps.get (i := i) h2 (by simpa using e)
      exact ⟨v, T, by simpa using e1, r, fun a z => List.mem_append_right _ (s a z)⟩
end
/-- a list of ints as data -/
abbrev dI (ns : List Int) : D := .list (ns.map PyData.int)
/-- a new tree: its lists are all new, each once -/
def New (H H' : Hp) (v : V) (d : D) : Prop := ∃ S, Rep H' S v d ∧ S.Nodup ∧ ∀ a ∈ S, H a = none
/-- three whole numbers, the last one (how many draws so far) at most b -/
def PuAt (H : Hp) (p : Addr) (b : Int) : Prop := ∃ x y z : Int, H p = some (.lst [.int x, .int y, .int z]) ∧ 0 ≤ y ∧ y < 10 ^ 25 ∧ 0 ≤ z ∧ z ≤ b
theorem PuAt.le {H : Hp} {p : Addr} {b c : Int} (h : PuAt H p b) (k : b ≤ c) : PuAt H p c := by
  obtain ⟨x, y, z, h1, h2, h3, h4, h5⟩ := h
  exact ⟨x, y, z, h1, h2, h3, h4, by omega⟩
/-- H0: the heap at the entry; M: its one list that may be changed; pu: the purse and a bound on its draws; Fz: trees that stay; Ow: trees whose lists each stand in one place alone, and may change; Tp: tuples -/
def St (H0 : Hp) (M : Option Addr) (pu : Option (Addr × Int)) (Fz Ow : List (V × D)) (Tp : List (Addr × List V)) (H : Hp) : Prop :=
  ∃ (Z : Addr → Prop) (S : List Addr),
    (∀ a o, H0 a = some o → some a ≠ M → Z a ∧ H a = some o) ∧
    (∀ x ∈ Fz, ∃ T, Rep H T x.1 x.2 ∧ ∀ a ∈ T, Z a) ∧
    Reps H S (Ow.map (·.1)) (Ow.map (·.2)) ∧ S.Nodup ∧ (∀ a ∈ S, ¬ Z a ∧ some a ≠ M) ∧
    (∀ x ∈ Tp, H x.1 = some (.tup x.2)) ∧
    (∀ p b, pu = some (p, b) → PuAt H p b ∧ ¬ Z p ∧ p ∉ S) ∧ (∀ a, Z a ∨ M = some a → ∃ o, H a = some o)
/-- pick one out of a list -/
inductive Pick {α : Type} (x : α) : List α → List α → Prop
  | hd {l : List α} : Pick x (x :: l) l
  | tl {y : α} {l l' : List α} : Pick x l l' → Pick x (y :: l) (y :: l')
/-- readable: v is the tree d -/
inductive Rdb (Fz Ow : List (V × D)) (Tp : List (Addr × List V)) : V → D → Prop
  | non : Rdb Fz Ow Tp .non .none
  | bl (b : Bool) : Rdb Fz Ow Tp (.bl b) (.bool b)
  | int (i : Int) : Rdb Fz Ow Tp (.int i) (.int i)
  | str (x : Str) : Rdb Fz Ow Tp (.str x) (.str x)
  | fz {v : V} {d : D} : (v, d) ∈ Fz → Rdb Fz Ow Tp v d
  | ow {v : V} {d : D} : (v, d) ∈ Ow → Rdb Fz Ow Tp v d
  | tp0 {t : Addr} : (t, []) ∈ Tp → Rdb Fz Ow Tp (.ref t) (.tuple [])
  | tp1 {t : Addr} {v1 : V} {d1 : D} : (t, [v1]) ∈ Tp → Rdb Fz Ow Tp v1 d1 → Rdb Fz Ow Tp (.ref t) (.tuple [d1])
  | tp2 {t : Addr} {v1 v2 : V} {d1 d2 : D} : (t, [v1, v2]) ∈ Tp → Rdb Fz Ow Tp v1 d1 → Rdb Fz Ow Tp v2 d2 → Rdb Fz Ow Tp (.ref t) (.tuple [d1, d2])
  | tp3 {t : Addr} {v1 v2 v3 : V} {d1 d2 d3 : D} : (t, [v1, v2, v3]) ∈ Tp → Rdb Fz Ow Tp v1 d1 → Rdb Fz Ow Tp v2 d2 → Rdb Fz Ow Tp v3 d3 → Rdb Fz Ow Tp (.ref t) (.tuple [d1, d2, d3])
inductive Rdbs (Fz Ow : List (V × D)) (Tp : List (Addr × List V)) : List V → List D → Prop
  | nil : Rdbs Fz Ow Tp [] []
  | cons {v : V} {vs : List V} {d : D} {ds : List D} : Rdb Fz Ow Tp v d → Rdbs Fz Ow Tp vs ds → Rdbs Fz Ow Tp (v :: vs) (d :: ds)
section
variable {H0 H H' : Hp} {M : Option Addr} {pu : Option (Addr × Int)} {Fz Ow Ow' : List (V × D)} {Tp : List (Addr × List V)} {v : V} {d : D}
theorem reps_of_mem {Ow : List (V × D)} {S : List Addr} (h : Reps H S (Ow.map (·.1)) (Ow.map (·.2))) : ∀ {x : V × D}, x ∈ Ow → ∃ T, Rep H T x.1 x.2 ∧ ∀ a ∈ T, a ∈ S := by
  induction Ow generalizing S with
  | nil => intro x z; cases z
  | cons y Ow ih =>
    intro x z
    cases h with
    | cons h1 h2 =>
      rcases List.mem_cons.mp z with rfl | z
      · exact ⟨_, h1, fun a m => List.mem_append_left _ m⟩
      · obtain ⟨T, r, s⟩ := ih h2 z
        exact ⟨T, r, fun a m => List.mem_append_right _ (s a m)⟩
/-- what is readable is read, away from the purse -/
theorem St.rd (h : St H0 M pu Fz Ow Tp H) (r : Rdb Fz Ow Tp v d) : ∃ T, Rep H T v d ∧ ∀ p b, pu = some (p, b) → p ∉ T := by
  obtain ⟨Z, S, h1, h2, h3, h4, h5, h6, h7, h8⟩ := h
  induction r with
  | non => exact ⟨_, .non, fun _ _ _ z => nomatch z⟩
  | bl b => exact ⟨_, .bl b, fun _ _ _ z => nomatch z⟩
  | int i => exact ⟨_, .int i, fun _ _ _ z => nomatch z⟩
  | str x => exact ⟨_, .str x, fun _ _ _ z => nomatch z⟩
  | fz m =>
    obtain ⟨T, r, z⟩ := h2 _ m
    exact ⟨T, r, fun p b e hp => (h7 p b e).2.1 (z p hp)⟩
  | ow m =>
    obtain ⟨T, r, z⟩ := reps_of_mem h3 m
    exact ⟨T, r, fun p b e hp => (h7 p b e).2.2 (z p hp)⟩
  | tp0 m => exact ⟨_, .tup (h6 _ m) .nil, fun _ _ _ z => nomatch z⟩
  | tp1 m _ i1 =>
    obtain ⟨T1, r1, z1⟩ := i1
    refine ⟨_, .tup (h6 _ m) (.cons r1 .nil), fun p b e hp => ?_⟩
    simp at hp
    exact z1 p b e hp
  | tp2 m _ _ i1 i2 =>
    obtain ⟨T1, r1, z1⟩ := i1
    obtain ⟨T2, r2, z2⟩ := i2
    refine ⟨_, .tup (h6 _ m) (.cons r1 (.cons r2 .nil)), fun p b e hp => ?_⟩
    simp at hp
    rcases hp with hp | hp
    · exact z1 p b e hp
    · exact z2 p b e hp
  | tp3 m _ _ _ i1 i2 i3 =>
    obtain ⟨T1, r1, z1⟩ := i1
    obtain ⟨T2, r2, z2⟩ := i2
    obtain ⟨T3, r3, z3⟩ := i3
    refine ⟨_, .tup (h6 _ m) (.cons r1 (.cons r2 (.cons r3 .nil))), fun p b e hp => ?_⟩
    simp at hp
    rcases hp with hp | hp | hp
    · exact z1 p b e hp
    · exact z2 p b e hp
    · exact z3 p b e hp
theorem St.rds (h : St H0 M pu Fz Ow Tp H) {vs : List V} {ds : List D} (r : Rdbs Fz Ow Tp vs ds) : ∃ T, Reps H T vs ds ∧ ∀ p b, pu = some (p, b) → p ∉ T := by
  induction r with
  | nil => exact ⟨_, .nil, fun _ _ _ z => nomatch z⟩
  | cons r _ ih =>
    obtain ⟨T1, r1, z1⟩ := h.rd r
    obtain ⟨T2, r2, z2⟩ := ih
    exact ⟨_, .cons r1 r2, fun p b e hp => (List.mem_append.mp hp).elim (z1 p b e) (z2 p b e)⟩
theorem Reps.pick {x : V × D} (k : Pick x Ow Ow') : ∀ {S : List Addr}, Reps H S (Ow.map (·.1)) (Ow.map (·.2)) → ∃ S1 S2, Rep H S1 x.1 x.2 ∧ Reps H S2 (Ow'.map (·.1)) (Ow'.map (·.2)) ∧ S.Perm (S1 ++ S2) := by
  induction k with
  | hd =>
    intro S h
    cases h with
    | cons h1 h2 => exact ⟨_, _, h1, h2, .refl _⟩
  | @tl y l l' k ih =>
    intro S h
    cases h with
    | @cons Sy T _ _ _ _ h1 h2 =>
      obtain ⟨S1, S2, r1, r2, pm⟩ := ih h2
      refine ⟨S1, Sy ++ S2, r1, .cons h1 r2, ?_⟩
      refine (List.Perm.append_left Sy pm).trans ?_
      rw [← List.append_assoc, ← List.append_assoc]
      exact List.Perm.append_right S2 List.perm_append_comm
/-- forget an owned tree -/
theorem St.drop {x : V × D} (h : St H0 M pu Fz (x :: Ow) Tp H) : St H0 M pu Fz Ow Tp H := by
  obtain ⟨Z, S, h1, h2, h3, h4, h5, h6, h7, h8⟩ := h
  cases h3 with
  | cons r1 r2 => exact ⟨Z, _, h1, h2, r2, (List.nodup_append.mp h4).2.1, fun a m => h5 a (List.mem_append_right _ m), h6, fun p b e => ⟨(h7 p b e).1, (h7 p b e).2.1, fun m => (h7 p b e).2.2 (List.mem_append_right _ m)⟩, h8⟩
theorem St.fzs {Fz' : List (V × D)} (h : St H0 M pu Fz Ow Tp H) (k : ∀ x ∈ Fz', x ∈ Fz) : St H0 M pu Fz' Ow Tp H := by
  obtain ⟨Z, S, h1, h2, h3, h4, h5, h6, h7, h8⟩ := h
  exact ⟨Z, S, h1, fun x m => h2 x (k x m), h3, h4, h5, h6, h7, h8⟩
/-- an owned tree is from now on left as it is -/
theorem St.freeze (h : St H0 M pu Fz ((v, d) :: Ow) Tp H) : St H0 M pu ((v, d) :: Fz) Ow Tp H := by
  obtain ⟨Z, S, h1, h2, h3, h4, h5, h6, h7, h8⟩ := h
  cases h3 with
  | @cons S1 S2 _ _ _ _ r1 r2 =>
    have nd := List.nodup_append.mp h4
    refine ⟨fun a => Z a ∨ a ∈ S1, S2, fun a o e m => ⟨.inl (h1 a o e m).1, (h1 a o e m).2⟩, fun x m => ?_, r2, nd.2.1, fun a m => ⟨?_, (h5 a (List.mem_append_right _ m)).2⟩, h6, fun p b e => ⟨(h7 p b e).1, ?_, fun m => (h7 p b e).2.2 (List.mem_append_right _ m)⟩, fun a z => ?_⟩
    · rcases List.mem_cons.mp m with rfl | m
      · exact ⟨S1, r1, fun a z => .inr z⟩
      · obtain ⟨T, r, z⟩ := h2 x m
        exact ⟨T, r, fun a q => .inl (z a q)⟩
    · rintro (z | z)
      · exact (h5 a (List.mem_append_right _ m)).1 z
      · exact nd.2.2 a z a m rfl
    · rintro (z | z)
      · exact (h7 p b e).2.1 z
      · exact (h7 p b e).2.2 (List.mem_append_left _ z)
    · rcases z with (z | z) | z
      · exact h8 a (.inl z)
      · obtain ⟨xs, q⟩ := Rep.dom d S1 v r1 a z
        exact ⟨_, q⟩
      · exact h8 a (.inr z)
theorem St.step (h : St H0 M pu Fz Ow Tp H) (k : ∀ a o, H a = some o → (∀ p b, pu = some (p, b) → a ≠ p) → H' a = some o) (kp : ∀ p b, pu = some (p, b) → PuAt H' p b) : St H0 M pu Fz Ow Tp H' := by
  obtain ⟨Z, S, h1, h2, h3, h4, h5, h6, h7, h8⟩ := h
  have nt : ∀ t vs, H t = some (.tup vs) → H' t = some (.tup vs) := fun t vs e => k t _ e fun p b q z => by
    subst z
    obtain ⟨x, y, z, e2, _⟩ := (h7 t b q).1
    rw [e] at e2
    cases e2
  refine ⟨Z, S, fun a o e m => ⟨(h1 a o e m).1, k a o (h1 a o e m).2 fun p b q z => (h7 p b q).2.1 (z ▸ (h1 a o e m).1)⟩, fun x m => ?_, ?_, h4, h5, fun x m => nt _ _ (h6 x m), fun p b q => ⟨kp p b q, (h7 p b q).2⟩, fun a z => ?_⟩
  · obtain ⟨T, r, z⟩ := h2 x m
    exact ⟨T, Rep.mono nt _ _ _ r fun a q o e => k a o e fun p b e' y => (h7 p b e').2.1 (y ▸ z a q), z⟩
  · exact Reps.mono nt _ _ _ h3 fun a q o e => k a o e fun p b e' y => (h7 p b e').2.2 (y ▸ q)
  · obtain ⟨o, e⟩ := h8 a z
    cases hp : pu with
    | none => exact ⟨o, k a o e fun p b e' y => by rw [hp] at e'; cases e'⟩
    | some q =>
      by_cases hq : a = q.1
      · subst hq
        obtain ⟨x, y, zz, e2, _⟩ := kp q.1 q.2 (by rw [hp])
        exact ⟨_, e2⟩
      · exact ⟨o, k a o e fun p b e' y => hq (by rw [hp] at e'; cases e'; exact y)⟩
theorem PuAt.mono {p : Addr} {b : Int} (h : PuAt H p b) (k : ∀ o, H p = some o → H' p = some o) : PuAt H' p b := by
  obtain ⟨x, y, z, e, r⟩ := h
  exact ⟨x, y, z, k _ e, r⟩
/-- all is kept -/
theorem St.same (h : St H0 M pu Fz Ow Tp H) (k : Same H H') : St H0 M pu Fz Ow Tp H' := by
  have h7 := h
  obtain ⟨Z, S, _, _, _, _, _, _, h7, _⟩ := h7
  exact h.step (fun a o e _ => k a o e) fun p b e => (h7 p b e).1.mono (k p)
theorem same_upd {p : Addr} {o : HO} (h : H p = none) : Same H (upd H p o) := fun b x e => by
  rw [upd_ne (ne_of_none e h)]
  exact e
/-- a new tree comes -/
theorem St.new (h : St H0 M pu Fz Ow Tp H) (k : Same H H') (n : New H H' v d) : St H0 M pu Fz ((v, d) :: Ow) Tp H' := by
  obtain ⟨Z, S, h1, h2, h3, h4, h5, h6, h7, h8⟩ := h
  obtain ⟨S1, r, nd, fr⟩ := n
  have nt : ∀ t vs, H t = some (.tup vs) → H' t = some (.tup vs) := fun t vs e => k t _ e
  have out : ∀ a, Z a ∨ M = some a → a ∉ S1 := fun a z m => by
    obtain ⟨o, e⟩ := h8 a z
    rw [fr a m] at e
    cases e
  refine ⟨Z, S1 ++ S, fun a o e m => ⟨(h1 a o e m).1, k a o (h1 a o e m).2⟩, fun x m => ?_, .cons r (Reps.mono nt _ _ _ h3 fun a _ o e => k a o e), ?_, fun a m => ?_, fun x m => nt _ _ (h6 x m), fun p b e => ⟨(h7 p b e).1.mono (k p), (h7 p b e).2.1, fun m => ?_⟩, fun a z => ?_⟩
  · obtain ⟨T, r, z⟩ := h2 x m
    exact ⟨T, Rep.mono nt _ _ _ r fun a _ o e => k a o e, z⟩
  · refine List.nodup_append.mpr ⟨nd, h4, fun a m b m' e => ?_⟩
    subst e
    obtain ⟨xs, q⟩ := Reps.dom _ _ _ h3 a m'
    rw [fr a m] at q
    cases q
  · rcases List.mem_append.mp m with m | m
    · exact ⟨fun z => out a (.inl z) m, fun z => out a (.inr z.symm) m⟩
    · exact h5 a m
  · rcases List.mem_append.mp m with m | m
    · obtain ⟨x, y, z, e2, _⟩ := (h7 p b e).1
      rw [fr p m] at e2
      cases e2
    · exact (h7 p b e).2.2 m
  · obtain ⟨o, e⟩ := h8 a z
    exact ⟨o, k a o e⟩
/-- a tree that is an int, a truth value, None, a text -/
theorem St.int {i : Int} (h : St H0 M pu Fz ((v, .int i) :: Ow) Tp H) : v = .int i ∧ St H0 M pu Fz Ow Tp H := by
  refine ⟨?_, h.drop⟩
  obtain ⟨Z, S, h1, h2, h3, h4, h5, h6, h7, h8⟩ := h
  cases h3 with
  | cons r _ => cases r; rfl
theorem St.bool {b : Bool} (h : St H0 M pu Fz ((v, .bool b) :: Ow) Tp H) : v = .bl b ∧ St H0 M pu Fz Ow Tp H := by
  refine ⟨?_, h.drop⟩
  obtain ⟨Z, S, h1, h2, h3, h4, h5, h6, h7, h8⟩ := h
  cases h3 with
  | cons r _ => cases r; rfl
theorem St.none (h : St H0 M pu Fz ((v, .none) :: Ow) Tp H) : v = .non ∧ St H0 M pu Fz Ow Tp H := by
  refine ⟨?_, h.drop⟩
  obtain ⟨Z, S, h1, h2, h3, h4, h5, h6, h7, h8⟩ := h
  cases h3 with
  | cons r _ => cases r; rfl
theorem St.str {x : Str} (h : St H0 M pu Fz ((v, .str x) :: Ow) Tp H) : v = .str x ∧ St H0 M pu Fz Ow Tp H := by
  refine ⟨?_, h.drop⟩
  obtain ⟨Z, S, h1, h2, h3, h4, h5, h6, h7, h8⟩ := h
  cases h3 with
  | cons r _ => cases r; rfl
/-- an owned tuple is opened -/
theorem St.tup {ds : List D} (h : St H0 M pu Fz ((v, .tuple ds) :: Ow) Tp H) : ∃ t vs, v = .ref t ∧ vs.length = ds.length ∧ St H0 M pu Fz (vs.zip ds ++ Ow) ((t, vs) :: Tp) H := by
  obtain ⟨Z, S, h1, h2, h3, h4, h5, h6, h7, h8⟩ := h
  cases h3 with
  | cons r r' =>
    cases r with
    | @tup a vs S1 _ e rs =>
      have el := rs.length
      refine ⟨a, vs, rfl, el, Z, _, h1, h2, ?_, h4, h5, fun x m => ?_, h7, h8⟩
      · rw [List.map_append, List.map_append, List.map_fst_zip (by omega), List.map_snd_zip (by omega)]
        exact rs.append r'
      · rcases List.mem_cons.mp m with rfl | m
        · exact e
        · exact h6 x m
/-- a value taken out of what is owned, as a whole tree -/
inductive Take (Tp : List (Addr × List V)) : List (V × D) → V → D → List (V × D) → Prop
  | non {Ow : List (V × D)} : Take Tp Ow .non .none Ow
  | bl {Ow : List (V × D)} (b : Bool) : Take Tp Ow (.bl b) (.bool b) Ow
  | int {Ow : List (V × D)} (i : Int) : Take Tp Ow (.int i) (.int i) Ow
  | str {Ow : List (V × D)} (x : Str) : Take Tp Ow (.str x) (.str x) Ow
  | own {Ow Ow' : List (V × D)} {v : V} {d : D} : Pick (v, d) Ow Ow' → Take Tp Ow v d Ow'
  | tp0 {Ow : List (V × D)} {t : Addr} : (t, []) ∈ Tp → Take Tp Ow (.ref t) (.tuple []) Ow
  | tp1 {Ow Ow1 : List (V × D)} {t : Addr} {v1 : V} {d1 : D} : (t, [v1]) ∈ Tp → Take Tp Ow v1 d1 Ow1 → Take Tp Ow (.ref t) (.tuple [d1]) Ow1
  | tp2 {Ow Ow1 Ow2 : List (V × D)} {t : Addr} {v1 v2 : V} {d1 d2 : D} : (t, [v1, v2]) ∈ Tp → Take Tp Ow v1 d1 Ow1 → Take Tp Ow1 v2 d2 Ow2 → Take Tp Ow (.ref t) (.tuple [d1, d2]) Ow2
  | tp3 {Ow Ow1 Ow2 Ow3 : List (V × D)} {t : Addr} {v1 v2 v3 : V} {d1 d2 d3 : D} : (t, [v1, v2, v3]) ∈ Tp → Take Tp Ow v1 d1 Ow1 → Take Tp Ow1 v2 d2 Ow2 → Take Tp Ow2 v3 d3 Ow3 → Take Tp Ow (.ref t) (.tuple [d1, d2, d3]) Ow3
inductive Takes (Tp : List (Addr × List V)) : List (V × D) → List V → List D → List (V × D) → Prop
  | nil {Ow : List (V × D)} : Takes Tp Ow [] [] Ow
  | cons {Ow Ow1 Ow2 : List (V × D)} {v : V} {vs : List V} {d : D} {ds : List D} : Take Tp Ow v d Ow1 → Takes Tp Ow1 vs ds Ow2 → Takes Tp Ow (v :: vs) (d :: ds) Ow2
theorem Take.reps (hT : ∀ x ∈ Tp, H x.1 = some (.tup x.2)) (k : Take Tp Ow v d Ow') : ∀ {S : List Addr}, Reps H S (Ow.map (·.1)) (Ow.map (·.2)) → ∃ S1 S2, Rep H S1 v d ∧ Reps H S2 (Ow'.map (·.1)) (Ow'.map (·.2)) ∧ S.Perm (S1 ++ S2) := by
  induction k with
  | non => exact fun h => ⟨_, _, .non, h, .refl _⟩
  | bl b => exact fun h => ⟨_, _, .bl b, h, .refl _⟩
  | int i => exact fun h => ⟨_, _, .int i, h, .refl _⟩
  | str x => exact fun h => ⟨_, _, .str x, h, .refl _⟩
  | own p => exact fun h => Reps.pick p h
  | tp0 m => exact fun h => ⟨_, _, .tup (hT _ m) .nil, h, .refl _⟩
  | tp1 m _ i1 =>
    intro S h
    obtain ⟨S1, S2, r1, r2, p1⟩ := i1 h
    refine ⟨_, _, .tup (hT _ m) (.cons r1 .nil), r2, ?_⟩
    rw [List.append_nil]
    exact p1
  | tp2 m _ _ i1 i2 =>
    intro S h
    obtain ⟨S1, S2, r1, r2, p1⟩ := i1 h
    obtain ⟨S3, S4, r3, r4, p2⟩ := i2 r2
    refine ⟨_, _, .tup (hT _ m) (.cons r1 (.cons r3 .nil)), r4, ?_⟩
    rw [List.append_nil, List.append_assoc]
    exact p1.trans (List.Perm.append_left _ p2)
  | tp3 m _ _ _ i1 i2 i3 =>
    intro S h
    obtain ⟨S1, S2, r1, r2, p1⟩ := i1 h
    obtain ⟨S3, S4, r3, r4, p2⟩ := i2 r2
    obtain ⟨S5, S6, r5, r6, p3⟩ := i3 r4
    refine ⟨_, _, .tup (hT _ m) (.cons r1 (.cons r3 (.cons r5 .nil))), r6, ?_⟩
    rw [List.append_nil, List.append_assoc, List.append_assoc]
    exact p1.trans (List.Perm.append_left _ (p2.trans (List.Perm.append_left _ p3)))
theorem Takes.reps {vs : List V} {ds : List D} (hT : ∀ x ∈ Tp, H x.1 = some (.tup x.2)) (k : Takes Tp Ow vs ds Ow') : ∀ {S : List Addr}, Reps H S (Ow.map (·.1)) (Ow.map (·.2)) → ∃ S1 S2, Reps H S1 vs ds ∧ Reps H S2 (Ow'.map (·.1)) (Ow'.map (·.2)) ∧ S.Perm (S1 ++ S2) := by
  induction k with
  | nil => exact fun h => ⟨_, _, .nil, h, .refl _⟩
  | cons k1 _ ih =>
    intro S h
    obtain ⟨S1, S2, r1, r2, p1⟩ := k1.reps hT h
    obtain ⟨S3, S4, r3, r4, p2⟩ := ih r2
    refine ⟨_, _, .cons r1 r3, r4, ?_⟩
    rw [List.append_assoc]
    exact p1.trans (List.Perm.append_left _ p2)
theorem St.take (h : St H0 M pu Fz Ow Tp H) (k : Take Tp Ow v d Ow') : St H0 M pu Fz ((v, d) :: Ow') Tp H := by
  obtain ⟨Z, S, h1, h2, h3, h4, h5, h6, h7, h8⟩ := h
  obtain ⟨S1, S2, r1, r2, pm⟩ := k.reps h6 h3
  exact ⟨Z, S1 ++ S2, h1, h2, .cons r1 r2, pm.nodup_iff.mp h4, fun a m => h5 a (pm.mem_iff.mpr m), h6, fun p b e => ⟨(h7 p b e).1, (h7 p b e).2.1, fun m => (h7 p b e).2.2 (pm.mem_iff.mpr m)⟩, h8⟩
/-- a new tuple -/
theorem St.mkTup {p : Addr} {vs : List V} (h : St H0 M pu Fz Ow Tp H) (hp : H p = Option.none) : St H0 M pu Fz Ow ((p, vs) :: Tp) (upd H p (.tup vs)) := by
  have k := same_upd (o := .tup vs) hp
  obtain ⟨Z, S, h1, h2, h3, h4, h5, h6, h7, h8⟩ := h.same k
  refine ⟨Z, S, h1, h2, h3, h4, h5, fun x m => ?_, h7, h8⟩
  rcases List.mem_cons.mp m with rfl | m
  · exact upd_same
  · exact h6 x m
/-- a new list of things that are taken -/
theorem St.mkLst {p : Addr} {vs : List V} {ds : List D} (h : St H0 M pu Fz Ow Tp H) (hp : H p = Option.none) (t : Takes Tp Ow vs ds Ow') : St H0 M pu Fz ((.ref p, .list ds) :: Ow') Tp (upd H p (.lst vs)) := by
  obtain ⟨Z0, S0, g1, g2, g3, g4, g5, g6, g7, g8⟩ := h
  have pS0 : p ∉ S0 := fun m => by
    obtain ⟨xs, q⟩ := Reps.dom _ _ _ g3 p m
    rw [hp] at q
    cases q
  have h : St H0 M pu Fz Ow Tp H := ⟨Z0, S0, g1, g2, g3, g4, g5, g6, g7, g8⟩
  have k := same_upd (o := .lst vs) hp
  have nz : ∀ a, Z0 a ∨ M = some a → a ≠ p := fun a z e => by
    obtain ⟨o, q⟩ := g8 a z
    rw [e, hp] at q
    cases q
  obtain ⟨S1, S2, r1, r2, pm⟩ := t.reps g6 g3
  have k1 : ∀ a ∈ S1, ∀ o, H a = some o → upd H p (.lst vs) a = some o := fun a m o e => k a o e
  refine ⟨Z0, (p :: S1) ++ S2, fun a o e m => ⟨(g1 a o e m).1, k a o (g1 a o e m).2⟩, fun x m => ?_, .cons (.lst upd_same (Reps.mono (fun t xs e => k t _ e) _ _ _ r1 k1)) (Reps.mono (fun t xs e => k t _ e) _ _ _ r2 fun a m o e => k a o e), ?_, fun a m => ?_, fun x m => k _ _ (g6 x m), fun q b e => ⟨(g7 q b e).1.mono (k q), (g7 q b e).2.1, fun m => ?_⟩, fun a z => ?_⟩
  · obtain ⟨T, r, z⟩ := g2 x m
    exact ⟨T, Rep.mono (fun t xs e => k t _ e) _ _ _ r fun a _ o e => k a o e, z⟩
  · rw [List.cons_append]
    exact List.nodup_cons.mpr ⟨fun m => pS0 (pm.mem_iff.mpr m), pm.nodup_iff.mp g4⟩
  · rcases List.mem_cons.mp (List.cons_append ▸ m) with rfl | m
    · exact ⟨fun z => nz a (.inl z) rfl, fun z => nz a (.inr z.symm) rfl⟩
    · exact g5 a (pm.mem_iff.mpr m)
  · rcases List.mem_cons.mp (List.cons_append ▸ m) with rfl | m
    · obtain ⟨x, y, z, e2, _⟩ := (g7 q b e).1
      rw [hp] at e2
      cases e2
    · exact (g7 q b e).2.2 (pm.mem_iff.mpr m)
  · obtain ⟨o, e⟩ := g8 a z
    exact ⟨o, k a o e⟩
mutual
/-- data without a list -/
def nolist : D → Bool
  | .list _ => false
  | .tuple ds => nolists ds
  | .dict _ => false
  | _ => true
def nolists : List D → Bool
  | [] => true
  | d :: ds => nolist d && nolists ds
end
mutual
theorem Rep.nolist : ∀ (d : D) (S : List Addr) (v : V), Rep H S v d → G.nolist d = true → S = []
  | .none, _, _, h, _ => by cases h; rfl
  | .bool b, _, _, h, _ => by cases h; rfl
  | .int i, _, _, h, _ => by cases h; rfl
  | .str x, _, _, h, _ => by cases h; rfl
  | .list ds, _, _, _, e => by simp [G.nolist] at e
  | .tuple ds, _, _, h, e => by
    cases h with
    | tup _ h2 => exact Reps.nolist ds _ _ h2 (by simpa [G.nolist] using e)
  | .dict _, _, _, _, e => by simp [G.nolist] at e
theorem Reps.nolist : ∀ (ds : List D) (S : List Addr) (vs : List V), Reps H S vs ds → nolists ds = true → S = []
  | [], _, _, h, _ => by cases h; rfl
  | d :: ds, _, _, h, e => by
    cases h with
    | cons h1 h2 =>
      rw [nolists, Bool.and_eq_true] at e
      rw [Rep.nolist d _ _ h1 e.1, Reps.nolist ds _ _ h2 e.2]
      rfl
end
/-- written data: what is made, item by item -/
def Lit (t : TE) (d : D) : Prop := ∀ (σ : L2.St) (H : Hp) (Q : VK) (H0 : Hp) (M : Option Addr) (pu : Option (Addr × Int)) (Fz Ow : List (V × D)) (Tp : List (Addr × List V)), St H0 M pu Fz Ow Tp H → (∀ v H', St H0 M pu Fz ((v, d) :: Ow) Tp H' → Q v H') → t σ H Q
def LitA (t : TA) (ds : List D) : Prop := ∀ (σ : L2.St) (H : Hp) (Q : List V → Hp → Prop) (H0 : Hp) (M : Option Addr) (pu : Option (Addr × Int)) (Fz Ow : List (V × D)) (Tp : List (Addr × List V)), St H0 M pu Fz Ow Tp H → (∀ vs H', vs.length = ds.length → St H0 M pu Fz ((vs.zip ds).reverse ++ Ow) Tp H' → Q vs H') → t σ H Q
theorem lit_int {i : Int} : Lit (tC (.int i)) (.int i) := fun _ H _ _ _ _ _ _ _ h k => k _ _ (h.take (.int i))
theorem lit_str {x : Str} : Lit (tC (.str x)) (.str x) := fun _ H _ _ _ _ _ _ _ h k => k _ _ (h.take (.str x))
theorem lit_bool {b : Bool} : Lit (tC (.bl b)) (.bool b) := fun _ H _ _ _ _ _ _ _ h k => k _ _ (h.take (.bl b))
theorem lit_none : Lit (tC .non) .none := fun _ H _ _ _ _ _ _ _ h k => k _ _ (h.take .non)
theorem litA_nil : LitA tNil [] := fun _ _ _ _ _ _ _ _ _ h k => k [] _ rfl h
theorem litA_cons {t : TE} {ts : TA} {d : D} {ds : List D} (h1 : Lit t d) (h2 : LitA ts ds) : LitA (tCons t ts) (d :: ds) := fun σ H Q H0 M pu Fz Ow Tp h k =>
  h1 σ H _ H0 M pu Fz Ow Tp h fun v H1 k1 => h2 σ H1 _ H0 M pu Fz _ Tp k1 fun vs H2 el k2 => k (v :: vs) H2 (by simp [el]) (by simpa using k2)
theorem takes_rev {Tp : List (Addr × List V)} {Ow : List (V × D)} : ∀ (vs : List V) (ds : List D) (pre : List (V × D)), vs.length = ds.length → Takes Tp (pre.reverse ++ (vs.zip ds) ++ Ow) vs ds (pre.reverse ++ Ow)
  | [], [], pre, _ => by simpa using Takes.nil
  | v :: vs, d :: ds, pre, e => by
    have pk : ∀ (l r : List (V × D)), Pick (v, d) (l ++ (v, d) :: r) (l ++ r) := fun l => by
      induction l with
      | nil => intro r; exact .hd
      | cons x l ih => intro r; exact .tl (ih r)
    have q := takes_rev (Tp := Tp) (Ow := Ow) vs ds pre (by simpa using e)
    refine .cons (Ow1 := pre.reverse ++ vs.zip ds ++ Ow) (.own ?_) q
    have := pk pre.reverse (vs.zip ds ++ Ow)
    simpa using this
theorem St.unrev (vs : List V) (ds : List D) (h : St H0 M pu Fz ((vs.zip ds).reverse ++ Ow) Tp H) : St H0 M pu Fz (vs.zip ds ++ Ow) Tp H := by
  obtain ⟨Z, S, h1, h2, h3, h4, h5, h6, h7, h8⟩ := h
  have perm : ∀ (l l' : List (V × D)), l.Perm l' → ∀ S, Reps H S (l.map (·.1)) (l.map (·.2)) → ∃ S', Reps H S' (l'.map (·.1)) (l'.map (·.2)) ∧ S.Perm S' := by
    intro l l' pm
    induction pm with
    | nil => exact fun S r => ⟨S, r, .refl _⟩
    | cons x _ ih =>
      intro S r
      cases r with
      | cons r1 r2 =>
        obtain ⟨S', r', p'⟩ := ih _ r2
        exact ⟨_, .cons r1 r', List.Perm.append_left _ p'⟩
    | swap x y l =>
      intro S r
      cases r with
      | @cons Sy _ _ _ _ _ r1 r2 =>
        cases r2 with
        | @cons Sx Sl _ _ _ _ r2 r3 =>
          refine ⟨_, .cons r2 (.cons r1 r3), ?_⟩
          rw [← List.append_assoc, ← List.append_assoc]
          exact List.Perm.append_right _ List.perm_append_comm
    | trans _ _ ih1 ih2 =>
      intro S r
      obtain ⟨S1, r1, p1⟩ := ih1 S r
      obtain ⟨S2, r2, p2⟩ := ih2 S1 r1
      exact ⟨S2, r2, p1.trans p2⟩
  obtain ⟨S', r', pm⟩ := perm _ _ (List.Perm.append_right Ow (List.reverse_perm (vs.zip ds))) S h3
  exact ⟨Z, S', h1, h2, r', pm.nodup_iff.mp h4, fun a m => h5 a (pm.mem_iff.mpr m), h6, fun p b e => ⟨(h7 p b e).1, (h7 p b e).2.1, fun m => (h7 p b e).2.2 (pm.mem_iff.mpr m)⟩, h8⟩
theorem lit_lst {t : TA} {ds : List D} (h1 : LitA t ds) (hl : ds.length ≤ 1000000 := by decide) : Lit (tLst t) (.list ds) := fun σ H Q H0 M pu Fz Ow Tp h k =>
  h1 σ H _ H0 M pu Fz Ow Tp h fun vs H1 el k1 => ⟨by rw [el]; exact Nat.le_trans hl (by decide), fun p hp => k _ _ ((k1.unrev vs ds).mkLst hp (takes_rev vs ds [] el))⟩
theorem lit_tup {t : TA} {ds : List D} (h1 : LitA t ds) (hl : ds.length ≤ 1000000 := by decide) : Lit (tTup t) (.tuple ds) := fun σ H Q H0 M pu Fz Ow Tp h k =>
  h1 σ H _ H0 M pu Fz Ow Tp h fun vs H1 el k1 => ⟨by rw [el]; exact Nat.le_trans hl (by decide), fun p hp => by
    have q := (k1.unrev vs ds).mkTup (vs := vs) hp
    obtain ⟨Z, S, h1, h2, h3, h4, h5, h6, h7, h8⟩ := q
    have h6' := h6 _ List.mem_cons_self
    rw [List.map_append, List.map_append, List.map_fst_zip (by omega), List.map_snd_zip (by omega)] at h3
    obtain ⟨S1, S2, u1, u2, eS, eu, r1, r2⟩ := h3.split
    have e1 : u1 = vs ∧ u2 = Ow.map (·.1) := by
      have l1 := r1.length
      have := List.append_inj eu (by omega)
      exact ⟨this.1.symm, this.2.symm⟩
    obtain ⟨rfl, rfl⟩ := e1
    refine k _ _ ⟨Z, S, h1, h2, ?_, h4, h5, fun x m => h6 x (List.mem_cons_of_mem _ m), h7, h8⟩
    rw [eS]
    exact .cons (.tup h6' r1) r2⟩
end
/-- what a def makes of trees: W says of the arguments what the result may be -/
abbrev Tw := List D → (D → Prop) → Prop
/-- a def that changes nothing, and whose lists are new -/
def spT (W : Tw) : Sp := fun vs H Q _ => ∃ S ds G, Reps H S vs ds ∧ W ds G ∧ ∀ d v H', G d → Same H H' → New H H' v d → Q v H'
/-- a def that draws at most c times from the purse, its first argument -/
def spP (c : Int) (W : Tw) : Sp := fun vs H Q _ => ∃ p b vs' S ds G, vs = .ref p :: vs' ∧ PuAt H p b ∧ b + c ≤ 2 ^ 100 ∧ Reps H S vs' ds ∧ p ∉ S ∧ W ds G ∧ ∀ d v H', G d → (∀ a o, H a = some o → a ≠ p → H' a = some o) → PuAt H' p (b + c) → New H H' v d → Q v H'
section
variable {H0 H H' : Hp} {M : Option Addr} {pu : Option (Addr × Int)} {Fz Ow Ow' : List (V × D)} {Tp : List (Addr × List V)} {v : V} {d : D} {Q : VK} {E : XK} {W : Tw} {vs : List V} {ds : List D}
theorem St.call (h : St H0 M pu Fz Ow Tp H) (r : Rdbs Fz Ow Tp vs ds) (w : W ds fun d => ∀ v H', St H0 M pu Fz ((v, d) :: Ow) Tp H' → Q v H') : spT W (vs ++ []) H Q E0 := by
  obtain ⟨T, r, _⟩ := h.rds r
  rw [List.append_nil]
  exact ⟨T, ds, _, r, w, fun d v H' k s n => k v H' (h.new s n)⟩
end
end G
namespace G
open PySem PySem.Spec PyProof.Rows L2
/-- no repr is under way -/
abbrev Bare (A : Around) : Prop := A.guards = some []
theorem Bare.deeper {A : Around} (h : Bare A) (env : Env) : Bare (A.deeper env) := h
/-- a def's promise, called where no repr is under way -/
structure FnG (P : Program) (w : World) (K : PySem.W.Frag) (mg : Str → Option Value) (base : Heap) (CX : CXT) (k : Nat) (f : Addr) (fd : FuncData) (ps : List Str) (sp : Sp) : Prop where
  len : ∀ vs H Q E, sp vs H Q E → vs.length = ps.length
  run : ∀ (A : Around) (outer : List Env) (s : Shared) (H : Hp) (args : Args) (us : List Value) (vs : List V) (Q : VK) (E : XK), Bare A → Room k A → Env0 P w K mg base A outer s H → BindsTo s fd args (ps.zip us) → Vals vs us → sp vs H Q E →
    codeAny (model P w) A (.call (.ref f) args) (CR CX outer P w H s Q E) s
section
variable {P : Program} {w : World} {K : PySem.W.Frag} {mg : Str → Option Value} {base : Heap} {CX : CXT} {k j : Nat} {f : Addr} {fd : FuncData} {ps : List Str} {sp : Sp}
theorem FnG.mono (F : FnG P w K mg base CX j f fd ps sp) (h : j ≤ k) : FnG P w K mg base CX k f fd ps sp :=
  ⟨F.len, fun A o s H args us vs Q E hg hr => F.run A o s H args us vs Q E hg (hr.mono h)⟩
theorem FnG.of (F : FnOk P w K mg base CX k f fd ps sp) : FnG P w K mg base CX k f fd ps sp := ⟨F.len, fun A o s H args us vs Q E _ hr => F.run A o s H args us vs Q E hr⟩
/-- a def by its body: as the layer's rule, with the guards told to the body -/
theorem fn_ofG {name qual : Str} {params : Arguments} {body : List Stmt} {scope : Scope} {dV kV doc pm cdv ct oc : Value} {an od : Option Addr} {osl : Array (Option Value)} {N : List Str}
    (lk : K.lookup f = some ⟨oc, od, .func (PySem.W.fnOf name qual params body scope dV kV doc pm an cdv ct), osl⟩) (hcd : PySem.W.codeIn K cdv qual = true) (S : FnScope N ps scope) (len : ∀ vs H Q E, sp vs H Q E → vs.length = ps.length)
    (hb : ∀ (A : Around) (outer : List Env) (s : Shared) (H : Hp) (vs : List V) (Q : VK) (E : XK), Bare (A.deeper (envOfC qual scope s.heap.objs.size f cdv)) → Room k (A.deeper (envOfC qual scope s.heap.objs.size f cdv)) → sp vs H Q E →
      ∃ t, PSs (cxOf CX P w K mg base N qual scope f cdv A outer s H E) body t ∧ t ⟨fun _ H' => Q .non H', Q, fun _ _ => False, fun _ _ => False⟩ (start N vs) H) :
    FnG P w K mg base CX (k + 1) f (PySem.W.fnOf name qual params body scope dV kV doc pm an cdv ct) ps sp := by
  refine ⟨len, fun A outer s H args us vs Q E hg hr e0 bt r q => ?_⟩
  have keep : ∀ b o, base.get? b = some o → s.heap.get? b = some o := fun b o e => (e0.bs b o e).1
  have KX : K.In s.heap := e0.mod.kin.keeps keep
  refine codeAny_call_function hr.depth (KX _ _ lk) rfl S.co S.gen rfl (PySem.W.codeRec_of KX hcd) (bt _ _ _ _ (wpAny_newFunctionEnv_cells S.kind (fun y hy => ?_) fun env he s1 x => ?_))
  · rcases S.par y.1 (List.of_mem_zip (a := y.1) (b := y.2) hy).1 with z | z
    · exact Or.inl z
    · exact Or.inr ⟨z, PySem.W.cellsFrom_some _ _ _ (Or.inl z)⟩
  · subst he
    obtain ⟨t, ht, hq⟩ := hb A outer s H vs Q E (hg.deeper _) (hr.deeper _) q
    refine ⟨(e0.mod.nolimit.keeps keep).keeps x.toInCall.keep, codeAny_func (wpAny_mono (ht.run [] s1 (start N vs) H _ (inv_start S hr.hd e0 (len _ _ _ _ q) r x) hq) (fun fl s' hs => ?_) fun e s' z => z)⟩
    cases fl with
    | next =>
      obtain ⟨_, H', J, z⟩ := hs
      exact ⟨V.non, H', J.os, J.bare, J.base, J.hok, rfl, z⟩
    | ret u =>
      obtain ⟨v, _, H', J, rv, z⟩ := hs
      exact ⟨v, H', J.os, J.bare, J.base, J.hok, rv, z⟩
    | brk => exact hs.elim fun _ z => z.elim fun _ z => z.2.elim
    | cont => exact hs.elim fun _ z => z.elim fun _ z => z.2.elim
/-- .. where no exception leaves the def -/
theorem okG {x qual : Str} {st : Stmt} {N : List Str} (F : Fun K x qual st f fd) (S : FnScope N ps (defScope st)) (len : ∀ vs H Q E, sp vs H Q E → vs.length = ps.length)
    (hb : ∀ (cdv : Value) (A : Around) (outer : List Env) (s : Shared) (H : Hp) (vs : List V) (Q : VK) (E : XK), Bare (A.deeper (envOfC qual (defScope st) s.heap.objs.size f cdv)) → Room k (A.deeper (envOfC qual (defScope st) s.heap.objs.size f cdv)) → sp vs H Q E →
      ∃ t, PSs (cxOf CX0 P w K mg base N qual (defScope st) f cdv A outer s H E).nox (defBody st) t ∧ t ⟨fun _ H' => Q .non H', Q, fun _ _ => False, fun _ _ => False⟩ (start N vs) H) : FnG P w K mg base CX0 (k + 1) f fd ps sp := by
  obtain ⟨oc, od, kV, doc, pm, an, cdv, ct, osl, rfl, lk, hcd⟩ := F.ex
  refine fn_ofG lk hcd S len fun A outer s H vs Q E hg hr q => ?_
  obtain ⟨t, h, z⟩ := hb cdv A outer s H vs Q E hg hr q
  exact ⟨t, h.nox, z⟩
end
section
variable {X : Cx} {CX : CXT} {k : Nat} {f : Addr} {fd : FuncData} {ps ks : List Str} {sp : Sp} {E : XK} {x : Str} {p pos kpos : Pos} {e : Expr} {es : List Expr} {kws : List Keyword} {t tk : TA}
theorem end_callG {pins : List (Addr × Obj)} {σ : L2.St} {H : Hp} {s : Shared} {Q : VK} (hx : Passes CX X E) (I : Inv X pins σ H s) {r : Result} {s' : Shared} (hq : CR CX X.stack X.prog X.w H s Q E r s') : callEnd (EP X pins σ Q) X.xe r s' := by
  match r, hq with
  | .error e, hq => exact hx pins σ H s e s' I hq
  | .ok (.ret u), hq => exact I.after hq
/-- f(e, ..) of a def of the module, all parameters given by place -/
theorem pe_callG (F : FnG X.prog X.w X.K X.mg X.base CX k f fd ps sp) (hb : Bare X.A) (hr : Room k X.A) (hg : Gl X x) (hm : X.mg x = some (.ref f)) (hk : PySem.W.keepIn X.K (.ref f) = true) (bd : Binds X.K fd ps []) (hx : Passes CX X E)
    (ha : PA X (e :: es) t) (hdb : (x == ("__debug__" : Str)) = false := by decide) (he : starEach (e :: es) X.env = (false, eval e X.env) :: starEach es X.env := by rfl) (hpl : (backTo pos (starEach es X.env)).any (·.1) = false := by rfl) :
    PE X (.Call (.Name x p) (e :: es) [] pos) (tCall sp [] E t) := by
  refine ⟨fun pins s σ H Q I h => wpAny_Call_Name_kw (ld_glob I hg hm (PySem.W.callWith_K (h₀ := X.base) I.ok.mod.kin hk (thn (ha.run pos pins s σ H _ I h) fun us s1 ⟨vs, H1, I1, r, q⟩ => ⟨I1.kIn, ?_⟩) he hpl) hdb)⟩
  have r2 : Vals (vs ++ []) (us ++ []) := by
    rw [List.append_nil, List.append_nil]
    exact r
  refine wpAny_call (codeAny_mono (F.run X.A X.stack s1 H1 ⟨us, []⟩ (us ++ []) (vs ++ []) Q E hb hr I1.env0 (bd s1 us I1.kIn (r2.length.symm.trans (F.len _ _ _ _ q))) r2 q) fun r s' hq => end_callG hx I1 hq)
variable {g : List Value → List Value → List Value} {gV : List V → List V → List V}
end
theorem vals_pick {zs : List V} {ws : List Value} (r : Vals zs ws) : ∀ ix : List Nat, Vals (ix.filterMap fun i => zs[i]?) (ix.filterMap fun i => ws[i]?)
  | [] => .nil
  | i :: ix => by
    cases e : zs[i]? with
    | none =>
      have e2 := r.none_of e
      rw [List.filterMap_cons_none e, List.filterMap_cons_none e2]
      exact vals_pick r ix
    | some v =>
      obtain ⟨u, e2, ru⟩ := r.get e
      rw [List.filterMap_cons_some e, List.filterMap_cons_some e2]
      exact .cons ru (vals_pick r ix)
theorem law_callG {P : Program} {w : World} {K : PySem.W.Frag} {mg mb : Str → Option Value} {CX : CXT} {k : Nat} {fa a : Addr} {fd : FuncData} {x : Str} {sp : Sp} {s : Shared} {vs : List Value} {ns : List Int}
    (KX : K.In s.heap) (hns : s.heap.Ns mainGlobals mg) (hb : s.heap.Ns builtinsNs mb) (hbb : ∀ y : Str, y ≠ "__name__" → mb y = bootBuiltins y) (hlim : s.heap.NoLimit) (hg : s.gens = #[])
    (ha : s.heap.get? a = some { cls := .type "list", data := .seq vs.toArray }) (hi : IntsAre vs ns) (hl : ns.length ≤ sizeLine) (hr : Room k callerA)
    (F : ∀ base : Heap, K.In base → base.Ns mainGlobals mg → FnG P w K mg base CX k fa fd [x] sp) (hbind : ∀ (s : Shared) (u : Value), BindsTo s fd ⟨[u], []⟩ [(x, u)])
    (hsp : ∀ H : Hp, Only H → SqL K H a (ns.map V.int) → sp [.ref a] H (fun v _ => v = .bl true) fun _ _ _ => False) (hCX : ∀ H e s', CX [] H s (fun _ _ _ => False) e s' → False) :
    codeAny (model P w) callerA (.call (.ref fa) ⟨[.ref a], []⟩) (fun r s' => r = .ok (.ret (.bool true)) ∧ OldK s.heap s'.heap ∧ s'.os = s.os ∧ AllBare s'.gens) s := by
  have rv : Vals (ns.map V.int) vs := vals_ints hi
  have lenV : vs.length = ns.length := by rw [← rv.length, List.length_map]
  -- for a heap H that tracks the script alone, or nothing
  have main : ∀ H : Hp, Only H → SqL K H a (ns.map V.int) → HOk P w H s.heap → (∀ b, H b ≠ none → b = a) → (H a ≠ none → K.lookup a = none) →
      codeAny (model P w) callerA (.call (.ref fa) ⟨[.ref a], []⟩) (fun r s' => r = .ok (.ret (.bool true)) ∧ OldK s.heap s'.heap ∧ s'.os = s.os ∧ AllBare s'.gens) s := fun H hO hS hok hA hK => by
    have dictless : ∀ {b : Addr} {o : Obj} {es : Array DictEntry} {ep : Nat}, s.heap.get? b = some o → o.data = .dict es ep → H b = none := fun {b o es ep} e d => by
      cases z : H b with
      | none => rfl
      | some u =>
        rw [hA b (by rw [z]; intro q; cases q), ha] at e
        cases e
        cases (show Data.seq vs.toArray _ = Data.dict es ep from d)
    have nsB : ∀ {b : Addr} {m : Str → Option Value}, s.heap.Ns b m → (hidT s.heap H).Ns b m := fun {b m} ⟨o, es, ep, e, d, r⟩ => ⟨o, es, ep, hidT_get e (dictless e d), d, r⟩
    have kinB : K.In (hidT s.heap H) := fun b o e => hidT_get (KX b o e) (by
      cases z : H b with
      | none => rfl
      | some u =>
        have eb := hA b (by rw [z]; intro q; cases q)
        subst eb
        rw [hK (by rw [z]; intro q; cases q)] at e
        cases e)
    obtain ⟨mc, l1, l2⟩ := hlim
    have e0 : Env0 P w K mg (hidT s.heap H) callerA [] s H := ⟨rfl, ⟨kinB, nsB hns, ⟨mb, nsB hb, hbb⟩, ⟨mc, nsB l1, l2⟩⟩, fun b o e => of_hidT e, Nat.le_of_eq (hidT_size _ _), trivial, fun b z => (nomatch (show b ∈ ([] : List Addr) from z)), hok, .of_eq hg⟩
    refine codeAny_mono ((F _ kinB (nsB hns)).run callerA [] s H ⟨[.ref a], []⟩ [.ref a] [.ref a] _ _ rfl hr e0 (hbind s (.ref a)) (.cons rfl .nil) (hsp H hO hS)) fun r s' h => ?_
    match r, h with
    | .error e, h => exact (hCX H e s' h).elim
    | .ok (.ret u), ⟨v, H', os, bare, un, hok', r', q⟩ =>
      have q' : v = .bl true := q
      subst q'
      obtain rfl : u = Value.bool true := r'
      refine ⟨rfl, OldK.of_keep fun b o e => ?_, os, bare⟩
      cases z : H b with
      | none => exact un.keep b o e z (fun m => nomatch (show b ∈ ([] : List Addr) from m)) (fun m => nomatch m)
      | some u =>
        rcases hO b with y | ⟨ob, xs, y⟩
        · rw [z] at y
          cases y
        · have e1 := (hok b _ y).1
          rw [e] at e1
          cases e1
          exact (hok' b _ (un.frzs b _ _ y)).1
  cases hk : K.lookup a with
  | some o =>
    have e := KX a o hk
    rw [ha] at e
    cases e
    exact main (fun _ => none) (fun _ => .inl rfl) (.inr ⟨_, vs.toArray, _, hk, rfl, rfl, rfl, by rw [List.size_toArray, lenV]; exact hl, by simpa using rv⟩) (fun b u z => nomatch z) (fun b z => absurd rfl z) fun z => absurd rfl z
  | none =>
    have at_a : (fun b : Addr => if b = a then some (HO.frz { cls := .type "list", data := .seq vs.toArray } (.lst (ns.map V.int))) else none) a = some (HO.frz { cls := .type "list", data := .seq vs.toArray } (.lst (ns.map V.int))) := if_pos rfl
    have off : ∀ b, b ≠ a → (fun b : Addr => if b = a then some (HO.frz { cls := .type "list", data := .seq vs.toArray } (.lst (ns.map V.int))) else none) b = none := fun b h => if_neg h
    refine main (fun b => if b = a then some (.frz { cls := .type "list", data := .seq vs.toArray } (.lst (ns.map V.int))) else none) (fun b => ?_) (.inl (.inr ⟨_, at_a⟩)) (fun b u z => ?_) (fun b z => ?_) fun _ => hk
    · by_cases h : b = a
      · exact .inr ⟨_, _, by subst h; exact at_a⟩
      · exact .inl (off b h)
    · by_cases h : b = a
      · subst h
        rw [at_a] at z
        cases z
        exact ⟨ha, by rw [List.length_map]; exact hl, vs, _, rv, ha⟩
      · rw [off b h] at z
        cases z
    · exact Classical.byContradiction fun h => z (off b h)
theorem walk_ofG {l : PySem.W.OpenLaw} {n k : Nat} {q : Program} {loose : List Str} {XP : (Str → Option Value) → Heap → Prop} {YP : World → Heap → Prop} {d : DefRec} {K : Params → PySem.W.Frag} {CX : World → CXT} {sp : World → Sp} {x : Str}
    (hn : l.most = some n) (hn2 : n ≤ sizeLine) (hdf : d.params.defaults = []) (hr : Room k callerA) (hY : ∀ (w : World) (h : Heap), YP w h → (K w.params).In h)
    (F : ∀ (w : World) (mg : Str → Option Value) (fa : Addr) (h : Heap), (K w.params).In h → h.Ns mainGlobals mg → mg d.name = some (.ref fa) →
      ∃ fd : FuncData, (∀ (s : Shared) (u : Value), BindsTo s fd ⟨[u], []⟩ [(x, u)]) ∧ ∀ base : Heap, (K w.params).In base → base.Ns mainGlobals mg → FnG l.prog w (K w.params) mg base (CX w) k fa fd [x] (sp w))
    (hsp : ∀ (w : World) (H : Hp) (a : Addr) (ns : List Int), ns.length ≤ n → (∀ z ∈ ns, Builtin.Int.intBits z ≤ 1048576) → Only H → SqL (K w.params) H a (ns.map V.int) → sp w [.ref a] H (fun v _ => v = .bl true) fun _ _ _ => False)
    (hCX : ∀ (w : World) (H : Hp) (s : Shared) (e : Value) (s' : Shared), CX w [] H s (fun _ _ _ => False) e s' → False) : PySem.W.WalkO q loose XP YP l.row.toRowW d [] (fun f vs => PySem.call f vs) :=
  Att.attach_callB hn hdf fun w _ s1 mg mb fa _ _ _ _ a vs ns G Y _ _ _ hmg hobj hints hlen hbits hg => by
    have KX := hY w _ Y
    obtain ⟨fd, hb, hF⟩ := F w mg fa _ KX G.T.g hmg
    exact law_callG KX G.T.g G.T.b G.T.builtins G.T.nolimit hg hobj hints (Nat.le_trans hlen hn2) hr hF hb (fun H hO hS => hsp w H a ns hlen hbits hO hS) fun H e s' => hCX w H s1 e s'
section
variable {X : Cx}
/-- repr of plain data -/
def rRepr (K : PySem.W.Frag) : List V → Hp → VK → Prop := fun vs H Q => ∃ x d, vs = [x] ∧ Dp K H x d ∧ d.showable = true ∧ d.depth ≤ 60 ∧ d.shown.length ≤ sizeLine ∧ Q (.str d.shown) H
theorem Dp.nodict {K : PySem.W.Frag} {H : Hp} : ∀ (d : D) (x : V), Dp K H x d → d.hasDict = false
  | .none, _, _ => by simp [PyData.hasDict]
  | .bool _, _, _ => by simp [PyData.hasDict]
  | .int _, _, _ => by simp [PyData.hasDict]
  | .str _, _, _ => by simp [PyData.hasDict]
  | .list ds, _, h => by
    cases h with
    | lst _ hs =>
      rw [PyData.hasDict]
      exact all ds _ hs
  | .tuple ds, _, h => by
    cases h with
    | tup _ hs =>
      rw [PyData.hasDict]
      exact all ds _ hs
  | .dict _, _, h => by cases h
where all : ∀ (ds : List D) (vs : List V), DpAll K H vs ds → PyData.hasDictAll ds = false
  | [], _, _ => by simp [PyData.hasDictAll]
  | d :: ds, _, h => by
    cases h with
    | cons h1 h2 =>
      rw [PyData.hasDictAll, Dp.nodict d _ h1, all ds _ h2]
      rfl
theorem cr_repr (hg : Bare X.A) (hu : X.A.units + 64 < cLine) : CallR X (.builtin "repr") (rRepr X.K) := by
  intro pins s σ H xs us Q I r h
  obtain ⟨x, d, rfl, hd, sh, dp, sz, q⟩ := h
  obtain ⟨u, rfl, rx⟩ := vals1 r
  obtain ⟨as, hr⟩ := Dp.reads I d x u hd rx
  have nd := Dp.nodict d x hd
  cases d with
  | none =>
    cases hd
    cases rx
    exact PySem.P.repr_of_none ⟨.str _, H, I.tok _, ⟨_, rfl⟩, q⟩
  | bool b =>
    cases hd
    cases rx
    refine PySem.P.repr_of_bool ⟨.str _, H, I.tok _, ⟨_, rfl⟩, ?_⟩
    cases b <;> exact q
  | int i =>
    cases hd
    obtain ⟨t, rfl⟩ := rx
    refine PySem.P.repr_of_int (by simpa [PyData.showable] using sh) ⟨.str _, H, I.tok _, ⟨_, rfl⟩, q⟩
  | str z =>
    cases hd
    obtain ⟨t, rfl⟩ := rx
    exact PySem.P.repr_of_str ⟨.str _, H, I.tok _, ⟨_, rfl⟩, q⟩ (by simpa [PyData.shown] using sz)
  | list ds =>
    cases hd
    cases rx
    exact repr_of_reads' hr sh (fun z => by rw [nd] at z; cases z) hg (by omega) (fun _ _ e => e) (fun h' u tk k => ⟨.str _, H, I.kept k, ⟨_, rfl⟩, q⟩) sz
  | tuple ds =>
    cases hd
    cases rx
    exact repr_of_reads' hr sh (fun z => by rw [nd] at z; cases z) hg (by omega) (fun _ _ e => e) (fun h' u tk k => ⟨.str _, H, I.kept k, ⟨_, rfl⟩, q⟩) sz
  | dict _ => cases hd
/-- a ** b of great numbers -/
def CPowW (i j : Int) : Prop := 0 ≤ j ∧ (Builtin.Int.intBits i : Int) * j ≤ 2 ^ 27
theorem op_powW : OpR X (binaryOp .Pow) (rI CPowW fun i j => .int (i ^ j.toNat)) := opI fun _ _ _ _ _ _ _ hc q => pow_int hc.1 hc.2 q
/-- a * b: together below a hundred million bits -/
def CMulB (i j : Int) : Prop := Builtin.Int.intBits i + Builtin.Int.intBits j < 100000000
theorem CMulB.ok {i j : Int} (h : CMulB i j) : IntMulOk i j := by
  have e : bitsLine = 134217728 := by decide
  unfold IntMulOk
  intro z
  rw [Bool.and_eq_true] at z
  have z2 := z.2
  unfold Builtin.Int.intTooBig at z2
  have z3 := of_decide_eq_true z2
  rw [e] at z3
  unfold CMulB at h
  omega
theorem op_mulB : OpR X (binaryOp .Mult) (rI CMulB fun i j => .int (i * j)) := opI fun _ _ _ _ _ _ _ hc q => mul_int q hc.ok
end
end G
namespace G
open PySem PySem.Spec PyProof.Rows L2
/-- the built-in names that no def hides -/
structure Blt (mg : Str → Option Value) : Prop where
  len : mg "len" = none
  range : mg "range" = none
  max : mg "max" = none
  min : mg "min" = none
  abs : mg "abs" = none
  int : mg "int" = none
  list : mg "list" = none
  tuple : mg "tuple" = none
  repr : mg "repr" = none
  all : mg "all" = none
  any : mg "any" = none
  sum : mg "sum" = none
  sorted : mg "sorted" = none
  isinstance : mg "isinstance" = none
  set : mg "set" = none
  enumerate : mg "enumerate" = none
  zip : mg "zip" = none
  str : mg "str" = none
  divmod : mg "divmod" = none
  dict : mg "dict" = none
  bool : mg "bool" = none
  reversed : mg "reversed" = none
/-- a def of the top as it stands -/
structure DefAt (K : PySem.W.Frag) (mg : Str → Option Value) (x : Str) (st : Stmt) (f : Addr) (fd : FuncData) (ps : List Str) : Prop where
  F : Fun K x x st f fd
  gl : mg x = some (.ref f)
  bd : Binds K fd ps []
theorem DefAt.kp {K : PySem.W.Frag} {mg : Str → Option Value} {x : Str} {st : Stmt} {f : Addr} {fd : FuncData} {ps : List Str} (d : DefAt K mg x st f fd ps) : PySem.W.keepIn K (.ref f) = true := d.F.kp
theorem szle {n : Nat} (h : n ≤ 10000000) : n ≤ sizeLine := Nat.le_trans h (by decide)
theorem szlt {n : Nat} (h : n ≤ 10000000) : n < sizeLine := Nat.lt_of_le_of_lt h (by decide)
section
variable {H : Hp} {S : List Addr} {vs : List V}
theorem Reps.one {d1 : D} (r : Reps H S vs [d1]) : ∃ v1, vs = [v1] := by
  cases r with
  | cons _ r => cases r; exact ⟨_, rfl⟩
end
theorem at_nat {xs : List V} {i : Int} {k : Nat} {v : V} (hi : i = (k : Int)) (h : xs[k]? = some v) : atI xs i = some v := by
  subst hi
  exact atI_nat h
theorem ints_at {ns : List Int} {k : Nat} {n : Int} (h : ns[k]? = some n) : (ns.map V.int)[k]? = some (.int n) := by
  rw [List.getElem?_map, h]
  rfl
theorem ints_len {ns : List Int} : (ns.map V.int).length = ns.length := List.length_map ..
/-- the ints a, a + 1, .. below b -/
def rg (a b : Int) : List Int := (List.range (b - a).toNat).map fun i => a + (i : Nat)
theorem rg_length (a b : Int) : (rg a b).length = (b - a).toNat := by unfold rg; rw [List.length_map, List.length_range]
theorem dec_eq_int {i j : Int} : decide (V.int i = V.int j) = decide (i = j) := by
  by_cases h : i = j
  · subst h; simp
  · rw [decide_eq_false h, decide_eq_false fun e => h (V.int.inj e)]
theorem iteB {b : Bool} {A B : Prop} (h1 : b = true → A) (h2 : b = false → B) : if b = true then A else B := by
  cases b with
  | true => exact iteT (h1 rfl)
  | false => exact iteF (h2 rfl)
/-- an effect as data -/
abbrev dE (e : Int × List Int) : D := .tuple [.int e.1, dI e.2]
end G
namespace G
open PySem PySem.Spec PyProof.Rows L2
mutual
/-- no less than the signs of the text -/
def wd : D → Nat
  | .none => 4
  | .bool _ => 5
  | .int i => i.natAbs.log2 + 3
  | .str x => (reprText x).length
  | .list ds => wds ds + 3
  | .tuple ds => wds ds + 3
  | .dict _ => 100000000
def wds : List D → Nat
  | [] => 0
  | d :: ds => wd d + 2 + wds ds
end
theorem shownAll_len : ∀ ds : List D, (PyData.shownAll ds).length = ds.length
  | [] => by simp [PyData.shownAll]
  | d :: ds => by simp [PyData.shownAll, shownAll_len ds]
mutual
theorem shown_wd : ∀ d : D, d.hasDict = false → d.shown.length ≤ wd d
  | .none, _ => by
    have e : (PyData.shown .none).length = 4 := rfl
    simp only [wd]
    omega
  | .bool b, _ => by
    have e : (PyData.shown (.bool b)).length ≤ 5 := by cases b <;> decide
    simpa only [wd] using e
  | .int i, _ => by
    have h := int_text_length_le (a := i) (k := i.natAbs.log2 + 1) (by omega) (by omega)
    have e : (PyData.shown (.int i)).length = (toString i).length := by
      show (Str.ofString (toString i)).length = _
      rw [PySem.ofString_length]
    rw [e]
    simp only [wd]
    omega
  | .str x, _ => by simp only [PyData.shown, wd]; exact Nat.le_refl _
  | .list ds, h => by
    have h1 := shownAll_wds ds (by simpa [PyData.hasDict] using h)
    have h2 := listText_len_le (PyData.shownAll ds)
    rw [shownAll_len] at h2
    simp only [PyData.shown, wd]
    omega
  | .tuple ds, h => by
    have h1 := shownAll_wds ds (by simpa [PyData.hasDict] using h)
    have h2 := tupleText_len_le (PyData.shownAll ds)
    rw [shownAll_len] at h2
    simp only [PyData.shown, wd]
    omega
  | .dict _, h => by simp [PyData.hasDict] at h
theorem shownAll_wds : ∀ ds : List D, PyData.hasDictAll ds = false → ((PyData.shownAll ds).map (·.length)).sum + 2 * ds.length ≤ wds ds
  | [], _ => by simp [PyData.shownAll, wds]
  | d :: ds, h => by
    have h' : d.hasDict = false ∧ PyData.hasDictAll ds = false := by simpa [PyData.hasDictAll] using h
    have h1 := shown_wd d h'.1
    have h2 := shownAll_wds ds h'.2
    simp only [PyData.shownAll, wds, List.map_cons, List.sum_cons, List.length_cons]
    omega
end
/-- it may be shown: at most k deep, at most B signs -/
structure Sh (k B : Nat) (d : D) : Prop where
  sh : d.showable = true
  dp : d.depth ≤ k
  wd : wd d ≤ B
theorem Sh.mono {k k' B B' : Nat} {d : D} (h : Sh k B d) (h1 : k ≤ k') (h2 : B ≤ B') : Sh k' B' d := ⟨h.sh, Nat.le_trans h.dp h1, Nat.le_trans h.wd h2⟩
theorem sh_none : Sh 1 5 .none := ⟨by simp [PyData.showable], by simp [PyData.depth], by simp [G.wd]⟩
theorem sh_bool (b : Bool) : Sh 1 5 (.bool b) := ⟨by simp [PyData.showable], by simp [PyData.depth], by simp [G.wd]⟩
theorem log2_of {n : Nat} (h : n < 2 ^ 200) : n.log2 < 200 := PySem.Flt.log2_lt_of (by decide) h
theorem sh_int {i : Int} (h : i.natAbs < 2 ^ 200) : Sh 1 205 (.int i) := by
  have := log2_of h
  exact ⟨by simp [PyData.showable]; omega, by simp [PyData.depth], by simp [G.wd]; omega⟩
theorem sh_all {k B : Nat} : ∀ {ds : List D}, (∀ d ∈ ds, Sh k B d) → PyData.showableAll ds = true ∧ PyData.depthAll ds ≤ k ∧ wds ds ≤ (B + 2) * ds.length
  | [], _ => ⟨by simp [PyData.showableAll], by simp [PyData.depthAll], by simp [wds]⟩
  | d :: ds, h => by
    have h1 := h d List.mem_cons_self
    obtain ⟨a, b, c⟩ := sh_all fun x m => h x (List.mem_cons_of_mem _ m)
    refine ⟨by simp [PyData.showableAll, h1.sh, a], ?_, ?_⟩
    · have := h1.dp
      simp only [PyData.depthAll]
      omega
    · have := h1.wd
      simp only [wds, List.length_cons]
      rw [Nat.mul_add]
      omega
theorem sh_list {k B n : Nat} {ds : List D} (h : ∀ d ∈ ds, Sh k B d) (hn : ds.length ≤ n) : Sh (k + 1) ((B + 2) * n + 3) (.list ds) := by
  obtain ⟨a, b, c⟩ := sh_all h
  have := Nat.mul_le_mul_left (B + 2) hn
  exact ⟨by simpa [PyData.showable] using a, by simp only [PyData.depth]; omega, by simp only [G.wd]; omega⟩
theorem sh_tuple {k B n : Nat} {ds : List D} (h : ∀ d ∈ ds, Sh k B d) (hn : ds.length ≤ n) : Sh (k + 1) ((B + 2) * n + 3) (.tuple ds) := by
  obtain ⟨a, b, c⟩ := sh_all h
  have := Nat.mul_le_mul_left (B + 2) hn
  exact ⟨by simpa [PyData.showable] using a, by simp only [PyData.depth]; omega, by simp only [G.wd]; omega⟩
theorem tyL {K : PySem.W.Frag} {H : Hp} {p : Addr} {xs : List V} (h : H p = some (.lst xs)) : tyV K "list" (.ref p) H := Or.inl ⟨rfl, _, SqL.of h⟩
theorem inV_ints (t : Int) (ns : List Int) : inV (.int t) (ns.map V.int) = decide (t ∈ ns) := by
  unfold inV
  rw [List.any_map]
  induction ns with
  | nil => rfl
  | cons n ns ih =>
    rw [List.any_cons, ih]
    by_cases h : t = n
    · subst h
      simp [eqV]
    · have h2 : ¬ n = t := fun e => h e.symm
      simp [eqV, h, h2]
mutual
theorem nd_wd : ∀ d : D, wd d < 100000000 → d.hasDict = false
  | .none, _ => by simp [PyData.hasDict]
  | .bool _, _ => by simp [PyData.hasDict]
  | .int _, _ => by simp [PyData.hasDict]
  | .str _, _ => by simp [PyData.hasDict]
  | .list ds, h => by
    rw [PyData.hasDict]
    rw [wd] at h
    exact nd_wds ds (by omega)
  | .tuple ds, h => by
    rw [PyData.hasDict]
    rw [wd] at h
    exact nd_wds ds (by omega)
  | .dict _, h => by rw [wd] at h; omega
theorem nd_wds : ∀ ds : List D, wds ds < 100000000 → PyData.hasDictAll ds = false
  | [], _ => by simp [PyData.hasDictAll]
  | d :: ds, h => by
    rw [wds] at h
    rw [PyData.hasDictAll, nd_wd d (by omega), nd_wds ds (by omega)]
    rfl
end
end G
namespace G
open PySem PySem.Spec PyProof.Rows L2
def tyN : D → String
  | .none => "NoneType"
  | .bool _ => "bool"
  | .int _ => "int"
  | .str _ => "str"
  | .list _ => "list"
  | .tuple _ => "tuple"
  | .dict _ => "dict"
/-- an instance of a class -/
def isObj : D → Bool
  | .dict [(.tuple _, _)] => true
  | _ => false
theorem tyx {K : PySem.W.Frag} {H : Hp} {S : List Addr} {v : V} {d : D} (r : Rep H S v d) (ho : isObj d = false) : TyX K H v (.type (tyN d)) := by
  cases r with
  | non => exact .base .non
  | bl b => exact .base (.bl b)
  | int i => exact .base (.int i)
  | str x => exact .base (.str x)
  | lst e _ => exact .base (.lst e)
  | tup e _ => exact .base (.tup e)
  | box e _ => cases e with
    | ins _ _ => cases ho
    | dK e _ => exact .base (.dK e)
def isList : D → Bool
  | .list _ => true
  | _ => false
def isTuple : D → Bool
  | .tuple _ => true
  | _ => false
theorem kit_list {K : PySem.W.Frag} : ∀ {H : Hp} {S : List Addr} {v : V} {d : D}, Rep H S v d → PySem.W.kitOne K (.type (tyN d)) (.type "list") = some (isList d) := fun r => by
  cases r with
  | non => exact kit_ty (by decide +kernel)
  | bl b => exact kit_ty (show kitB "bool" "list" = some false by decide +kernel)
  | int i => exact kit_ty (show kitB "int" "list" = some false by decide +kernel)
  | str x => exact kit_ty (show kitB "str" "list" = some false by decide +kernel)
  | lst e _ => exact kit_ty (show kitB "list" "list" = some true by decide +kernel)
  | tup e _ => exact kit_ty (show kitB "tuple" "list" = some false by decide +kernel)
  | box e _ => exact kit_ty (show kitB "dict" "list" = some false by decide +kernel)
theorem kit_tuple {K : PySem.W.Frag} : ∀ {H : Hp} {S : List Addr} {v : V} {d : D}, Rep H S v d → PySem.W.kitOne K (.type (tyN d)) (.type "tuple") = some (isTuple d) := fun r => by
  cases r with
  | non => exact kit_ty (by decide +kernel)
  | bl b => exact kit_ty (show kitB "bool" "tuple" = some false by decide +kernel)
  | int i => exact kit_ty (show kitB "int" "tuple" = some false by decide +kernel)
  | str x => exact kit_ty (show kitB "str" "tuple" = some false by decide +kernel)
  | lst e _ => exact kit_ty (show kitB "list" "tuple" = some false by decide +kernel)
  | tup e _ => exact kit_ty (show kitB "tuple" "tuple" = some true by decide +kernel)
  | box e _ => exact kit_ty (show kitB "dict" "tuple" = some false by decide +kernel)
/-- one of two rules -/
theorem pi_or {X : Cx} {tg l : Expr} {w1 w2 : TI} (h1 : PI X tg l w1) (h2 : PI X tg l w2) : PI X tg l (fun σ H R => w1 σ H R ∨ w2 σ H R) :=
  ⟨fun pins s σ H R I h => h.elim (h1.run pins s σ H R I) (h2.run pins s σ H R I)⟩
theorem depth_mem : ∀ {ds : List D} {d : D}, d ∈ ds → d.depth ≤ PyData.depthAll ds
  | x :: ds, d, h => by
    simp only [PyData.depthAll]
    rcases List.mem_cons.mp h with rfl | h
    · omega
    · have := depth_mem h
      omega
theorem wd_mem : ∀ {ds : List D} {d : D}, d ∈ ds → wd d + 2 ≤ wds ds
  | x :: ds, d, h => by
    simp only [wds]
    rcases List.mem_cons.mp h with rfl | h
    · omega
    · have := wd_mem h
      omega
theorem wds_len : ∀ ds : List D, 2 * ds.length ≤ wds ds
  | [] => Nat.zero_le _
  | d :: ds => by
    have := wds_len ds
    simp only [wds, List.length_cons]
    omega
/-- all that is owned is frozen -/
theorem St.frz {H0 H : Hp} {M : Option Addr} {pu : Option (Addr × Int)} {Tp : List (Addr × List V)} : ∀ {Ow Fz : List (V × D)}, St H0 M pu Fz Ow Tp H → St H0 M pu (Ow ++ Fz) [] Tp H
  | [], _, h => h
  | (_, _) :: _, _, h => (St.frz h.freeze).fzs fun x hx => by
    rcases List.mem_append.mp hx with hx | hx
    · rcases List.mem_cons.mp hx with rfl | hx
      · exact List.mem_append_right _ List.mem_cons_self
      · exact List.mem_append_left _ hx
    · exact List.mem_append_right _ (List.mem_cons_of_mem _ hx)
end G
namespace G
open PySem PySem.Spec PyProof.Rows L2
theorem Rep.same {H H1 : Hp} {S : List Addr} {v : V} {d : D} (r : Rep H S v d) (sm : Same H H1) : Rep H1 S v d := Rep.mono (fun t vs e => sm _ _ e) _ _ _ r fun a m o e => sm a o e
theorem kit_seq {K : PySem.W.Frag} {H : Hp} {S : List Addr} {v : V} {d : D} (r : Rep H S v d) : PySem.W.kitAny K (.type (tyN d)) [.type "list", .type "tuple"] = some (isList d || isTuple d) := by
  refine kitAny_cons (kit_list r) (fun e => ?_) (fun e => by rw [e]; rfl)
  rw [e, Bool.false_or]
  refine kitAny_cons (kit_tuple r) (fun e => ?_) (fun e => e)
  rw [e]
  exact kitAny_nil
mutual
def spD : D → Int → D × Int
  | .list ds, k => (.list ((spDs ds k).1 ++ [.int (-((spDs ds k).2 + 1))]), (spDs ds k).2 + 1)
  | .tuple ds, k => (.tuple (spDs ds k).1, (spDs ds k).2)
  | .none, k => (.none, k)
  | .bool b, k => (.bool b, k)
  | .int i, k => (.int i, k)
  | .str x, k => (.str x, k)
  | .dict x, k => (.dict x, k)
def spDs : List D → Int → List D × Int
  | [], k => ([], k)
  | d :: ds, k => ((spD d k).1 :: (spDs ds (spD d k).2).1, (spDs ds (spD d k).2).2)
end
theorem spDs_snoc : ∀ (ds : List D) (d : D) (k : Int), spDs (ds ++ [d]) k = ((spDs ds k).1 ++ [(spD d (spDs ds k).2).1], (spD d (spDs ds k).2).2)
  | [], d, k => by simp [spDs]
  | x :: ds, d, k => by
    rw [List.cons_append, spDs, spDs_snoc ds d]
    simp [spDs]
mutual
/-- how many lists -/
def nl : D → Nat
  | .list ds => nls ds + 1
  | .tuple ds => nls ds
  | _ => 0
def nls : List D → Nat
  | [] => 0
  | d :: ds => nl d + nls ds
end
theorem depthAll_app : ∀ (ds es : List D), PyData.depthAll (ds ++ es) = max (PyData.depthAll ds) (PyData.depthAll es)
  | [], es => by simp [PyData.depthAll]
  | d :: ds, es => by simp only [List.cons_append, PyData.depthAll, depthAll_app ds es]; omega
theorem wds_app : ∀ (ds es : List D), wds (ds ++ es) = wds ds + wds es
  | [], es => by simp [wds]
  | d :: ds, es => by simp only [List.cons_append, wds, wds_app ds es]; omega
theorem showableAll_app : ∀ (ds es : List D), PyData.showableAll (ds ++ es) = (PyData.showableAll ds && PyData.showableAll es)
  | [], es => by simp [PyData.showableAll]
  | d :: ds, es => by simp [PyData.showableAll, showableAll_app ds es, Bool.and_assoc]
theorem int_wd {i : Int} (h : i.natAbs < 2 ^ 20) : wd (.int i) ≤ 22 := by
  have : i.natAbs.log2 < 20 := PySem.Flt.log2_lt_of (by decide) h
  simp only [G.wd]
  omega
mutual
theorem sp_sh : ∀ (d : D) (k : Int), d.showable = true → 0 ≤ k → k + nl d < 2 ^ 20 → (spD d k).1.showable = true ∧ (spD d k).1.depth = d.depth ∧ wd (spD d k).1 ≤ wd d + 25 * nl d ∧ k ≤ (spD d k).2 ∧ (spD d k).2 = k + nl d
  | .list ds, k, h, h0, h1 => by
    simp only [nl] at h1
    obtain ⟨a1, a2, a3, a4, a5⟩ := sps_sh ds k (by simpa [PyData.showable] using h) h0 (by omega)
    have si := sh_int (i := -((spDs ds k).2 + 1)) (by omega)
    have w := int_wd (i := -((spDs ds k).2 + 1)) (by omega)
    have dd := si.sh
    have d0 : (PyData.int (-((spDs ds k).2 + 1))).depth = 0 := by simp [PyData.depth]
    refine ⟨?_, ?_, ?_, ?_, ?_⟩
    · simp only [spD, PyData.showable]
      rw [showableAll_app, a1]
      simp only [PyData.showableAll, dd, Bool.and_true, Bool.true_and]
    · simp only [spD, PyData.depth]
      rw [depthAll_app, a2]
      simp only [PyData.depthAll, d0]
      omega
    · simp only [spD, G.wd, nl] at w ⊢
      rw [wds_app]
      simp only [wds, G.wd]
      omega
    · simp only [spD]
      omega
    · simp only [spD, nl]
      omega
  | .tuple ds, k, h, h0, h1 => by
    simp only [nl] at h1
    obtain ⟨a1, a2, a3, a4, a5⟩ := sps_sh ds k (by simpa [PyData.showable] using h) h0 (by omega)
    refine ⟨by simpa only [spD, PyData.showable] using a1, ?_, ?_, by simpa only [spD] using a4, by simpa only [spD, nl] using a5⟩
    · simp only [spD, PyData.depth]
      omega
    · simp only [spD, G.wd, nl]
      omega
  | .none, k, h, h0, h1 => by simp [spD, nl, h]
  | .bool _, k, h, h0, h1 => by simp [spD, nl, h]
  | .int _, k, h, h0, h1 => by simp only [spD, nl]; exact ⟨h, trivial, by omega, by omega, by omega⟩
  | .str _, k, h, h0, h1 => by simp only [spD, nl]; exact ⟨h, trivial, by omega, by omega, by omega⟩
  | .dict _, k, h, h0, h1 => by simp only [spD, nl]; exact ⟨h, trivial, by omega, by omega, by omega⟩
theorem sps_sh : ∀ (ds : List D) (k : Int), PyData.showableAll ds = true → 0 ≤ k → k + nls ds < 2 ^ 20 → PyData.showableAll (spDs ds k).1 = true ∧ PyData.depthAll (spDs ds k).1 = PyData.depthAll ds ∧ wds (spDs ds k).1 ≤ wds ds + 25 * nls ds ∧ k ≤ (spDs ds k).2 ∧ (spDs ds k).2 = k + nls ds
  | [], k, h, h0, h1 => by simp [spDs, nls, h]
  | d :: ds, k, h, h0, h1 => by
    simp only [nls] at h1
    simp only [PyData.showableAll, Bool.and_eq_true] at h
    obtain ⟨a1, a2, a3, a4, a5⟩ := sp_sh d k h.1 h0 (by omega)
    obtain ⟨b1, b2, b3, b4, b5⟩ := sps_sh ds (spD d k).2 h.2 (by omega) (by omega)
    refine ⟨by simp only [spDs, PyData.showableAll, a1, b1, Bool.and_self], ?_, ?_, ?_, ?_⟩
    · simp only [spDs, PyData.depthAll, a2, b2]
    · simp only [spDs, wds, nls]
      omega
    · simp only [spDs]
      omega
    · simp only [spDs, nls]
      omega
end
theorem sp_Sh {k B : Nat} {d : D} (h : Sh k B d) (hn : nl d ≤ 100000) : Sh k (B + 25 * nl d) (spD d 0).1 := by
  obtain ⟨a1, a2, a3, _, _⟩ := sp_sh d 0 h.sh (Int.le_refl _) (by omega)
  have := h.dp
  have := h.wd
  exact ⟨a1, by omega, by omega⟩
/-- what spoils a tree: the tree is changed in place, and a count -/
def spSpoil (n : Nat) : Sp := fun vs H Q _ => ∃ (v : V) (l : Addr) (d : D) (k : Int) (S : List Addr), vs = [v, .ref l] ∧ Rep H S v d ∧ S.Nodup ∧ l ∉ S ∧ H l = some (.lst [.int k]) ∧ d.depth < n ∧ wd d ≤ 10000000 ∧
  ∀ H', (∀ a o, H a = some o → a ∉ S → a ≠ l → H' a = some o) → Rep H' S v (spD d k).1 → H' l = some (.lst [.int (spD d k).2]) → Q .non H'
/-- the items up to i are spoiled -/
def SpI (H : Hp) (l : Addr) (k : Int) (S : List Addr) (vs : List V) (ds : List D) (i : Nat) (H1 : Hp) : Prop :=
  ∃ S1 S2, S = S1 ++ S2 ∧ Reps H1 S1 (vs.take i) (spDs (ds.take i) k).1 ∧ Reps H1 S2 (vs.drop i) (ds.drop i) ∧ H1 l = some (.lst [.int (spDs (ds.take i) k).2]) ∧ ∀ b o, H b = some o → b ∉ S → b ≠ l → H1 b = some o
theorem SpI.zero {H H1 : Hp} {l : Addr} {k : Int} {S : List Addr} {vs : List V} {ds : List D} (r : Reps H1 S vs ds) (hl : H1 l = some (.lst [.int k])) (fr : ∀ b o, H b = some o → b ∉ S → b ≠ l → H1 b = some o) : SpI H l k S vs ds 0 H1 :=
  ⟨[], S, rfl, .nil, r, hl, fr⟩
theorem SpI.fin {H H1 : Hp} {l : Addr} {k : Int} {S : List Addr} {vs : List V} {ds : List D} (h : SpI H l k S vs ds vs.length H1) (e : vs.length = ds.length) : Reps H1 S vs (spDs ds k).1 ∧ H1 l = some (.lst [.int (spDs ds k).2]) ∧ ∀ b o, H b = some o → b ∉ S → b ≠ l → H1 b = some o := by
  obtain ⟨S1, S2, rfl, h1, h2, h3, h4⟩ := h
  rw [List.take_length, e, List.take_length] at h1
  rw [e, List.take_length] at h3
  rw [List.drop_length, e, List.drop_length] at h2
  cases h2
  rw [List.append_nil] at h4 ⊢
  exact ⟨h1, h3, h4⟩
theorem SpI.step {H H1 : Hp} {l : Addr} {k : Int} {S : List Addr} {vs : List V} {ds : List D} {i : Nat} {x : V} {di : D} (nd : S.Nodup) (nl : l ∉ S) (h : SpI H l k S vs ds i H1) (hx : vs[i]? = some x) (hd : ds[i]? = some di) :
    ∃ Sx, Rep H1 Sx x di ∧ Sx.Nodup ∧ l ∉ Sx ∧ H1 l = some (.lst [.int (spDs (ds.take i) k).2]) ∧ ∀ H2, (∀ b o, H1 b = some o → b ∉ Sx → b ≠ l → H2 b = some o) → Rep H2 Sx x (spD di (spDs (ds.take i) k).2).1 → H2 l = some (.lst [.int (spD di (spDs (ds.take i) k).2).2]) → SpI H l k S vs ds (i + 1) H2 := by
  obtain ⟨S1, S2, rfl, h1, h2, h3, h4⟩ := h
  have hi := (List.getElem?_eq_some_iff.mp hx).1
  have ex := (List.getElem?_eq_some_iff.mp hx).2
  have hj := (List.getElem?_eq_some_iff.mp hd).1
  have ed := (List.getElem?_eq_some_iff.mp hd).2
  rw [List.drop_eq_getElem_cons hi, List.drop_eq_getElem_cons hj, ex, ed] at h2
  cases h2 with
  | @cons Sx S3 _ _ _ _ r1 r2 =>
    have n1 := List.nodup_append.mp nd
    have n2 := List.nodup_append.mp n1.2.1
    refine ⟨Sx, r1, n2.1, fun m => nl (List.mem_append_right _ (List.mem_append_left _ m)), h3, fun H2 fr rx hl2 => ?_⟩
    have nt : ∀ t xs, H1 t = some (.tup xs) → H2 t = some (.tup xs) := fun t xs e => fr t _ e (fun m => by
      obtain ⟨ys, e2, e3⟩ := Rep.domN _ _ _ r1 t m
      rw [e] at e2
      cases e2
      exact e3) (fun z => by
      rw [z, h3] at e
      cases e)
    refine ⟨S1 ++ Sx, S3, by rw [List.append_assoc], ?_, ?_, ?_, fun b o e m1 m2 => fr b o (h4 b o e m1 m2) (fun m => m1 (List.mem_append_right _ (List.mem_append_left _ m))) m2⟩
    · have q := Reps.append (Reps.mono nt _ _ _ h1 fun a m o e => fr a o e (fun m2 => n1.2.2 a m a (List.mem_append_left _ m2) rfl) (fun z => nl (z ▸ List.mem_append_left _ m))) (Reps.cons rx .nil)
      rw [List.append_nil] at q
      have e1 : vs.take (i + 1) = vs.take i ++ [x] := by rw [List.take_add_one, hx]; rfl
      have e2 : ds.take (i + 1) = ds.take i ++ [di] := by rw [List.take_add_one, hd]; rfl
      rw [e1, e2, spDs_snoc]
      exact q
    · exact Reps.mono nt _ _ _ r2 fun a m o e => fr a o e (fun m2 => n2.2.2 a m2 a m rfl) (fun z => nl (z ▸ List.mem_append_right _ (List.mem_append_right _ m)))
    · have e2 : ds.take (i + 1) = ds.take i ++ [di] := by rw [List.take_add_one, hd]; rfl
      rw [e2, spDs_snoc]
      exact hl2
theorem Rdb.up {Fz Ow : List (V × D)} {Tp : List (Addr × List V)} {v : V} {d : D} (x : V × D) (r : Rdb Fz Ow Tp v d) : Rdb Fz (x :: Ow) Tp v d := by
  induction r with
  | non => exact .non
  | bl b => exact .bl b
  | int i => exact .int i
  | str x => exact .str x
  | fz m => exact .fz m
  | ow m => exact .ow (List.mem_cons_of_mem _ m)
  | tp0 m => exact .tp0 m
  | tp1 m _ h1 => exact .tp1 m h1
  | tp2 m _ _ h1 h2 => exact .tp2 m h1 h2
  | tp3 m _ _ _ h1 h2 h3 => exact .tp3 m h1 h2 h3
theorem Rdb.mono {Fz Fz' Ow Ow' : List (V × D)} {Tp Tp' : List (Addr × List V)} {v : V} {d : D} (hF : ∀ x ∈ Fz, x ∈ Fz') (hO : ∀ x ∈ Ow, x ∈ Ow') (hT : ∀ x ∈ Tp, x ∈ Tp') (r : Rdb Fz Ow Tp v d) : Rdb Fz' Ow' Tp' v d := by
  induction r with
  | non => exact .non
  | bl b => exact .bl b
  | int i => exact .int i
  | str x => exact .str x
  | fz m => exact .fz (hF _ m)
  | ow m => exact .ow (hO _ m)
  | tp0 m => exact .tp0 (hT _ m)
  | tp1 m _ h1 => exact .tp1 (hT _ m) h1
  | tp2 m _ _ h1 h2 => exact .tp2 (hT _ m) h1 h2
  | tp3 m _ _ _ h1 h2 h3 => exact .tp3 (hT _ m) h1 h2 h3
theorem Rdb.upT {Fz Ow : List (V × D)} {Tp : List (Addr × List V)} {v : V} {d : D} {x : Addr × List V} (r : Rdb Fz Ow Tp v d) : Rdb Fz Ow (x :: Tp) v d := r.mono (fun _ h => h) (fun _ h => h) fun _ h => List.mem_cons_of_mem _ h
theorem Rdb.upF {Fz Ow : List (V × D)} {Tp : List (Addr × List V)} {v : V} {d : D} {x : V × D} (r : Rdb Fz Ow Tp v d) : Rdb (x :: Fz) Ow Tp v d := r.mono (fun _ h => List.mem_cons_of_mem _ h) (fun _ h => h) fun _ h => h
theorem Rdb.upO {Fz Ow : List (V × D)} {Tp : List (Addr × List V)} {v : V} {d : D} {x : V × D} (r : Rdb Fz Ow Tp v d) : Rdb Fz (x :: Ow) Tp v d := r.up x
end G
namespace G
open PySem PySem.Spec PyProof.Rows L2
abbrev Reg := Addr → Prop
abbrev noReg : Reg := fun _ => False
mutual
inductive Tr (H : Hp) (Z : Reg) : List Addr → V → D → Prop
  | non : Tr H Z [] .non .none
  | bl (b : Bool) : Tr H Z [] (.bl b) (.bool b)
  | int (i : Int) : Tr H Z [] (.int i) (.int i)
  | str (x : Str) : Tr H Z [] (.str x) (.str x)
  | lst {a : Addr} {vs : List V} {S : List Addr} {ds : List D} : H a = some (.lst vs) → Trs H Z S vs ds → Tr H Z (a :: S) (.ref a) (.list ds)
  | lstZ {a : Addr} {vs : List V} {ds : List D} : Z a → H a = some (.lst vs) → Trs H Z [] vs ds → Tr H Z [] (.ref a) (.list ds)
  | tup {a : Addr} {vs : List V} {S : List Addr} {ds : List D} : H a = some (.tup vs) → Trs H Z S vs ds → Tr H Z S (.ref a) (.tuple ds)
  | box {a : Addr} {t : D} {vs : List V} {S : List Addr} {ds : List D} : Bx H a t vs → Trs H Z S vs ds → Tr H Z (a :: S) (.ref a) (.dict [(t, .list ds)])
  | boxZ {a : Addr} {t : D} {vs : List V} {ds : List D} : Z a → Bx H a t vs → Trs H Z [] vs ds → Tr H Z [] (.ref a) (.dict [(t, .list ds)])
inductive Trs (H : Hp) (Z : Reg) : List Addr → List V → List D → Prop
  | nil : Trs H Z [] [] []
  | cons {S T : List Addr} {v : V} {vs : List V} {d : D} {ds : List D} : Tr H Z S v d → Trs H Z T vs ds → Trs H Z (S ++ T) (v :: vs) (d :: ds)
end
section
variable {H H' : Hp} {Z Z' : Reg}
mutual
theorem Tr.mono (ht : ∀ t vs, H t = some (.tup vs) → H' t = some (.tup vs)) (hz : ∀ a, Z a → Z' a) (kz : ∀ a, Z a → ∀ o, H a = some o → H' a = some o) : ∀ (d : D) (S : List Addr) (v : V), Tr H Z S v d → (∀ a ∈ S, ∀ o, H a = some o → H' a = some o) → Tr H' Z' S v d
  | .none, _, _, h, _ => by cases h; exact .non
  | .bool b, _, _, h, _ => by cases h; exact .bl b
  | .int i, _, _, h, _ => by cases h; exact .int i
  | .str x, _, _, h, _ => by cases h; exact .str x
  | .list ds, _, _, h, k => by
    cases h with
    | lst h1 h2 => exact .lst (k _ List.mem_cons_self _ h1) (Trs.mono ht hz kz ds _ _ h2 fun a ha => k a (List.mem_cons_of_mem _ ha))
    | lstZ h0 h1 h2 => exact .lstZ (hz _ h0) (kz _ h0 _ h1) (Trs.mono ht hz kz ds _ _ h2 fun a ha => nomatch ha)
  | .tuple ds, _, _, h, k => by
    cases h with
    | tup h1 h2 => exact .tup (ht _ _ h1) (Trs.mono ht hz kz ds _ _ h2 k)
  | .dict _, _, _, h, k => by
    cases h with
    | box h1 h2 => exact .box (h1.mono (k _ List.mem_cons_self)) (Trs.mono ht hz kz _ _ _ h2 fun a ha => k a (List.mem_cons_of_mem _ ha))
    | boxZ h0 h1 h2 => exact .boxZ (hz _ h0) (h1.mono (kz _ h0)) (Trs.mono ht hz kz _ _ _ h2 fun a ha => nomatch ha)
theorem Trs.mono (ht : ∀ t vs, H t = some (.tup vs) → H' t = some (.tup vs)) (hz : ∀ a, Z a → Z' a) (kz : ∀ a, Z a → ∀ o, H a = some o → H' a = some o) : ∀ (ds : List D) (S : List Addr) (vs : List V), Trs H Z S vs ds → (∀ a ∈ S, ∀ o, H a = some o → H' a = some o) → Trs H' Z' S vs ds
  | [], _, _, h, _ => by cases h; exact .nil
  | d :: ds, _, _, h, k => by
    cases h with
    | cons h1 h2 => exact .cons (Tr.mono ht hz kz d _ _ h1 fun a ha => k a (List.mem_append_left _ ha)) (Trs.mono ht hz kz ds _ _ h2 fun a ha => k a (List.mem_append_right _ ha))
end
mutual
/-- all is in a greater region -/
theorem Tr.freeze (hz : ∀ a, Z a → Z' a) : ∀ (d : D) (S : List Addr) (v : V), Tr H Z S v d → (∀ a ∈ S, Z' a) → Tr H Z' [] v d
  | .none, _, _, h, _ => by cases h; exact .non
  | .bool b, _, _, h, _ => by cases h; exact .bl b
  | .int i, _, _, h, _ => by cases h; exact .int i
  | .str x, _, _, h, _ => by cases h; exact .str x
  | .list ds, _, _, h, k => by
    cases h with
    | lst h1 h2 => exact .lstZ (k _ List.mem_cons_self) h1 (Trs.freeze hz ds _ _ h2 fun a ha => k a (List.mem_cons_of_mem _ ha))
    | lstZ h0 h1 h2 => exact .lstZ (hz _ h0) h1 (Trs.freeze hz ds _ _ h2 fun a ha => nomatch ha)
  | .tuple ds, _, _, h, k => by
    cases h with
    | tup h1 h2 => exact .tup h1 (Trs.freeze hz ds _ _ h2 k)
  | .dict _, _, _, h, k => by
    cases h with
    | box h1 h2 => exact .boxZ (k _ List.mem_cons_self) h1 (Trs.freeze hz _ _ _ h2 fun a ha => k a (List.mem_cons_of_mem _ ha))
    | boxZ h0 h1 h2 => exact .boxZ (hz _ h0) h1 (Trs.freeze hz _ _ _ h2 fun a ha => nomatch ha)
theorem Trs.freeze (hz : ∀ a, Z a → Z' a) : ∀ (ds : List D) (S : List Addr) (vs : List V), Trs H Z S vs ds → (∀ a ∈ S, Z' a) → Trs H Z' [] vs ds
  | [], _, _, h, _ => by cases h; exact .nil
  | d :: ds, _, _, h, k => by
    cases h with
    | cons h1 h2 => exact .cons (S := []) (Tr.freeze hz d _ _ h1 fun a ha => k a (List.mem_append_left _ ha)) (Trs.freeze hz ds _ _ h2 fun a ha => k a (List.mem_append_right _ ha))
end
mutual
/-- read as a tree -/
theorem Tr.rep : ∀ (d : D) (S : List Addr) (v : V), Tr H Z S v d → ∃ T, Rep H T v d ∧ ∀ a ∈ T, a ∈ S ∨ Z a
  | .none, _, _, h => by cases h; exact ⟨_, .non, fun _ z => nomatch z⟩
  | .bool b, _, _, h => by cases h; exact ⟨_, .bl b, fun _ z => nomatch z⟩
  | .int i, _, _, h => by cases h; exact ⟨_, .int i, fun _ z => nomatch z⟩
  | .str x, _, _, h => by cases h; exact ⟨_, .str x, fun _ z => nomatch z⟩
  | .list ds, _, _, h => by
    cases h with
    | lst h1 h2 =>
      obtain ⟨T, r, k⟩ := Trs.rep ds _ _ h2
      refine ⟨_, .lst h1 r, fun a m => ?_⟩
      rcases List.mem_cons.mp m with rfl | m
      · exact .inl List.mem_cons_self
      · exact (k a m).imp (List.mem_cons_of_mem _) id
    | lstZ h0 h1 h2 =>
      obtain ⟨T, r, k⟩ := Trs.rep ds _ _ h2
      refine ⟨_, .lst h1 r, fun a m => ?_⟩
      rcases List.mem_cons.mp m with rfl | m
      · exact .inr h0
      · exact k a m
  | .tuple ds, _, _, h => by
    cases h with
    | tup h1 h2 =>
      obtain ⟨T, r, k⟩ := Trs.rep ds _ _ h2
      exact ⟨_, .tup h1 r, k⟩
  | .dict _, _, _, h => by
    cases h with
    | box h1 h2 =>
      obtain ⟨T, r, k⟩ := Trs.rep _ _ _ h2
      refine ⟨_, .box h1 r, fun a m => ?_⟩
      rcases List.mem_cons.mp m with rfl | m
      · exact .inl List.mem_cons_self
      · exact (k a m).imp (List.mem_cons_of_mem _) id
    | boxZ h0 h1 h2 =>
      obtain ⟨T, r, k⟩ := Trs.rep _ _ _ h2
      refine ⟨_, .box h1 r, fun a m => ?_⟩
      rcases List.mem_cons.mp m with rfl | m
      · exact .inr h0
      · exact k a m
theorem Trs.rep : ∀ (ds : List D) (S : List Addr) (vs : List V), Trs H Z S vs ds → ∃ T, Reps H T vs ds ∧ ∀ a ∈ T, a ∈ S ∨ Z a
  | [], _, _, h => by cases h; exact ⟨_, .nil, fun _ z => nomatch z⟩
  | d :: ds, _, _, h => by
    cases h with
    | cons h1 h2 =>
      obtain ⟨T1, r1, k1⟩ := Tr.rep d _ _ h1
      obtain ⟨T2, r2, k2⟩ := Trs.rep ds _ _ h2
      refine ⟨_, .cons r1 r2, fun a m => ?_⟩
      rcases List.mem_append.mp m with m | m
      · exact (k1 a m).imp (List.mem_append_left _) id
      · exact (k2 a m).imp (List.mem_append_right _) id
end
mutual
/-- a tree that is owned as a whole -/
theorem Tr.repO : ∀ (d : D) (S : List Addr) (v : V), Tr H noReg S v d → Rep H S v d
  | .none, _, _, h => by cases h; exact .non
  | .bool b, _, _, h => by cases h; exact .bl b
  | .int i, _, _, h => by cases h; exact .int i
  | .str x, _, _, h => by cases h; exact .str x
  | .list ds, _, _, h => by
    cases h with
    | lst h1 h2 => exact .lst h1 (Trs.repO ds _ _ h2)
    | lstZ h0 h1 h2 => exact h0.elim
  | .tuple ds, _, _, h => by
    cases h with
    | tup h1 h2 => exact .tup h1 (Trs.repO ds _ _ h2)
  | .dict _, _, _, h => by
    cases h with
    | box h1 h2 => exact .box h1 (Trs.repO _ _ _ h2)
    | boxZ h0 h1 h2 => exact h0.elim
theorem Trs.repO : ∀ (ds : List D) (S : List Addr) (vs : List V), Trs H noReg S vs ds → Reps H S vs ds
  | [], _, _, h => by cases h; exact .nil
  | d :: ds, _, _, h => by
    cases h with
    | cons h1 h2 => exact .cons (Tr.repO d _ _ h1) (Trs.repO ds _ _ h2)
end
mutual
theorem Rep.tr : ∀ (d : D) (S : List Addr) (v : V), Rep H S v d → Tr H Z S v d
  | .none, _, _, h => by cases h; exact .non
  | .bool b, _, _, h => by cases h; exact .bl b
  | .int i, _, _, h => by cases h; exact .int i
  | .str x, _, _, h => by cases h; exact .str x
  | .list ds, _, _, h => by
    cases h with
    | lst h1 h2 => exact .lst h1 (Reps.tr ds _ _ h2)
  | .tuple ds, _, _, h => by
    cases h with
    | tup h1 h2 => exact .tup h1 (Reps.tr ds _ _ h2)
  | .dict _, _, _, h => by
    cases h with
    | box h1 h2 => exact .box h1 (Reps.tr _ _ _ h2)
theorem Reps.tr : ∀ (ds : List D) (S : List Addr) (vs : List V), Reps H S vs ds → Trs H Z S vs ds
  | [], _, _, h => by cases h; exact .nil
  | d :: ds, _, _, h => by
    cases h with
    | cons h1 h2 => exact .cons (Rep.tr d _ _ h1) (Reps.tr ds _ _ h2)
end
mutual
theorem Tr.domN : ∀ (d : D) (S : List Addr) (v : V), Tr H Z S v d → ∀ a ∈ S, ∃ o, H a = some o ∧ NT o
  | .none, _, _, h => by cases h; intro a z; cases z
  | .bool b, _, _, h => by cases h; intro a z; cases z
  | .int i, _, _, h => by cases h; intro a z; cases z
  | .str x, _, _, h => by cases h; intro a z; cases z
  | .list ds, _, _, h => by
    cases h with
    | lst h1 h2 =>
      intro a z
      rcases List.mem_cons.mp z with rfl | z
      · exact ⟨_, h1, True.intro⟩
      · exact Trs.domN ds _ _ h2 a z
    | lstZ _ _ _ => intro a z; cases z
  | .tuple ds, _, _, h => by
    cases h with
    | tup h1 h2 => exact Trs.domN ds _ _ h2
  | .dict _, _, _, h => by
    cases h with
    | box h1 h2 =>
      intro a z
      rcases List.mem_cons.mp z with rfl | z
      · exact h1.dom
      · exact Trs.domN _ _ _ h2 a z
    | boxZ _ _ _ => intro a z; cases z
theorem Trs.domN : ∀ (ds : List D) (S : List Addr) (vs : List V), Trs H Z S vs ds → ∀ a ∈ S, ∃ o, H a = some o ∧ NT o
  | [], _, _, h => by cases h; intro a z; cases z
  | d :: ds, _, _, h => by
    cases h with
    | cons h1 h2 =>
      intro a z
      rcases List.mem_append.mp z with z | z
      · exact Tr.domN d _ _ h1 a z
      · exact Trs.domN ds _ _ h2 a z
end
theorem Tr.dom (d : D) (S : List Addr) (v : V) (h : Tr H Z S v d) : ∀ a ∈ S, ∃ o, H a = some o := fun a m => let ⟨o, e, _⟩ := Tr.domN d S v h a m; ⟨o, e⟩
theorem Trs.dom (ds : List D) (S : List Addr) (vs : List V) (h : Trs H Z S vs ds) : ∀ a ∈ S, ∃ o, H a = some o := fun a m => let ⟨o, e, _⟩ := Trs.domN ds S vs h a m; ⟨o, e⟩
mutual
theorem Tr.nolist : ∀ (d : D) (S : List Addr) (v : V), Tr H Z S v d → G.nolist d = true → S = [] ∧ Tr H Z' [] v d
  | .none, _, _, h, _ => by cases h; exact ⟨rfl, .non⟩
  | .bool b, _, _, h, _ => by cases h; exact ⟨rfl, .bl b⟩
  | .int i, _, _, h, _ => by cases h; exact ⟨rfl, .int i⟩
  | .str x, _, _, h, _ => by cases h; exact ⟨rfl, .str x⟩
  | .list ds, _, _, _, e => by simp [G.nolist] at e
  | .tuple ds, _, _, h, e => by
    cases h with
    | tup h1 h2 =>
      have := Trs.nolist ds _ _ h2 (by simpa [G.nolist] using e)
      exact ⟨this.1, .tup h1 this.2⟩
  | .dict _, _, _, _, e => by simp [G.nolist] at e
theorem Trs.nolist : ∀ (ds : List D) (S : List Addr) (vs : List V), Trs H Z S vs ds → nolists ds = true → S = [] ∧ Trs H Z' [] vs ds
  | [], _, _, h, _ => by cases h; exact ⟨rfl, .nil⟩
  | d :: ds, _, _, h, e => by
    cases h with
    | cons h1 h2 =>
      rw [nolists, Bool.and_eq_true] at e
      have a := Tr.nolist d _ _ h1 e.1
      have b := Trs.nolist ds _ _ h2 e.2
      obtain ⟨rfl, a⟩ := a
      obtain ⟨rfl, b⟩ := b
      exact ⟨rfl, .cons (S := []) a b⟩
end
theorem Trs.length : ∀ {ds : List D} {S : List Addr} {vs : List V}, Trs H Z S vs ds → vs.length = ds.length
  | [], _, _, h => by cases h; rfl
  | d :: ds, _, _, h => by
    cases h with
    | cons h1 h2 => simp [Trs.length h2]
theorem Trs.append : ∀ {ds es : List D} {S T : List Addr} {vs us : List V}, Trs H Z S vs ds → Trs H Z T us es → Trs H Z (S ++ T) (vs ++ us) (ds ++ es)
  | [], _, _, _, _, _, h, k => by cases h; exact k
  | d :: ds, _, _, _, _, _, h, k => by
    cases h with
    | cons h1 h2 =>
      have q := Trs.cons h1 (Trs.append h2 k)
      rw [← List.append_assoc] at q
      exact q
/-- one item, and the others -/
theorem Trs.at : ∀ {ds : List D} {S : List Addr} {vs : List V} {i : Nat} {d : D}, Trs H Z S vs ds → ds[i]? = some d → ∃ v T R, vs[i]? = some v ∧ Tr H Z T v d ∧ S.Perm (T ++ R) ∧ (∃ R', Trs H Z R' (vs.eraseIdx i) (ds.eraseIdx i) ∧ R'.Perm R) ∧
    ∀ (H' : Hp) T' v' d', (∀ t vs, H t = some (.tup vs) → H' t = some (.tup vs)) → (∀ a, Z a → ∀ o, H a = some o → H' a = some o) → (∀ a ∈ R, ∀ o, H a = some o → H' a = some o) → Tr H' Z T' v' d' → ∃ S', Trs H' Z S' (vs.set i v') (ds.set i d') ∧ S'.Perm (T' ++ R)
  | [], _, _, _, _, _, e => by simp at e
  | d :: ds, _, _, 0, _, h, e => by
    cases h with
    | @cons S T _ _ _ _ h1 h2 =>
      simp at e
      subst e
      refine ⟨_, _, _, rfl, h1, .refl _, ⟨_, h2, .refl _⟩, fun H' T' v' d' ht kz kr t => ⟨_, .cons t (Trs.mono ht (fun _ z => z) kz _ _ _ h2 kr), .refl _⟩⟩
  | d :: ds, _, _, i + 1, _, h, e => by
    cases h with
    | @cons S T _ _ _ _ h1 h2 =>
      obtain ⟨v, T1, R, e1, t, pm, ⟨R', q1, q2⟩, k⟩ := Trs.at (i := i) h2 (by simpa using e)
      have pm2 : (S ++ T).Perm (T1 ++ (S ++ R)) := by
        refine (List.Perm.append_left S pm).trans ?_
        rw [← List.append_assoc, ← List.append_assoc]
        exact List.Perm.append_right R List.perm_append_comm
      refine ⟨v, T1, S ++ R, by simpa using e1, t, pm2, ⟨_, .cons h1 q1, List.Perm.append_left _ q2⟩, fun H' T' v' d' ht kz kr t' => ?_⟩
      obtain ⟨S', q, p'⟩ := k H' T' v' d' ht kz (fun a m => kr a (List.mem_append_right _ m)) t'
      refine ⟨_, .cons (Tr.mono ht (fun _ z => z) kz _ _ _ h1 fun a m => kr a (List.mem_append_left _ m)) q, ?_⟩
      refine (List.Perm.append_left S p').trans ?_
      rw [← List.append_assoc, ← List.append_assoc]
      exact List.Perm.append_right R List.perm_append_comm
theorem Trs.get {ds : List D} {S : List Addr} {vs : List V} {i : Nat} {d : D} {v : V} (h : Trs H Z S vs ds) (e : ds[i]? = some d) (ev : vs[i]? = some v) : ∃ T R, Tr H Z T v d ∧ S.Perm (T ++ R) := by
  obtain ⟨v', T, R, e1, t, pm, _⟩ := h.at e
  rw [ev] at e1
  cases e1
  exact ⟨T, R, t, pm⟩
theorem Trs.intsR : ∀ (ns : List Int), Trs H Z [] (ns.map V.int) (ns.map PyData.int)
  | [] => .nil
  | n :: ns => .cons (S := []) (.int n) (Trs.intsR ns)
end
inductive Sl where
  | jk
  | fz (d : D)
  | ow (b : Bool) (d : D)
  | al (i : Nat) (π : List Nat)
  | pu
  | io (d : D)
  | dc (m : List (Key × D))
  | dt (m : List (List Key × D))
  | sh (d : D)
  | xv (a dd : Addr) (d : D)
  | ho (ds : List D) (i : Nat)
  | xw (a dd : Addr)
  | ob (q : Bool) (C0 : Addr) (fs : List (Str × Bool × D))
structure VSt where
  sl : List Sl
  tm : List Sl
  n : Int
structure Cn where
  H0 : Hp
  M : Reg
  pu : Option (Addr × Int)
  ok : ∀ p b, pu = some (p, b) → b ≤ 2 ^ 100
  iov : Option V := none
  Fr : Reg := noReg
abbrev Cn.tz (C : Cn) (Z : Reg) : Reg := fun a => Z a ∨ C.Fr a
/-- what stands in a dict: frozen trees -/
inductive DVs {κ : Type} (H : Hp) (Z : Reg) : List (κ × V) → List (κ × D) → Prop
  | nil : DVs H Z [] []
  | cons {k : κ} {v : V} {d : D} {kvs : List (κ × V)} {m : List (κ × D)} : Tr H Z [] v d → DVs H Z kvs m → DVs H Z ((k, v) :: kvs) ((k, d) :: m)
theorem DVs.mono {κ : Type} {H H' : Hp} {Z Z' : Reg} (ht : ∀ t vs, H t = some (.tup vs) → H' t = some (.tup vs)) (hz : ∀ a, Z a → Z' a) (kz : ∀ a, Z a → ∀ o, H a = some o → H' a = some o) {kvs : List (κ × V)} {m : List (κ × D)} (h : DVs H Z kvs m) : DVs H' Z' kvs m := by
  induction h with
  | nil => exact .nil
  | cons t _ ih => exact .cons (Tr.mono ht hz kz _ _ _ t fun a m => nomatch m) ih
/-- the fields of an instance: frozen trees, and owned lists of frozen things -/
inductive Fs (H : Hp) (Z : Reg) : List Addr → List V → List (Str × Bool × D) → Prop
  | nil : Fs H Z [] [] []
  | fz {v : V} {d : D} {f : Str} {S : List Addr} {vs : List V} {fs : List (Str × Bool × D)} : Tr H Z [] v d → Fs H Z S vs fs → Fs H Z S (v :: vs) ((f, false, d) :: fs)
  | ol {l : Addr} {ls : List V} {ds : List D} {f : Str} {S : List Addr} {vs : List V} {fs : List (Str × Bool × D)} : H l = some (.lst ls) → Trs H Z [] ls ds → Fs H Z S vs fs → Fs H Z (l :: S) (.ref l :: vs) ((f, true, .list ds) :: fs)
def obT (C0 : Addr) (fs : List (Str × Bool × D)) : D := .tuple (.int C0 :: (fs.map (·.1)).map PyData.str)
def obD (C0 : Addr) (fs : List (Str × Bool × D)) : D := .dict [(obT C0 fs, .list (fs.map fun x => x.2.2))]
theorem Fs.mono {H H' : Hp} {Z Z' : Reg} (ht : ∀ t vs, H t = some (.tup vs) → H' t = some (.tup vs)) (hz : ∀ a, Z a → Z' a) (kz : ∀ a, Z a → ∀ o, H a = some o → H' a = some o) : ∀ {fs : List (Str × Bool × D)} {S : List Addr} {vs : List V}, Fs H Z S vs fs → (∀ a ∈ S, ∀ o, H a = some o → H' a = some o) → Fs H' Z' S vs fs
  | _, _, _, .nil, _ => .nil
  | _, _, _, .fz t h, k => .fz (Tr.mono ht hz kz _ _ _ t fun _ m => nomatch m) (Fs.mono ht hz kz h k)
  | _, _, _, .ol e t h, k => .ol (k _ List.mem_cons_self _ e) (Trs.mono ht hz kz _ _ _ t fun _ m => nomatch m) (Fs.mono ht hz kz h fun a m => k a (List.mem_cons_of_mem _ m))
theorem Fs.dom {H : Hp} {Z : Reg} : ∀ {fs : List (Str × Bool × D)} {S : List Addr} {vs : List V}, Fs H Z S vs fs → ∀ a ∈ S, ∃ o, H a = some o ∧ NT o
  | _, _, _, .nil, _, m => nomatch m
  | _, _, _, .fz _ h, a, m => Fs.dom h a m
  | _, _, _, .ol e _ h, a, m => by
    rcases List.mem_cons.mp m with rfl | m
    · exact ⟨_, e, True.intro⟩
    · exact Fs.dom h a m
theorem Fs.trs {H : Hp} {Z : Reg} : ∀ {fs : List (Str × Bool × D)} {S : List Addr} {vs : List V}, Fs H Z S vs fs → Trs H Z S vs (fs.map fun x => x.2.2)
  | _, _, _, .nil => .nil
  | _, _, _, .fz t h => .cons (S := []) t (Fs.trs h)
  | _, _, _, .ol (l := l) e t h => .cons (S := [l]) (.lst e t) (Fs.trs h)
theorem Fs.length {H : Hp} {Z : Reg} : ∀ {fs : List (Str × Bool × D)} {S : List Addr} {vs : List V}, Fs H Z S vs fs → vs.length = fs.length
  | _, _, _, .nil => rfl
  | _, _, _, .fz _ h => by rw [List.length_cons, List.length_cons, Fs.length h]
  | _, _, _, .ol _ _ h => by rw [List.length_cons, List.length_cons, Fs.length h]
inductive Ent (C : Cn) (Z : Reg) (H : Hp) : List Addr → Option V → Sl → Prop
  | jk (v : Option V) : Ent C Z H [] v .jk
  | fz {v : V} {d : D} : Tr H Z [] v d → Ent C Z H [] (some v) (.fz d)
  | ow {v : V} {d : D} {S : List Addr} : Tr H noReg S v d → Ent C Z H S (some v) (.ow true d)
  | sp {a : Addr} {vs : List V} {ds : List D} {S : List Addr} : H a = some (.lst vs) → Trs H Z S vs ds → Ent C Z H (a :: S) (some (.ref a)) (.ow false (.list ds))
  | al (v : V) (i : Nat) (π : List Nat) : Ent C Z H [] (some v) (.al i π)
  | pu {p : Addr} {b : Int} : C.pu = some (p, b) → Ent C Z H [] (some (.ref p)) .pu
  | io {v : V} {d : D} {S : List Addr} : Tr H noReg S v d → C.iov = some v → Ent C Z H S (some v) (.io d)
  | dc {a : Addr} {kvs : List (Key × V)} {m : List (Key × D)} : H a = some (.dK kvs) → DVs H Z kvs m → Ent C Z H [a] (some (.ref a)) (.dc m)
  | dt {a : Addr} {kvs : List (List Key × V)} {m : List (List Key × D)} : H a = some (.dT kvs) → DVs H Z kvs m → Ent C Z H [a] (some (.ref a)) (.dt m)
  | sh {a : Addr} {v : V} {S : List Addr} {d : D} : H a = some (.tup [v, v, v]) → Tr H noReg S v d → Ent C Z H S (some (.ref a)) (.sh d)
  | xv {a dd : Addr} {w : V} {S : List Addr} {d : D} : H dd = some (.xd [("value", w)]) → Tr H noReg S w d → Ent C Z H (dd :: S) (some (.ref a)) (.xv a dd d)
  | ho {a : Addr} {vs : List V} {S : List Addr} {ds : List D} {i : Nat} : H a = some (.lst vs) → vs.length = ds.length → Trs H noReg S (vs.eraseIdx i) (ds.eraseIdx i) → Ent C Z H (a :: S) (some (.ref a)) (.ho ds i)
  | xw {a dd : Addr} {fs : List (Str × V)} : H dd = some (.xd fs) → Ent C Z H [dd] (some (.ref a)) (.xw a dd)
  | ob {q : Bool} {a C0 : Addr} {S : List Addr} {vs : List V} {fs : List (Str × Bool × D)} : Bx H a (obT C0 fs) vs → Fs H Z S vs fs → (q = true → C.iov = some (.ref a)) → Ent C Z H (a :: S) (some (.ref a)) (.ob q C0 fs)
inductive Ents (C : Cn) (Z : Reg) (H : Hp) : List Addr → List (Option V) → List Sl → Prop
  | nil : Ents C Z H [] [] []
  | cons {S T : List Addr} {v : Option V} {vs : List (Option V)} {s : Sl} {ss : List Sl} : Ent C Z H S v s → Ents C Z H T vs ss → Ents C Z H (S ++ T) (v :: vs) (s :: ss)
section
variable {C : Cn} {Z Z' : Reg} {H H' : Hp}
theorem Ent.mono {S : List Addr} {v : Option V} {s : Sl} (h : Ent C Z H S v s) (ht : ∀ t vs, H t = some (.tup vs) → H' t = some (.tup vs)) (hz : ∀ a, Z a → Z' a) (kz : ∀ a, Z a → ∀ o, H a = some o → H' a = some o) (ks : ∀ a ∈ S, ∀ o, H a = some o → H' a = some o) : Ent C Z' H' S v s := by
  cases h with
  | jk v => exact .jk v
  | fz t => exact .fz (Tr.mono ht hz kz _ _ _ t ks)
  | ow t => exact .ow (Tr.mono ht (fun _ z => z) (fun _ z => z.elim) _ _ _ t ks)
  | sp e t => exact .sp (ks _ List.mem_cons_self _ e) (Trs.mono ht hz kz _ _ _ t fun a m => ks a (List.mem_cons_of_mem _ m))
  | al v i π => exact .al v i π
  | pu e => exact .pu e
  | io t e => exact .io (Tr.mono ht (fun _ z => z) (fun _ z => z.elim) _ _ _ t ks) e
  | dc e t => exact .dc (ks _ List.mem_cons_self _ e) (t.mono ht hz kz)
  | dt e t => exact .dt (ks _ List.mem_cons_self _ e) (t.mono ht hz kz)
  | sh e t => exact .sh (ht _ _ e) (Tr.mono ht (fun _ z => z) (fun _ z => z.elim) _ _ _ t ks)
  | xv e t => exact .xv (ks _ List.mem_cons_self _ e) (Tr.mono ht (fun _ z => z) (fun _ z => z.elim) _ _ _ t fun a m => ks a (List.mem_cons_of_mem _ m))
  | xw e => exact .xw (ks _ List.mem_cons_self _ e)
  | ob b f q => exact .ob (b.mono (ks _ List.mem_cons_self)) (f.mono ht hz kz fun a m => ks a (List.mem_cons_of_mem _ m)) q
  | ho e l t => exact .ho (ks _ List.mem_cons_self _ e) l (Trs.mono ht (fun _ z => z) (fun _ z => z.elim) _ _ _ t fun a m => ks a (List.mem_cons_of_mem _ m))
theorem Ent.dom {S : List Addr} {v : Option V} {s : Sl} (h : Ent C Z H S v s) : ∀ a ∈ S, ∃ o, H a = some o := by
  have go : ∀ {T : List Addr}, (∀ a ∈ T, ∃ o, H a = some o) → ∀ a ∈ T, ∃ o, H a = some o := fun k => k
  cases h with
  | jk v => intro a m; cases m
  | fz t => exact go (Tr.dom _ _ _ t)
  | ow t => exact go (Tr.dom _ _ _ t)
  | sp e t =>
    intro a m
    rcases List.mem_cons.mp m with rfl | m
    · exact ⟨_, e⟩
    · exact go (Trs.dom _ _ _ t) a m
  | al v i π => intro a m; cases m
  | pu e => intro a m; cases m
  | io t _ => exact go (Tr.dom _ _ _ t)
  | dc e _ => intro a m; cases List.mem_singleton.mp m; exact ⟨_, e⟩
  | dt e _ => intro a m; cases List.mem_singleton.mp m; exact ⟨_, e⟩
  | sh e t => exact go (Tr.dom _ _ _ t)
  | xv e t =>
    intro a m
    rcases List.mem_cons.mp m with rfl | m
    · exact ⟨_, e⟩
    · exact go (Tr.dom _ _ _ t) a m
  | xw e => intro a m; cases List.mem_singleton.mp m; exact ⟨_, e⟩
  | ob b f q =>
    intro a m
    rcases List.mem_cons.mp m with rfl | m
    · obtain ⟨o, e, _⟩ := b.dom
      exact ⟨o, e⟩
    · obtain ⟨o, e, _⟩ := f.dom a m
      exact ⟨o, e⟩
  | ho e _ t =>
    intro a m
    rcases List.mem_cons.mp m with rfl | m
    · exact ⟨_, e⟩
    · exact go (Trs.dom _ _ _ t) a m
/-- a dict with keys that are numbers or texts, as a tree -/
abbrev dictD (m : List (Key × D)) : D := .dict [(.list (m.map fun kv => dOf kv.1), .list (m.map fun kv => kv.2))]
theorem DVs.box {a : Addr} {kvs : List (Key × V)} {m : List (Key × D)} (e : H a = some (.dK kvs)) (h : DVs H Z kvs m) : Tr H Z [a] (.ref a) (dictD m) := by
  have hk : kvs.map (·.1) = m.map (·.1) := by
    clear e
    induction h with
    | nil => rfl
    | cons _ _ ih => simp [ih]
  have ht : Trs H Z [] (kvs.map (·.2)) (m.map (·.2)) := by
    clear e hk
    induction h with
    | nil => exact .nil
    | cons t _ ih => exact .cons (S := []) t ih
  have ez : (m.map (·.1)).zip (kvs.map (·.2)) = kvs := by
    rw [← hk]
    clear e h hk ht
    induction kvs with
    | nil => rfl
    | cons x xs ih => simp [ih]
  have b : Bx H a (.list ((m.map (·.1)).map dOf)) (kvs.map (·.2)) := .dK (by rw [ez]; exact e) (by rw [← hk]; simp)
  have := Tr.box (Z := Z) b ht
  rw [List.map_map] at this
  exact this
/-- its data -/
def datS : Sl → Option D
  | .dc m => some (dictD m)
  | .fz d => some d
  | .ow _ d => some d
  | .io d => some d
  | .sh d => some (.tuple [d, d, d])
  | .ob _ C0 fs => some (obD C0 fs)
  | _ => none
theorem Ent.tr {S : List Addr} {v : Option V} {s : Sl} {d : D} (h : Ent C Z H S v s) (e : datS s = some d) : ∃ w T, v = some w ∧ Tr H Z T w d ∧ ∀ a ∈ T, a ∈ S := by
  cases h with
  | jk v => cases e
  | fz t => cases e; exact ⟨_, _, rfl, t, fun _ m => m⟩
  | ow t => cases e; exact ⟨_, _, rfl, Tr.mono (fun _ _ h => h) (fun _ z => z.elim) (fun _ z => z.elim) _ _ _ t fun _ _ _ h => h, fun _ m => m⟩
  | sp h1 t => cases e; exact ⟨_, _, rfl, .lst h1 t, fun _ m => m⟩
  | al v i π => cases e
  | pu e' => cases e
  | io t _ => cases e; exact ⟨_, _, rfl, Tr.mono (fun _ _ h => h) (fun _ z => z.elim) (fun _ z => z.elim) _ _ _ t fun _ _ _ h => h, fun _ m => m⟩
  | dc h1 t => cases e; exact ⟨_, _, rfl, t.box h1, fun _ m => m⟩
  | dt _ _ => cases e
  | xv _ _ => cases e
  | ho _ _ _ => cases e
  | xw _ => cases e
  | ob b f q => cases e; exact ⟨_, _, rfl, .box b f.trs, fun _ m => m⟩
  | @sh a v S d h1 t =>
    cases e
    have t' : Tr H Z S v d := Tr.mono (fun _ _ h => h) (fun _ z => z.elim) (fun _ z => z.elim) _ _ _ t fun _ _ _ h => h
    refine ⟨_, _, rfl, .tup h1 (.cons t' (.cons t' (.cons t' .nil))), fun x m => ?_⟩
    simpa using m
theorem Ent.trO {S : List Addr} {v : Option V} {b : Bool} {d : D} (h : Ent C Z H S v (.ow b d)) : ∃ w, v = some w ∧ Tr H Z S w d := by
  cases h with
  | ow t => exact ⟨_, rfl, Tr.mono (fun _ _ h => h) (fun _ z => z.elim) (fun _ z => z.elim) _ _ _ t fun _ _ _ h => h⟩
  | sp h1 t => exact ⟨_, rfl, .lst h1 t⟩
theorem Ents.mono : ∀ {S : List Addr} {vs : List (Option V)} {ss : List Sl}, Ents C Z H S vs ss → (∀ t vs, H t = some (.tup vs) → H' t = some (.tup vs)) → (∀ a, Z a → Z' a) → (∀ a, Z a → ∀ o, H a = some o → H' a = some o) → (∀ a ∈ S, ∀ o, H a = some o → H' a = some o) → Ents C Z' H' S vs ss
  | _, _, _, .nil, _, _, _, _ => .nil
  | _, _, _, .cons h1 h2, ht, hz, kz, ks => .cons (h1.mono ht hz kz fun a m => ks a (List.mem_append_left _ m)) (h2.mono ht hz kz fun a m => ks a (List.mem_append_right _ m))
theorem Ents.dom : ∀ {S : List Addr} {vs : List (Option V)} {ss : List Sl}, Ents C Z H S vs ss → ∀ a ∈ S, ∃ o, H a = some o
  | _, _, _, .nil => fun a m => nomatch m
  | _, _, _, .cons h1 h2 => fun a m => (List.mem_append.mp m).elim (h1.dom a) (h2.dom a)
theorem Ents.length : ∀ {S : List Addr} {vs : List (Option V)} {ss : List Sl}, Ents C Z H S vs ss → vs.length = ss.length
  | _, _, _, .nil => rfl
  | _, _, _, .cons h1 h2 => by simp [h2.length]
/-- one of them, and the others -/
theorem Ents.at : ∀ {ss : List Sl} {S : List Addr} {vs : List (Option V)} {i : Nat} {s : Sl}, Ents C Z H S vs ss → ss[i]? = some s → ∃ v T R, vs[i]? = some v ∧ Ent C Z H T v s ∧ S.Perm (T ++ R) ∧
    ∀ (H' : Hp) (Z' : Reg) T' v' s', (∀ t vs, H t = some (.tup vs) → H' t = some (.tup vs)) → (∀ a, Z a → Z' a) → (∀ a, Z a → ∀ o, H a = some o → H' a = some o) → (∀ a ∈ R, ∀ o, H a = some o → H' a = some o) → Ent C Z' H' T' v' s' → ∃ S', Ents C Z' H' S' (vs.set i v') (ss.set i s') ∧ S'.Perm (T' ++ R)
  | [], _, _, _, _, _, e => by simp at e
  | s :: ss, _, _, 0, _, h, e => by
    cases h with
    | @cons S T _ _ _ _ h1 h2 =>
      simp at e
      subst e
      exact ⟨_, _, _, rfl, h1, .refl _, fun H' Z' T' v' s' ht hz kz kr t => ⟨_, .cons t (h2.mono ht hz kz kr), .refl _⟩⟩
  | s :: ss, _, _, i + 1, _, h, e => by
    cases h with
    | @cons S T _ _ _ _ h1 h2 =>
      obtain ⟨v, T1, R, e1, t, pm, k⟩ := Ents.at (i := i) h2 (by simpa using e)
      have pm2 : (S ++ T).Perm (T1 ++ (S ++ R)) := by
        refine (List.Perm.append_left S pm).trans ?_
        rw [← List.append_assoc, ← List.append_assoc]
        exact List.Perm.append_right R List.perm_append_comm
      refine ⟨v, T1, S ++ R, by simpa using e1, t, pm2, fun H' Z' T' v' s' ht hz kz kr t' => ?_⟩
      obtain ⟨S', q, p'⟩ := k H' Z' T' v' s' ht hz kz (fun a m => kr a (List.mem_append_right _ m)) t'
      refine ⟨_, .cons (h1.mono ht hz kz fun a m => kr a (List.mem_append_left _ m)) q, ?_⟩
      refine (List.Perm.append_left S p').trans ?_
      rw [← List.append_assoc, ← List.append_assoc]
      exact List.Perm.append_right R List.perm_append_comm
end
def atP : D → List Nat → Option D
  | d, [] => some d
  | .list ds, k :: π => (ds[k]?).bind fun d => atP d π
  | .tuple ds, k :: π => (ds[k]?).bind fun d => atP d π
  | .dict [(_, .list ds)], k :: π => (ds[k]?).bind fun d => atP d π
  | _, _ :: _ => none
inductive Wk (H : Hp) : V → List Nat → V → Prop
  | nil (v : V) : Wk H v [] v
  | lst {a : Addr} {vs : List V} {k : Nat} {π : List Nat} {u w : V} : H a = some (.lst vs) → vs[k]? = some u → Wk H u π w → Wk H (.ref a) (k :: π) w
  | tup {a : Addr} {vs : List V} {k : Nat} {π : List Nat} {u w : V} : H a = some (.tup vs) → vs[k]? = some u → Wk H u π w → Wk H (.ref a) (k :: π) w
  | box {a : Addr} {t : D} {vs : List V} {k : Nat} {π : List Nat} {u w : V} : Bx H a t vs → vs[k]? = some u → Wk H u π w → Wk H (.ref a) (k :: π) w
section
variable {H H' : Hp} {Z : Reg}
theorem Bx.nl {a : Addr} {t : D} {vs us : List V} (h : Bx H a t vs) (e : H a = some (.lst us)) : False := by
  cases h with
  | ins q _ => rw [e] at q; cases q
  | dK q _ => rw [e] at q; cases q
theorem Bx.nt {a : Addr} {t : D} {vs us : List V} (h : Bx H a t vs) (e : H a = some (.tup us)) : False := by
  cases h with
  | ins q _ => rw [e] at q; cases q
  | dK q _ => rw [e] at q; cases q
theorem atP_dict {kvs : List (D × D)} {j : Nat} {π : List Nat} {x : D} (h : atP (.dict kvs) (j :: π) = some x) : ∃ t es, kvs = [(t, .list es)] ∧ ((es[j]?).bind fun d => atP d π) = some x := by
  cases kvs with
  | nil => simp [atP] at h
  | cons p r =>
    obtain ⟨t, d⟩ := p
    cases r with
    | nil =>
      cases d with
      | list es => exact ⟨t, es, rfl, by simpa only [atP] using h⟩
      | none => simp [atP] at h
      | bool _ => simp [atP] at h
      | int _ => simp [atP] at h
      | str _ => simp [atP] at h
      | tuple _ => simp [atP] at h
      | dict _ => simp [atP] at h
    | cons q r => cases d <;> simp [atP] at h
theorem Wk.snoc {v w : V} {π : List Nat} (h : Wk H v π w) {a : Addr} {vs : List V} {k : Nat} {u : V} (e : w = .ref a) (ha : H a = some (.lst vs) ∨ H a = some (.tup vs)) (hk : vs[k]? = some u) : Wk H v (π ++ [k]) u := by
  induction h with
  | nil v =>
    subst e
    rcases ha with ha | ha
    · exact .lst ha hk (.nil _)
    · exact .tup ha hk (.nil _)
  | lst h1 h2 _ ih => exact .lst h1 h2 (ih e)
  | tup h1 h2 _ ih => exact .tup h1 h2 (ih e)
  | box h1 h2 _ ih => exact .box h1 h2 (ih e)
theorem atP_snoc : ∀ (π : List Nat) (d e : D) (ds : List D) (k : Nat) (x : D), atP d π = some e → (e = .list ds ∨ e = .tuple ds ∨ ∃ t, e = .dict [(t, .list ds)]) → ds[k]? = some x → atP d (π ++ [k]) = some x
  | [], d, e, ds, k, x, h, he, hk => by
    simp only [atP, Option.some.injEq] at h
    subst h
    rcases he with rfl | rfl | ⟨t, rfl⟩ <;> simp [atP, hk]
  | j :: π, .list es, e, ds, k, x, h, he, hk => by
    simp only [atP, List.cons_append] at h ⊢
    cases q : es[j]? with
    | none => rw [q] at h; cases h
    | some y =>
      rw [q] at h
      exact atP_snoc π y e ds k x h he hk
  | j :: π, .tuple es, e, ds, k, x, h, he, hk => by
    simp only [atP, List.cons_append] at h ⊢
    cases q : es[j]? with
    | none => rw [q] at h; cases h
    | some y =>
      rw [q] at h
      exact atP_snoc π y e ds k x h he hk
  | j :: π, .none, e, ds, k, x, h, he, hk => by simp [atP] at h
  | j :: π, .bool _, e, ds, k, x, h, he, hk => by simp [atP] at h
  | j :: π, .int _, e, ds, k, x, h, he, hk => by simp [atP] at h
  | j :: π, .str _, e, ds, k, x, h, he, hk => by simp [atP] at h
  | j :: π, .dict _, e, ds, k, x, h, he, hk => by
    obtain ⟨t, es, rfl, h'⟩ := atP_dict h
    simp only [atP, List.cons_append]
    cases q : es[j]? with
    | none => rw [q] at h'; cases h'
    | some y =>
      rw [q] at h'
      exact atP_snoc π y e ds k x h' he hk
/-- a part of a tree: it is walked to, and stays where the tree stays -/
theorem Tr.part : ∀ {π : List Nat} {d e : D} {S : List Addr} {v w : V}, Tr H Z S v d → atP d π = some e → Wk H v π w → (∃ T, Tr H Z T w e ∧ ∀ a ∈ T, a ∈ S) ∧
    ∀ H' : Hp, (∀ t vs, H t = some (.tup vs) → H' t = some (.tup vs)) → (∀ a, Z a ∨ a ∈ S → ∀ o, H a = some o → H' a = some o) → Wk H' v π w
  | [], d, e, S, v, w, h, he, hw => by
    simp only [atP, Option.some.injEq] at he
    subst he
    cases hw
    exact ⟨⟨S, h, fun _ m => m⟩, fun _ _ _ => .nil _⟩
  | k :: π, d, e, S, v, w, h, he, hw => by
    cases hw with
    | @lst a vs _ _ u _ h1 h2 h3 =>
      cases h with
      | @lst _ vs' S' ds g1 g2 =>
        rw [h1] at g1
        cases g1
        simp only [atP] at he
        cases q : ds[k]? with
        | none => rw [q] at he; cases he
        | some y =>
          rw [q] at he
          obtain ⟨T, R, t, pm⟩ := g2.get q h2
          obtain ⟨⟨T', t', s'⟩, kp⟩ := Tr.part (π := π) t he h3
          have sub : ∀ a ∈ T, a ∈ a :: S' → True := fun _ _ _ => trivial
          refine ⟨⟨T', t', fun b m => List.mem_cons_of_mem _ (pm.mem_iff.mpr (List.mem_append_left _ (s' b m)))⟩, fun H' ht kk => .lst (kk _ (.inr List.mem_cons_self) _ h1) h2 (kp H' ht fun b hb => kk b ?_)⟩
          rcases hb with hb | hb
          · exact .inl hb
          · exact .inr (List.mem_cons_of_mem _ (pm.mem_iff.mpr (List.mem_append_left _ hb)))
      | @lstZ _ vs' ds g0 g1 g2 =>
        rw [h1] at g1
        cases g1
        simp only [atP] at he
        cases q : ds[k]? with
        | none => rw [q] at he; cases he
        | some y =>
          rw [q] at he
          obtain ⟨T, R, t, pm⟩ := g2.get q h2
          obtain ⟨⟨T', t', s'⟩, kp⟩ := Tr.part (π := π) t he h3
          refine ⟨⟨T', t', fun b m => pm.mem_iff.mpr (List.mem_append_left _ (s' b m))⟩, fun H' ht kk => .lst (kk _ (.inl g0) _ h1) h2 (kp H' ht fun b hb => kk b ?_)⟩
          rcases hb with hb | hb
          · exact .inl hb
          · exact .inr (pm.mem_iff.mpr (List.mem_append_left _ hb))
      | tup g1 g2 => rw [h1] at g1; cases g1
      | box g1 g2 => exact (g1.nl h1).elim
      | boxZ g0 g1 g2 => exact (g1.nl h1).elim
    | @tup a vs _ _ u _ h1 h2 h3 =>
      cases h with
      | lst g1 g2 => rw [h1] at g1; cases g1
      | lstZ g0 g1 g2 => rw [h1] at g1; cases g1
      | box g1 g2 => exact (g1.nt h1).elim
      | boxZ g0 g1 g2 => exact (g1.nt h1).elim
      | @tup _ vs' S' ds g1 g2 =>
        rw [h1] at g1
        cases g1
        simp only [atP] at he
        cases q : ds[k]? with
        | none => rw [q] at he; cases he
        | some y =>
          rw [q] at he
          obtain ⟨T, R, t, pm⟩ := g2.get q h2
          obtain ⟨⟨T', t', s'⟩, kp⟩ := Tr.part (π := π) t he h3
          refine ⟨⟨T', t', fun b m => pm.mem_iff.mpr (List.mem_append_left _ (s' b m))⟩, fun H' ht kk => .tup (ht _ _ h1) h2 (kp H' ht fun b hb => kk b ?_)⟩
          rcases hb with hb | hb
          · exact .inl hb
          · exact .inr (pm.mem_iff.mpr (List.mem_append_left _ hb))
    | @box a t1 vs _ _ u _ h1 h2 h3 =>
      cases h with
      | lst g1 g2 => exact (h1.nl g1).elim
      | lstZ g0 g1 g2 => exact (h1.nl g1).elim
      | tup g1 g2 => exact (h1.nt g1).elim
      | @box _ t0 vs' S' ds g1 g2 =>
        obtain ⟨rfl, rfl⟩ := h1.uniq g1
        simp only [atP] at he
        cases q : ds[k]? with
        | none => rw [q] at he; cases he
        | some y =>
          rw [q] at he
          obtain ⟨T, R, t, pm⟩ := g2.get q h2
          obtain ⟨⟨T', t', s'⟩, kp⟩ := Tr.part (π := π) t he h3
          refine ⟨⟨T', t', fun b m => List.mem_cons_of_mem _ (pm.mem_iff.mpr (List.mem_append_left _ (s' b m)))⟩, fun H' ht kk => .box (h1.mono (kk _ (.inr List.mem_cons_self))) h2 (kp H' ht fun b hb => kk b ?_)⟩
          rcases hb with hb | hb
          · exact .inl hb
          · exact .inr (List.mem_cons_of_mem _ (pm.mem_iff.mpr (List.mem_append_left _ hb)))
      | @boxZ _ t0 vs' ds g0 g1 g2 =>
        obtain ⟨rfl, rfl⟩ := h1.uniq g1
        simp only [atP] at he
        cases q : ds[k]? with
        | none => rw [q] at he; cases he
        | some y =>
          rw [q] at he
          obtain ⟨T, R, t, pm⟩ := g2.get q h2
          obtain ⟨⟨T', t', s'⟩, kp⟩ := Tr.part (π := π) t he h3
          refine ⟨⟨T', t', fun b m => pm.mem_iff.mpr (List.mem_append_left _ (s' b m))⟩, fun H' ht kk => .box (h1.mono (kk _ (.inl g0))) h2 (kp H' ht fun b hb => kk b ?_)⟩
          rcases hb with hb | hb
          · exact .inl hb
          · exact .inr (pm.mem_iff.mpr (List.mem_append_left _ hb))
/-- a part exchanged -/
def setP : D → List Nat → D → D
  | _, [], x => x
  | .list ds, k :: π, x => .list (ds.set k ((ds[k]?).elim .none fun d => setP d π x))
  | .tuple ds, k :: π, x => .tuple (ds.set k ((ds[k]?).elim .none fun d => setP d π x))
  | .dict [(t, .list ds)], k :: π, x => .dict [(t, .list (ds.set k ((ds[k]?).elim .none fun d => setP d π x)))]
  | d, _ :: _, _ => d
end
def look (sl : List Sl) : Sl → Option D
  | .fz d => some d
  | .ow _ d => some d
  | .al i π => (sl[i]?).bind fun s => (datS s).bind fun d => atP d π
  | _ => none
structure RelX (C : Cn) (Z : Reg) (S1 S2 : List Addr) (γ : VSt) (Θ : List V) (σ : L2.St) (H : Hp) : Prop where
  fr : ∀ a o, C.H0 a = some o → ¬ C.M a → C.tz Z a ∧ H a = some o
  es : Ents C Z H S1 σ γ.sl
  et : Ents C Z H S2 (Θ.map some) γ.tm
  nd : (S1 ++ S2).Nodup
  nz : ∀ a ∈ S1 ++ S2, ¬ C.tz Z a
  pu : ∀ p b, C.pu = some (p, b) → PuAt H p (b - γ.n) ∧ ¬ C.tz Z p ∧ p ∉ S1 ++ S2
  ex : ∀ a, C.tz Z a → ∃ o, H a = some o
  dj : ∀ a, Z a → ¬ C.Fr a
  al : ∀ (k i : Nat) (π : List Nat) (v : V), γ.tm[k]? = some (.al i π) → Θ[k]? = some v → ∃ s d e w, γ.sl[i]? = some s ∧ datS s = some d ∧ atP d π = some e ∧ σ[i]? = some (some w) ∧ Wk H w π v
def Rel (C : Cn) (γ : VSt) (Θ : List V) (σ : L2.St) (H : Hp) : Prop := ∃ Z S1 S2, RelX C Z S1 S2 γ Θ σ H
def noAl (i : Nat) (tm : List Sl) : Bool := tm.all fun s => match s with | .al j _ => j != i | _ => true
def own (d : D) : Sl := if nolist d then .fz d else .ow true d
section
variable {C : Cn} {Z : Reg} {S1 S2 : List Addr} {γ : VSt} {Θ : List V} {σ : L2.St} {H H' : Hp} {sl tm : List Sl} {n n' : Int} {v : V} {s : Sl} {d : D} {i : Nat}
theorem RelX.slot (h : RelX C Z S1 S2 γ Θ σ H) (e : γ.sl[i]? = some s) (ed : datS s = some d) : ∃ w T, σ[i]? = some (some w) ∧ Tr H Z T w d ∧ ∀ a ∈ T, a ∈ S1 := by
  obtain ⟨v, T, R, ev, en, pm, _⟩ := h.es.at e
  obtain ⟨w, T', rfl, t, sb⟩ := en.tr ed
  exact ⟨w, T', ev, t, fun a m => pm.mem_iff.mpr (List.mem_append_left _ (sb a m))⟩
theorem RelX.trAt {k : Nat} (h : RelX C Z S1 S2 γ Θ σ H) (e : γ.tm[k]? = some s) (ev : Θ[k]? = some v) (l : look γ.sl s = some d) : ∃ T, Tr H Z T v d ∧ ∀ a ∈ T, a ∈ S1 ++ S2 := by
  obtain ⟨v', T, R, ev', en, pm, _⟩ := h.et.at e
  rw [List.getElem?_map, ev] at ev'
  cases ev'
  have go : datS s = some d → ∃ T, Tr H Z T v d ∧ ∀ a ∈ T, a ∈ S1 ++ S2 := fun q => by
    obtain ⟨w, T', ew, t, sb⟩ := en.tr q
    cases ew
    exact ⟨T', t, fun a m => List.mem_append_right _ (pm.mem_iff.mpr (List.mem_append_left _ (sb a m)))⟩
  cases s with
  | jk => cases l
  | io d' => cases l
  | fz d' => exact go l
  | ow b d' => exact go l
  | pu => cases l
  | dc m => cases l
  | dt m => cases l
  | sh m => cases l
  | xv _ _ m => cases l
  | ho _ _ => cases l
  | xw _ _ => cases l
  | ob _ _ _ => cases l
  | al i π =>
    obtain ⟨s, d', e', w, e1, e2, e3, e4, wk⟩ := h.al k i π v e ev
    simp only [look, e1, e2, e3, Option.bind_some, Option.some.injEq] at l
    subst l
    obtain ⟨w', T', ew, t, sub⟩ := h.slot e1 e2
    rw [e4] at ew
    cases ew
    obtain ⟨⟨T2, t2, s2⟩, _⟩ := Tr.part t e3 wk
    exact ⟨T2, t2, fun a m => List.mem_append_left _ (sub a (s2 a m))⟩
/-- what stands on the stack is read -/
theorem Rel.readAt {k : Nat} (h : Rel C γ Θ σ H) (e : γ.tm[k]? = some s) (ev : Θ[k]? = some v) (l : look γ.sl s = some d) : ∃ T, Rep H T v d ∧ ∀ p b, C.pu = some (p, b) → p ∉ T := by
  obtain ⟨Z, S1, S2, h⟩ := h
  obtain ⟨T, t, sub⟩ := h.trAt e ev l
  obtain ⟨T', r, k⟩ := Tr.rep _ _ _ t
  refine ⟨T', r, fun p b q m => ?_⟩
  obtain ⟨_, n1, n2⟩ := h.pu p b q
  rcases k p m with m | m
  · exact n2 (sub p m)
  · exact n1 (.inl m)
theorem Rel.read (h : Rel C ⟨sl, s :: tm, n⟩ (v :: Θ) σ H) (l : look sl s = some d) : ∃ T, Rep H T v d ∧ ∀ p b, C.pu = some (p, b) → p ∉ T := h.readAt (k := 0) rfl rfl l
/-- the heap grows, the purse is drawn from -/
theorem Rel.heap (h : Rel C ⟨sl, tm, n⟩ Θ σ H) (k : ∀ a o, H a = some o → (∀ p b, C.pu = some (p, b) → a ≠ p) → H' a = some o) (kp : ∀ p b, C.pu = some (p, b) → PuAt H' p (b - n')) : Rel C ⟨sl, tm, n'⟩ Θ σ H' := by
  obtain ⟨Z, S1, S2, h⟩ := h
  have kt : ∀ t vs, H t = some (.tup vs) → H' t = some (.tup vs) := fun t vs e => k t _ e fun p b q z => by
    subst z
    obtain ⟨x, y, z, e2, _⟩ := (h.pu t b q).1
    rw [e] at e2
    cases e2
  have kz0 : ∀ a, C.tz Z a → ∀ o, H a = some o → H' a = some o := fun a z o e => k a o e fun p b q y => (h.pu p b q).2.1 (y ▸ z)
  have kz : ∀ a, Z a → ∀ o, H a = some o → H' a = some o := fun a z => kz0 a (.inl z)
  have ks : ∀ a ∈ S1 ++ S2, ∀ o, H a = some o → H' a = some o := fun a m o e => k a o e fun p b q y => (h.pu p b q).2.2 (y ▸ m)
  refine ⟨Z, S1, S2, fun a o e m => ⟨(h.fr a o e m).1, kz0 a (h.fr a o e m).1 o (h.fr a o e m).2⟩, h.es.mono kt (fun _ z => z) kz fun a m => ks a (List.mem_append_left _ m), h.et.mono kt (fun _ z => z) kz fun a m => ks a (List.mem_append_right _ m), h.nd, h.nz, fun p b q => ⟨kp p b q, (h.pu p b q).2⟩, fun a z => ?_, h.dj, fun j i π v e ev => ?_⟩
  · obtain ⟨o, e⟩ := h.ex a z
    exact ⟨o, kz0 a z o e⟩
  · obtain ⟨s, d', e', w, e1, e2, e3, e4, wk⟩ := h.al j i π v e ev
    obtain ⟨w', T', ew, t, sub⟩ := h.slot e1 e2
    rw [e4] at ew
    cases ew
    exact ⟨s, d', e', w, e1, e2, e3, e4, (Tr.part t e3 wk).2 H' kt fun a z => z.elim (kz a) fun m => ks a (List.mem_append_left _ (sub a m))⟩
theorem Rel.same (h : Rel C γ Θ σ H) (k : Same H H') : Rel C γ Θ σ H' := by
  obtain ⟨sl, tm, n⟩ := γ
  refine h.heap (fun a o e _ => k a o e) fun p b q => ?_
  obtain ⟨Z, S1, S2, h⟩ := h
  exact (h.pu p b q).1.mono (k p)
/-- something on the stack -/
theorem RelX.pushE {Z' : Reg} {T : List Addr} (h : RelX C Z S1 S2 ⟨sl, tm, n⟩ Θ σ H) (en : Ent C Z H T (some v) s) (nd : T.Nodup) (nT : ∀ a ∈ T, a ∉ S1 ++ S2 ∧ ¬ C.tz Z a ∧ ∀ p b, C.pu = some (p, b) → a ≠ p) (na : ∀ i π, s ≠ .al i π) : RelX C Z S1 (T ++ S2) ⟨sl, s :: tm, n⟩ (v :: Θ) σ H := by
  have pm : (S1 ++ (T ++ S2)).Perm (T ++ (S1 ++ S2)) := by
    rw [← List.append_assoc, ← List.append_assoc]
    exact List.Perm.append_right S2 List.perm_append_comm
  refine ⟨h.fr, h.es, .cons en h.et, pm.nodup_iff.mpr (List.nodup_append.mpr ⟨nd, h.nd, fun a m b m' e => (nT a m).1 (e ▸ m')⟩), fun a m => ?_, fun p b q => ⟨(h.pu p b q).1, (h.pu p b q).2.1, fun m => ?_⟩, h.ex, h.dj, fun k j π u e ev => ?_⟩
  · rcases List.mem_append.mp (pm.mem_iff.mp m) with m | m
    · exact (nT a m).2.1
    · exact h.nz a m
  · rcases List.mem_append.mp (pm.mem_iff.mp m) with m | m
    · exact (nT p m).2.2 p b q rfl
    · exact (h.pu p b q).2.2 m
  · cases k with
    | zero =>
      simp at e
      exact absurd e (na _ _)
    | succ k => exact h.al k j π u (by simpa using e) (by simpa using ev)
theorem Rel.push (h : Rel C ⟨sl, tm, n⟩ Θ σ H) (t : ∀ Z, Tr H Z [] v d) : Rel C ⟨sl, .fz d :: tm, n⟩ (v :: Θ) σ H := by
  obtain ⟨Z, S1, S2, h⟩ := h
  exact ⟨Z, S1, _, h.pushE (Z' := Z) (.fz (t Z)) List.nodup_nil (fun a m => nomatch m) (fun i π z => nomatch z)⟩
/-- a new tree on the stack -/
theorem Rel.new (h : Rel C ⟨sl, tm, n⟩ Θ σ H) (k : ∀ a o, H a = some o → (∀ p b, C.pu = some (p, b) → a ≠ p) → H' a = some o) (kp : ∀ p b, C.pu = some (p, b) → PuAt H' p (b - n'))
    (nw : ∃ S, Tr H' noReg S v d ∧ S.Nodup ∧ ∀ a ∈ S, H a = none) : Rel C ⟨sl, own d :: tm, n'⟩ (v :: Θ) σ H' := by
  have h' := h.heap k kp
  obtain ⟨S, t, nd, nw⟩ := nw
  unfold own
  by_cases hn : nolist d = true
  · rw [if_pos hn]
    exact h'.push fun Z => (Tr.nolist d S v t hn).2
  · rw [if_neg hn]
    obtain ⟨Z0, A1, A2, h0⟩ := h
    have old : ∀ a ∈ S, a ∉ A1 ++ A2 ∧ ¬ C.tz Z0 a ∧ ∀ p b, C.pu = some (p, b) → a ≠ p := fun a m => by
      refine ⟨fun z => ?_, fun z => ?_, fun p b q z => ?_⟩
      · rcases List.mem_append.mp z with z | z
        · obtain ⟨xs, e⟩ := h0.es.dom a z
          rw [nw a m] at e
          cases e
        · obtain ⟨xs, e⟩ := h0.et.dom a z
          rw [nw a m] at e
          cases e
      · obtain ⟨o, e⟩ := h0.ex a z
        rw [nw a m] at e
        cases e
      · obtain ⟨x, y, w, e, _⟩ := (h0.pu p b q).1
        rw [← z, nw a m] at e
        cases e
    -- the same regions
    have kt : ∀ t vs, H t = some (.tup vs) → H' t = some (.tup vs) := fun t vs e => k t _ e fun p b q z => by
      subst z
      obtain ⟨x, y, z, e2, _⟩ := (h0.pu t b q).1
      rw [e] at e2
      cases e2
    have kz0 : ∀ a, C.tz Z0 a → ∀ o, H a = some o → H' a = some o := fun a z o e => k a o e fun p b q y => (h0.pu p b q).2.1 (y ▸ z)
    have kz : ∀ a, Z0 a → ∀ o, H a = some o → H' a = some o := fun a z => kz0 a (.inl z)
    have ks : ∀ a ∈ A1 ++ A2, ∀ o, H a = some o → H' a = some o := fun a m o e => k a o e fun p b q y => (h0.pu p b q).2.2 (y ▸ m)
    have h1 : RelX C Z0 A1 A2 ⟨sl, tm, n'⟩ Θ σ H' := ⟨fun a o e m => ⟨(h0.fr a o e m).1, kz0 a (h0.fr a o e m).1 o (h0.fr a o e m).2⟩, h0.es.mono kt (fun _ z => z) kz fun a m => ks a (List.mem_append_left _ m), h0.et.mono kt (fun _ z => z) kz fun a m => ks a (List.mem_append_right _ m), h0.nd, h0.nz, fun p b q => ⟨kp p b q, (h0.pu p b q).2⟩, fun a z => by
      obtain ⟨o, e⟩ := h0.ex a z
      exact ⟨o, kz0 a z o e⟩, h0.dj, fun j i π v e ev => by
      obtain ⟨s, d', e', w, e1, e2, e3, e4, wk⟩ := h0.al j i π v e ev
      obtain ⟨w', T', ew, t, sub⟩ := h0.slot e1 e2
      rw [e4] at ew
      cases ew
      exact ⟨s, d', e', w, e1, e2, e3, e4, (Tr.part t e3 wk).2 H' kt fun a z => z.elim (kz a) fun m => ks a (List.mem_append_left _ (sub a m))⟩⟩
    exact ⟨Z0, A1, _, h1.pushE (Z' := Z0) (.ow t) nd old (fun i π z => nomatch z)⟩
theorem Rel.pop (h : Rel C ⟨sl, s :: tm, n⟩ (v :: Θ) σ H) : Rel C ⟨sl, tm, n⟩ Θ σ H := by
  obtain ⟨Z, S1, S2, h⟩ := h
  obtain ⟨fr, es, et, nd, nz, pu, ex, dj, al⟩ := h
  dsimp only at es et al pu
  cases et with
  | @cons S T _ _ _ _ e1 e2 =>
    have pm : (S1 ++ (S ++ T)).Perm (S ++ (S1 ++ T)) := by
      rw [← List.append_assoc, ← List.append_assoc]
      exact List.Perm.append_right T List.perm_append_comm
    exact ⟨Z, S1, T, fr, es, e2, (List.nodup_append.mp (pm.nodup_iff.mp nd)).2.1, fun a m => nz a (pm.mem_iff.mpr (List.mem_append_right _ m)), fun p b q => ⟨(pu p b q).1, (pu p b q).2.1, fun m => (pu p b q).2.2 (pm.mem_iff.mpr (List.mem_append_right _ m))⟩, ex, dj, fun k j π u e ev => al (k + 1) j π u (by simpa using e) (by simpa using ev)⟩
/-- a name is read -/
theorem Rel.varF (h : Rel C ⟨sl, tm, n⟩ Θ σ H) (e : sl[i]? = some (.fz d)) : ∃ v, σ[i]? = some (some v) ∧ Rel C ⟨sl, .fz d :: tm, n⟩ (v :: Θ) σ H := by
  obtain ⟨Z, S1, S2, h⟩ := h
  obtain ⟨v, T, R, ev, en, pm, _⟩ := h.es.at e
  cases en with
  | fz t => exact ⟨_, ev, Z, S1, _, h.pushE (Z' := Z) (.fz t) List.nodup_nil (fun a m => nomatch m) (fun i π z => nomatch z)⟩
theorem Rel.varP (h : Rel C ⟨sl, tm, n⟩ Θ σ H) (e : sl[i]? = some .pu) : ∃ p b, C.pu = some (p, b) ∧ σ[i]? = some (some (.ref p)) ∧ Rel C ⟨sl, .pu :: tm, n⟩ (.ref p :: Θ) σ H := by
  obtain ⟨Z, S1, S2, h⟩ := h
  obtain ⟨v, T, R, ev, en, pm, _⟩ := h.es.at e
  cases en with
  | pu q => exact ⟨_, _, q, ev, Z, S1, _, h.pushE (Z' := Z) (.pu q) List.nodup_nil (fun a m => nomatch m) (fun i π z => nomatch z)⟩
theorem Rel.varA (h : Rel C ⟨sl, tm, n⟩ Θ σ H) (e : sl[i]? = some s) (ed : datS s = some d) : ∃ v, σ[i]? = some (some v) ∧ Rel C ⟨sl, .al i [] :: tm, n⟩ (v :: Θ) σ H := by
  obtain ⟨Z, S1, S2, h⟩ := h
  obtain ⟨w, T, ew, t, sub⟩ := h.slot (γ := ⟨sl, tm, n⟩) e ed
  refine ⟨w, ew, Z, S1, S2, h.fr, h.es, .cons (S := []) (.al w i []) h.et, h.nd, h.nz, h.pu, h.ex, h.dj, fun k j π u e' ev => ?_⟩
  cases k with
  | zero =>
    simp at e' ev
    obtain ⟨rfl, rfl⟩ := e'
    subst ev
    exact ⟨_, d, d, w, e, ed, rfl, ew, .nil _⟩
  | succ k => exact h.al k j π u (by simpa using e') (by simpa using ev)
/-- an alias stays while its name does -/
theorem al_set {k j : Nat} {π : List Nat} (na : noAl i tm = true) (e : tm[k]? = some (.al j π)) : i ≠ j := fun z => by
  subst z
  have := List.all_eq_true.mp na _ (List.mem_of_getElem? e)
  simp at this
/-- the top is stored in a name -/
theorem Rel.set (h : Rel C ⟨sl, s :: tm, n⟩ (v :: Θ) σ H) (hs : ∀ i π, s ≠ .al i π) (na : noAl i tm = true) : Rel C ⟨sl.set i s, tm, n⟩ Θ (σ.set i (some v)) H := by
  obtain ⟨Z, S1, S2, h⟩ := h
  obtain ⟨fr, es, et, nd, nz, pu, ex, dj, al⟩ := h
  dsimp only at es et al pu
  cases et with
  | @cons T S2 _ _ _ _ e1 e2 =>
    have len := es.length
    by_cases hi : i < sl.length
    · obtain ⟨s0, e0⟩ : ∃ s0, sl[i]? = some s0 := ⟨_, List.getElem?_eq_getElem hi⟩
      obtain ⟨v0, T0, R, ev, en, pm, k⟩ := es.at e0
      obtain ⟨S', es', pm'⟩ := k H Z T (some v) s (fun _ _ h => h) (fun _ z => z) (fun _ _ _ h => h) (fun _ _ _ h => h) e1
      have pm2 : (S1 ++ (T ++ S2)).Perm (T0 ++ (S' ++ S2)) := by
        have q : (S1 ++ (T ++ S2)).Perm ((T0 ++ R) ++ (T ++ S2)) := List.Perm.append_right _ pm
        refine q.trans ?_
        have q2 : (R ++ (T ++ S2)).Perm (S' ++ S2) := by
          rw [← List.append_assoc]
          exact List.Perm.append_right S2 (List.perm_append_comm.trans pm'.symm)
        rw [List.append_assoc]
        exact List.Perm.append_left T0 q2
      refine ⟨Z, S', S2, fr, es', e2, (List.nodup_append.mp (pm2.nodup_iff.mp nd)).2.1, fun a m => nz a (pm2.mem_iff.mpr (List.mem_append_right _ m)), fun p b q => ⟨(pu p b q).1, (pu p b q).2.1, fun m => (pu p b q).2.2 (pm2.mem_iff.mpr (List.mem_append_right _ m))⟩, ex, dj, fun j i' π u e' ev' => ?_⟩
      obtain ⟨s1, d', e3, w', g1, g2, g3, g4, wk⟩ := al (j + 1) i' π u (by simpa using e') (by simpa using ev')
      have hj := al_set na e'
      exact ⟨s1, d', e3, w', (List.getElem?_set_ne hj).trans g1, g2, g3, (List.getElem?_set_ne hj).trans g4, wk⟩
    · have e3 : sl.set i s = sl := List.set_eq_of_length_le (by omega)
      have e4 : σ.set i (some v) = σ := List.set_eq_of_length_le (by omega)
      rw [e3, e4]
      exact Rel.pop ⟨Z, S1, _, fr, es, .cons e1 e2, nd, nz, pu, ex, dj, al⟩
/-- a name is forgotten -/
theorem Rel.jk (h : Rel C ⟨sl, tm, n⟩ Θ σ H) (na : noAl i tm = true) (o : Option V) : Rel C ⟨sl.set i .jk, tm, n⟩ Θ (σ.set i o) H := by
  obtain ⟨Z, S1, S2, h⟩ := h
  have len := h.es.length
  by_cases hi : i < sl.length
  · obtain ⟨s0, e0⟩ : ∃ s0, sl[i]? = some s0 := ⟨_, List.getElem?_eq_getElem hi⟩
    obtain ⟨v0, T0, R, ev, en, pm, k⟩ := h.es.at (ss := sl) e0
    obtain ⟨S', es', pm'⟩ := k H Z [] o .jk (fun _ _ h => h) (fun _ z => z) (fun _ _ _ h => h) (fun _ _ _ h => h) (.jk _)
    have pm2 : (S1 ++ S2).Perm (T0 ++ (S' ++ S2)) := by
      rw [← List.append_assoc]
      exact List.Perm.append_right S2 (pm.trans (List.Perm.append_left T0 (by simpa using pm'.symm)))
    refine ⟨Z, S', S2, h.fr, es', h.et, (List.nodup_append.mp (pm2.nodup_iff.mp h.nd)).2.1, fun a m => h.nz a (pm2.mem_iff.mpr (List.mem_append_right _ m)), fun p b q => ⟨(h.pu p b q).1, (h.pu p b q).2.1, fun m => (h.pu p b q).2.2 (pm2.mem_iff.mpr (List.mem_append_right _ m))⟩, h.ex, h.dj, fun j i' π u e' ev' => ?_⟩
    obtain ⟨s1, d', e3, w', g1, g2, g3, g4, wk⟩ := h.al j i' π u e' ev'
    have hj := al_set na e'
    exact ⟨s1, d', e3, w', (List.getElem?_set_ne hj).trans g1, g2, g3, (List.getElem?_set_ne hj).trans g4, wk⟩
  · have e3 : sl.set i .jk = sl := List.set_eq_of_length_le (by omega)
    have e4 : σ.set i o = σ := List.set_eq_of_length_le (by change σ.length = sl.length at len; omega)
    rw [e3, e4]
    exact ⟨Z, S1, S2, h⟩
end
mutual
theorem repU {H : Hp} : ∀ (d : D) (v : V) (A B : List Addr), Rep H A v d → Rep H B v d → A = B
  | .none, _, _, _, h, k => by cases h; cases k; rfl
  | .bool b, _, _, _, h, k => by cases h; cases k; rfl
  | .int i, _, _, _, h, k => by cases h; cases k; rfl
  | .str x, _, _, _, h, k => by cases h; cases k; rfl
  | .list ds, _, _, _, h, k => by
    cases h with
    | lst h1 h2 =>
      cases k with
      | lst k1 k2 =>
        rw [h1] at k1
        cases k1
        rw [repsU ds _ _ _ h2 k2]
  | .tuple ds, _, _, _, h, k => by
    cases h with
    | tup h1 h2 =>
      cases k with
      | tup k1 k2 =>
        rw [h1] at k1
        cases k1
        exact repsU ds _ _ _ h2 k2
  | .dict _, _, _, _, h, k => by
    cases h with
    | box h1 h2 =>
      cases k with
      | box k1 k2 =>
        obtain ⟨_, rfl⟩ := h1.uniq k1
        rw [repsU _ _ _ _ h2 k2]
theorem repsU {H : Hp} : ∀ (ds : List D) (vs : List V) (A B : List Addr), Reps H A vs ds → Reps H B vs ds → A = B
  | [], _, _, _, h, k => by cases h; cases k; rfl
  | d :: ds, _, _, _, h, k => by
    cases h with
    | cons h1 h2 =>
      cases k with
      | cons k1 k2 => rw [repU d _ _ _ h1 k1, repsU ds _ _ _ h2 k2]
end
section
variable {C : Cn} {Z : Reg} {S1 S2 : List Addr} {γ : VSt} {Θ : List V} {σ : L2.St} {H H' : Hp} {sl tm : List Sl} {n n' : Int} {v : V} {s : Sl} {d : D} {i : Nat}
/-- the top is frozen -/
theorem Rel.frzT {b : Bool} (h : Rel C ⟨sl, .ow b d :: tm, n⟩ (v :: Θ) σ H) : Rel C ⟨sl, .fz d :: tm, n⟩ (v :: Θ) σ H := by
  obtain ⟨Z, S1, S2, h⟩ := h
  obtain ⟨fr, es, et, nd, nz, pu, ex, dj, al⟩ := h
  dsimp only at es et al pu
  cases et with
  | @cons T S2 _ _ _ _ e1 e2 =>
    obtain ⟨w, ew, t⟩ := e1.trO
    cases ew
    let Z' : Reg := fun a => Z a ∨ a ∈ T
    have pm : (S1 ++ (T ++ S2)).Perm (T ++ (S1 ++ S2)) := by
      rw [← List.append_assoc, ← List.append_assoc]
      exact List.Perm.append_right S2 List.perm_append_comm
    have nd2 := List.nodup_append.mp (pm.nodup_iff.mp nd)
    refine ⟨Z', S1, [] ++ S2, fun a o e m => ⟨(fr a o e m).1.imp .inl id, (fr a o e m).2⟩, es.mono (fun _ _ h => h) (fun _ z => .inl z) (fun _ _ _ h => h) (fun _ _ _ h => h), .cons (.fz (Tr.freeze (fun _ z => .inl z) _ _ _ t fun _ m => .inr m)) (e2.mono (fun _ _ h => h) (fun _ z => .inl z) (fun _ _ _ h => h) (fun _ _ _ h => h)), nd2.2.1, fun a m => ?_, fun p b q => ⟨(pu p b q).1, ?_, fun m => (pu p b q).2.2 (pm.mem_iff.mpr (List.mem_append_right _ m))⟩, fun a z => ?_, fun a z => z.elim (dj a) fun m q => nz a (pm.mem_iff.mpr (List.mem_append_left _ m)) (.inr q), fun j i' π u e' ev' => ?_⟩
    · rintro ((z | z) | z)
      · exact nz a (pm.mem_iff.mpr (List.mem_append_right _ m)) (.inl z)
      · exact nd2.2.2 a z a m rfl
      · exact nz a (pm.mem_iff.mpr (List.mem_append_right _ m)) (.inr z)
    · rintro ((z | z) | z)
      · exact (pu p b q).2.1 (.inl z)
      · exact (pu p b q).2.2 (pm.mem_iff.mpr (List.mem_append_left _ z))
      · exact (pu p b q).2.1 (.inr z)
    · rcases z with (z | z) | z
      · exact ex a (.inl z)
      rotate_left
      · exact ex a (.inr z)
      · obtain ⟨xs, q⟩ := Tr.dom _ _ _ t a z
        exact ⟨_, q⟩
    · cases j with
      | zero => simp at e'
      | succ j => exact al (j + 1) i' π u (by simpa using e') (by simpa using ev')
def hoq (l : Bool) (vs : List V) : HO := if l then .lst vs else .tup vs
def dq (l : Bool) (ds : List D) : D := if l then .list ds else .tuple ds
theorem Tr.seq {S : List Addr} {l : Bool} {ds : List D} (t : Tr H Z S v (dq l ds)) : ∃ a vs T, v = .ref a ∧ H a = some (hoq l vs) ∧ Trs H Z T vs ds ∧ ∀ x ∈ T, x ∈ S := by
  cases l with
  | true =>
    cases t with
    | lst e t => exact ⟨_, _, _, rfl, e, t, fun x m => List.mem_cons_of_mem _ m⟩
    | lstZ z e t => exact ⟨_, _, _, rfl, e, t, fun x m => m⟩
  | false =>
    cases t with
    | tup e t => exact ⟨_, _, _, rfl, e, t, fun x m => m⟩
/-- what an item of it is -/
def subS (s : Sl) (k : Nat) (d : D) : Sl := match s with
  | .ow true _ => own d
  | .al i π => if nolist d then .fz d else .al i (π ++ [k])
  | _ => .fz d
/-- an item of the top -/
theorem Rel.item {l : Bool} {ds : List D} (h : Rel C ⟨sl, s :: tm, n⟩ (v :: Θ) σ H) (lk : look sl s = some (dq l ds)) : ∃ a vs, v = .ref a ∧ H a = some (hoq l vs) ∧ vs.length = ds.length ∧
    ∀ k d w, ds[k]? = some d → vs[k]? = some w → Rel C ⟨sl, subS s k d :: tm, n⟩ (w :: Θ) σ H := by
  -- as a whole
  have whole : ∃ a vs, v = .ref a ∧ H a = some (hoq l vs) ∧ vs.length = ds.length := by
    obtain ⟨Z, S1, S2, h⟩ := h
    obtain ⟨T, t, _⟩ := h.trAt (k := 0) rfl rfl lk
    obtain ⟨a, vs, T', rfl, e, ts, _⟩ := t.seq
    exact ⟨a, vs, rfl, e, ts.length⟩
  obtain ⟨a, vs, rfl, e, el⟩ := whole
  have eqv : ∀ us, H a = some (hoq l us) → us = vs := fun us q => by
    rw [e] at q
    cases l with
    | true => cases q; rfl
    | false => cases q; rfl
  refine ⟨a, vs, rfl, e, el, fun k x w hx hw => ?_⟩
  have hz : ∀ {b : Bool} {d' : D}, Rel C ⟨sl, .fz d' :: tm, n⟩ (.ref a :: Θ) σ H → d' = dq l ds → Rel C ⟨sl, .fz x :: tm, n⟩ (w :: Θ) σ H := fun {b d'} h ed => by
    subst ed
    obtain ⟨Z, S1, S2, h⟩ := h
    obtain ⟨fr, es, et, nd, nz, pu, ex, dj, al⟩ := h
    dsimp only at es et al pu
    cases et with
    | cons e1 e2 =>
      cases e1 with
      | fz t =>
        obtain ⟨a', us, T', ea, e', ts, sub⟩ := t.seq
        cases ea
        obtain rfl := eqv us e'
        obtain ⟨T1, R1, t1, pm⟩ := ts.get hx hw
        have e0 : T1 = [] := by
          cases T1 with
          | nil => rfl
          | cons y ys => exact nomatch sub y (pm.mem_iff.mpr (by simp))
        subst e0
        exact ⟨Z, S1, _, fr, es, .cons (S := []) (.fz t1) e2, nd, nz, pu, ex, dj, fun j i' π u e' ev' => by
          cases j with
          | zero => simp at e'
          | succ j => exact al (j + 1) i' π u (by simpa using e') (by simpa using ev')⟩
  cases s with
  | jk => cases lk
  | dc m => cases lk
  | dt m => cases lk
  | sh m => cases lk
  | xv _ _ m => cases lk
  | ho _ _ => cases lk
  | xw _ _ => cases lk
  | ob _ _ _ => cases lk
  | io d' => cases lk
  | pu => cases lk
  | fz d' =>
    cases lk
    exact hz (b := true) h rfl
  | ow b d' =>
    cases lk
    cases b with
    | false => exact hz (b := true) h.frzT rfl
    | true =>
      obtain ⟨Z, S1, S2, h⟩ := h
      obtain ⟨fr, es, et, nd, nz, pu, ex, dj, al⟩ := h
      dsimp only at es et al pu
      cases et with
      | @cons T S2 _ _ _ _ e1 e2 =>
        cases e1 with
        | ow t =>
          obtain ⟨a', us, T', ea, e', ts, sub⟩ := t.seq
          cases ea
          obtain rfl := eqv us e'
          obtain ⟨T1, R1, t1, pm⟩ := ts.get hx hw
          show Rel C ⟨sl, own x :: tm, n⟩ (w :: Θ) σ H
          have h0 : RelX C Z S1 S2 ⟨sl, tm, n⟩ Θ σ H := by
            have p2 : (S1 ++ (T ++ S2)).Perm (T ++ (S1 ++ S2)) := by
              rw [← List.append_assoc, ← List.append_assoc]
              exact List.Perm.append_right S2 List.perm_append_comm
            exact ⟨fr, es, e2, (List.nodup_append.mp (p2.nodup_iff.mp nd)).2.1, fun a m => nz a (p2.mem_iff.mpr (List.mem_append_right _ m)), fun p b q => ⟨(pu p b q).1, (pu p b q).2.1, fun m => (pu p b q).2.2 (p2.mem_iff.mpr (List.mem_append_right _ m))⟩, ex, dj, fun k j π u e ev => al (k + 1) j π u (by simpa using e) (by simpa using ev)⟩
          unfold own
          by_cases hn : nolist x = true
          · rw [if_pos hn]
            exact Rel.push ⟨Z, S1, S2, h0⟩ fun Z => (Tr.nolist x T1 w t1 hn).2
          · rw [if_neg hn]
            have ndT : T.Nodup := (List.nodup_append.mp (List.nodup_append.mp nd).2.1).1
            have sub1 : ∀ y ∈ T1, y ∈ T := fun y m => sub y (pm.mem_iff.mpr (List.mem_append_left _ m))
            have disj : ∀ y ∈ T, y ∉ S1 ++ S2 := fun y m z => by
              rcases List.mem_append.mp z with z | z
              · exact (List.nodup_append.mp nd).2.2 y z y (List.mem_append_left _ m) rfl
              · exact (List.nodup_append.mp (List.nodup_append.mp nd).2.1).2.2 y m y z rfl
            have nd1 : T1.Nodup := by
              cases l with
              | true =>
                cases t with
                | lst g1 g2 =>
                  rw [e'] at g1
                  cases g1
                  obtain ⟨T2, R2, t2, pm2⟩ := g2.get hx hw
                  have := (List.nodup_append.mp (pm2.nodup_iff.mp (List.nodup_cons.mp ndT).2)).1
                  have uq : T1 = T2 := repU _ _ _ _ (Tr.repO _ _ _ t1) (Tr.repO _ _ _ t2)
                  rw [uq]
                  exact this
                | lstZ z _ _ => exact z.elim
              | false =>
                cases t with
                | tup g1 g2 =>
                  rw [e'] at g1
                  cases g1
                  obtain ⟨T2, R2, t2, pm2⟩ := g2.get hx hw
                  have := (List.nodup_append.mp (pm2.nodup_iff.mp ndT)).1
                  have uq : T1 = T2 := repU _ _ _ _ (Tr.repO _ _ _ t1) (Tr.repO _ _ _ t2)
                  rw [uq]
                  exact this
            exact ⟨Z, S1, _, h0.pushE (Z' := Z) (.ow t1) nd1 (fun y m => ⟨disj y (sub1 y m), nz y (List.mem_append_right _ (List.mem_append_left _ (sub1 y m))), fun p b q z => (pu p b q).2.2 (z ▸ List.mem_append_right _ (List.mem_append_left _ (sub1 y m)))⟩) (fun i π z => nomatch z)⟩
  | al j π =>
    show Rel C ⟨sl, (if nolist x then .fz x else .al j (π ++ [k])) :: tm, n⟩ (w :: Θ) σ H
    by_cases hn : nolist x = true
    · rw [if_pos hn]
      have : ∃ T Z', Tr H Z' T w x := by
        obtain ⟨Z, S1, S2, h⟩ := h
        obtain ⟨T, t, _⟩ := h.trAt (k := 0) rfl rfl lk
        obtain ⟨a', us, T', ea, e', ts, _⟩ := t.seq
        cases ea
        obtain rfl := eqv us e'
        obtain ⟨T1, R1, t1, pm⟩ := ts.get hx hw
        exact ⟨_, _, t1⟩
      obtain ⟨T, Z', t⟩ := this
      exact h.pop.push fun Z => (Tr.nolist x T w t hn).2
    · rw [if_neg hn]
      obtain ⟨Z, S1, S2, h⟩ := h
      obtain ⟨fr, es, et, nd, nz, pu, ex, dj, al⟩ := h
      dsimp only at es et al pu
      cases et with
      | cons e1 e2 =>
        cases e1
        refine ⟨Z, S1, _, fr, es, .cons (S := []) (.al w j _) e2, nd, nz, pu, ex, dj, fun m j' π' u e' ev' => ?_⟩
        cases m with
        | succ m => exact al (m + 1) j' π' u (by simpa using e') (by simpa using ev')
        | zero =>
          simp at e' ev'
          obtain ⟨rfl, rfl⟩ := e'
          subst ev'
          obtain ⟨s, d', e1, w', g1, g2, g3, g4, wk⟩ := al 0 j π (.ref a) rfl rfl
          change sl[j]? = some s at g1
          have ee : e1 = dq l ds := by
            simp only [look, g1, g2, g3, Option.bind_some, Option.some.injEq] at lk
            exact lk
          subst ee
          refine ⟨s, d', x, w', g1, g2, atP_snoc π d' _ ds k x g3 ?_ hx, g4, wk.snoc rfl ?_ hw⟩
          · cases l with
            | true => exact .inl rfl
            | false => exact .inr (.inl rfl)
          · cases l with
            | true => exact .inl e
            | false => exact .inr e
end
structure Fl (C : Cn) (Z : Reg) (S1 S2 : List Addr) (H : Hp) (A : List Addr) : Prop where
  nd : (A ++ (S1 ++ S2)).Nodup
  ok : ∀ a ∈ A, ¬ C.tz Z a ∧ (∀ p b, C.pu = some (p, b) → a ≠ p) ∧ ∃ o, H a = some o
abbrev rgn (b : Bool) (Z : Reg) : Reg := if b then noReg else Z
theorem nodup_cnt {l : List Addr} : l.Nodup ↔ ∀ a, l.count a ≤ 1 := List.nodup_iff_count
section
variable {C : Cn} {Z : Reg} {S1 S2 A : List Addr} {γ : VSt} {Θ : List V} {σ : L2.St} {H H' : Hp} {sl tm : List Sl} {n n' : Int} {v : V} {s : Sl} {d : D} {i : Nat}
theorem Ents.split {ss ts : List Sl} : ∀ {vs us : List (Option V)} {S : List Addr}, vs.length = ss.length → Ents C Z H S (vs ++ us) (ss ++ ts) → ∃ A B, S = A ++ B ∧ Ents C Z H A vs ss ∧ Ents C Z H B us ts := by
  induction ss with
  | nil =>
    intro vs us S e h
    match vs, e with
    | [], _ => exact ⟨[], S, rfl, .nil, h⟩
  | cons s ss ih =>
    intro vs us S e h
    match vs, e with
    | v :: vs, e =>
      cases h with
      | cons h1 h2 =>
        obtain ⟨A, B, rfl, a, b⟩ := ih (by simpa using e) h2
        exact ⟨_, B, (List.append_assoc ..).symm, .cons h1 a, b⟩
theorem Ents.append {ss ts : List Sl} : ∀ {vs us : List (Option V)} {S T : List Addr}, Ents C Z H S vs ss → Ents C Z H T us ts → Ents C Z H (S ++ T) (vs ++ us) (ss ++ ts) := by
  induction ss with
  | nil =>
    intro vs us S T h k
    cases h
    exact k
  | cons s ss ih =>
    intro vs us S T h k
    cases h with
    | cons h1 h2 =>
      have := Ents.cons h1 (ih h2 k)
      rw [← List.append_assoc] at this
      exact this
theorem Ents.rev {ss : List Sl} : ∀ {vs : List (Option V)} {S : List Addr}, Ents C Z H S vs ss → ∃ S', S'.Perm S ∧ Ents C Z H S' vs.reverse ss.reverse := by
  induction ss with
  | nil =>
    intro vs S h
    cases h
    exact ⟨_, .refl _, .nil⟩
  | cons s ss ih =>
    intro vs S h
    cases h with
    | @cons A B _ _ _ _ h1 h2 =>
      obtain ⟨S', p, q⟩ := ih h2
      have := Ents.append q (.cons h1 .nil)
      rw [List.append_nil] at this
      rw [List.reverse_cons, List.reverse_cons]
      exact ⟨_, List.perm_append_comm.trans (List.Perm.append_left A p), this⟩
theorem RelX.popF {ss : List Sl} {us : List V} (h : RelX C Z S1 S2 ⟨sl, ss ++ tm, n⟩ (us ++ Θ) σ H) (el : us.length = ss.length) : ∃ A B, Ents C Z H A (us.map some) ss ∧ RelX C Z S1 B ⟨sl, tm, n⟩ Θ σ H ∧ Fl C Z S1 B H A := by
  obtain ⟨fr, es, et, nd, nz, pu, ex, dj, al⟩ := h
  dsimp only at es et al pu
  rw [List.map_append] at et
  obtain ⟨A, B, rfl, e1, e2⟩ := et.split (by rw [List.length_map, el])
  have pm : (S1 ++ (A ++ B)).Perm (A ++ (S1 ++ B)) := by
    rw [← List.append_assoc, ← List.append_assoc]
    exact List.Perm.append_right B List.perm_append_comm
  have nd2 := pm.nodup_iff.mp nd
  refine ⟨A, B, e1, ⟨fr, es, e2, (List.nodup_append.mp nd2).2.1, fun a m => nz a (pm.mem_iff.mpr (List.mem_append_right _ m)), fun p b q => ⟨(pu p b q).1, (pu p b q).2.1, fun m => (pu p b q).2.2 (pm.mem_iff.mpr (List.mem_append_right _ m))⟩, ex, dj, fun k j π u e ev => al (ss.length + k) j π u ?_ ?_⟩, nd2, fun a m => ⟨nz a (pm.mem_iff.mpr (List.mem_append_left _ m)), fun p b q z => (pu p b q).2.2 (z ▸ pm.mem_iff.mpr (List.mem_append_left _ m)), e1.dom a m⟩⟩
  · rw [List.getElem?_append_right (by omega)]
    simpa using e
  · rw [List.getElem?_append_right (by omega)]
    simpa [el] using ev
theorem RelX.pushF {A' Dr : List Addr} (h : RelX C Z S1 S2 ⟨sl, tm, n⟩ Θ σ H) (f : Fl C Z S1 S2 H A) (pm : A.Perm (A' ++ Dr)) (en : Ent C Z H A' (some v) s) (na : ∀ i π, s ≠ .al i π) : RelX C Z S1 (A' ++ S2) ⟨sl, s :: tm, n⟩ (v :: Θ) σ H := by
  have sub : ∀ a ∈ A', a ∈ A := fun a m => pm.mem_iff.mpr (List.mem_append_left _ m)
  refine h.pushE (Z' := Z) en (List.nodup_append.mp (pm.nodup_iff.mp (List.nodup_append.mp f.nd).1)).1 (fun a m => ⟨fun z => (List.nodup_append.mp f.nd).2.2 a (sub a m) a z rfl, (f.ok a (sub a m)).1, (f.ok a (sub a m)).2.1⟩) na
theorem RelX.growF (h : RelX C Z S1 S2 γ Θ σ H) (f : Fl C Z S1 S2 H A) : RelX C (fun a => Z a ∨ a ∈ A) S1 S2 γ Θ σ H := by
  refine ⟨fun a o e m => ⟨(h.fr a o e m).1.imp .inl id, (h.fr a o e m).2⟩, h.es.mono (fun _ _ h => h) (fun _ z => .inl z) (fun _ _ _ h => h) (fun _ _ _ h => h), h.et.mono (fun _ _ h => h) (fun _ z => .inl z) (fun _ _ _ h => h) (fun _ _ _ h => h), h.nd, fun a m => ?_, fun p b q => ⟨(h.pu p b q).1, ?_, (h.pu p b q).2.2⟩, fun a z => ?_, fun a z => z.elim (h.dj a) fun m q => (f.ok a m).1 (.inr q), h.al⟩
  · rintro ((z | z) | z)
    · exact h.nz a m (.inl z)
    · exact (List.nodup_append.mp f.nd).2.2 a z a m rfl
    · exact h.nz a m (.inr z)
  · rintro ((z | z) | z)
    · exact (h.pu p b q).2.1 (.inl z)
    · exact (f.ok p z).2.1 p b q rfl
    · exact (h.pu p b q).2.1 (.inr z)
  · rcases z with (z | z) | z
    · exact h.ex a (.inl z)
    rotate_left
    · exact h.ex a (.inr z)
    · obtain ⟨xs, e⟩ := (f.ok a z).2.2
      exact ⟨_, e⟩
/-- what items give -/
def con : Sl → Option (Bool × D)
  | .fz d => some (nolist d, d)
  | .ow b d => some (b, d)
  | _ => none
def cont : List Sl → Option (Bool × List D)
  | [] => some (true, [])
  | s :: ss => (con s).bind fun x => (cont ss).bind fun y => some (x.1 && y.1, x.2 :: y.2)
theorem Ent.con {S : List Addr} {b : Bool} (h : Ent C Z H S (some v) s) (e : con s = some (b, d)) : Tr H (rgn b Z) S v d := by
  have up : ∀ {S d}, Tr H noReg S v d → Tr H (rgn b Z) S v d := fun {S d} t => Tr.mono (fun _ _ h => h) (fun _ z => z.elim) (fun _ z => z.elim) _ _ _ t fun _ _ _ h => h
  cases h with
  | jk v => cases e
  | fz t =>
    simp only [G.con, Option.some.injEq, Prod.mk.injEq] at e
    obtain ⟨e1, rfl⟩ := e
    cases b with
    | true => exact (Tr.nolist _ _ _ t e1).2
    | false => exact t
  | ow t =>
    simp only [G.con, Option.some.injEq, Prod.mk.injEq] at e
    obtain ⟨e1, rfl⟩ := e
    exact up t
  | sp h1 t =>
    simp only [G.con, Option.some.injEq, Prod.mk.injEq] at e
    obtain ⟨rfl, rfl⟩ := e
    exact .lst h1 t
  | al v i π => cases e
  | pu e' => cases e
  | io t e' => cases e
  | dc _ _ => cases e
  | dt _ _ => cases e
  | sh _ _ => cases e
  | xv _ _ => cases e
  | ho _ _ _ => cases e
  | xw _ => cases e
  | ob _ _ _ => cases e
theorem rgn_mono {b b' : Bool} (h : b' = true → b = true) : ∀ a, rgn b Z a → rgn b' Z a := fun a z => by
  cases b with
  | true => exact z.elim
  | false =>
    cases b' with
    | true => exact absurd (h rfl) (by simp)
    | false => exact z
theorem Tr.weak {Z' : Reg} {S : List Addr} (t : Tr H Z S v d) (h : ∀ a, Z a → Z' a) : Tr H Z' S v d := Tr.mono (fun _ _ h => h) h (fun _ _ _ h => h) _ _ _ t fun _ _ _ h => h
theorem Trs.weak {Z' : Reg} {S : List Addr} {vs : List V} {ds : List D} (t : Trs H Z S vs ds) (h : ∀ a, Z a → Z' a) : Trs H Z' S vs ds := Trs.mono (fun _ _ h => h) h (fun _ _ _ h => h) _ _ _ t fun _ _ _ h => h
theorem Ents.cont : ∀ {ss : List Sl} {vs : List V} {S : List Addr} {b : Bool} {ds : List D}, Ents C Z H S (vs.map some) ss → cont ss = some (b, ds) → Trs H (rgn b Z) S vs ds
  | [], [], _, b, ds, h, e => by
    cases h
    simp only [G.cont, Option.some.injEq, Prod.mk.injEq] at e
    obtain ⟨rfl, rfl⟩ := e
    exact .nil
  | [], v :: vs, _, b, ds, h, e => by cases h
  | s :: ss, [], _, b, ds, h, e => by cases h
  | s :: ss, v :: vs, _, b, ds, h, e => by
    cases h with
    | cons h1 h2 =>
      simp only [G.cont] at e
      cases q1 : con s with
      | none => rw [q1] at e; cases e
      | some x =>
        cases q2 : G.cont ss with
        | none => rw [q1, q2] at e; cases e
        | some y =>
          rw [q1, q2] at e
          simp only [Option.bind_some, Option.some.injEq, Prod.mk.injEq] at e
          obtain ⟨rfl, rfl⟩ := e
          have t1 := h1.con (b := x.1) (d := x.2) q1
          have t2 := Ents.cont (b := y.1) (ds := y.2) h2 q2
          refine .cons (t1.weak (rgn_mono fun z => ?_)) (t2.weak (rgn_mono fun z => ?_))
          · rw [Bool.and_eq_true] at z
            exact z.1
          · rw [Bool.and_eq_true] at z
            exact z.2
/-- a new container -/
def mkS (l b : Bool) (ds : List D) : Sl := if b then own (dq l ds) else if l then .ow false (.list ds) else .fz (.tuple ds)
theorem Tr.mk {l : Bool} {S : List Addr} {vs : List V} {ds : List D} {p : Addr} (e : H p = some (hoq l vs)) (t : Trs H Z S vs ds) : Tr H Z (if l then p :: S else S) (.ref p) (dq l ds) := by
  cases l with
  | true => exact .lst e t
  | false => exact .tup e t
theorem Rel.cont {ss : List Sl} {vs : List V} {b l : Bool} {ds : List D} {p : Addr} (h : Rel C ⟨sl, ss.reverse ++ tm, n⟩ (vs.reverse ++ Θ) σ H) (el : vs.length = ss.length) (e : cont ss = some (b, ds)) (hp : H p = none) :
    Rel C ⟨sl, mkS l b ds :: tm, n⟩ (.ref p :: Θ) σ (upd H p (hoq l vs)) := by
  have h1 := h.same (same_upd (o := hoq l vs) hp)
  obtain ⟨Z0, A1, A2, h0⟩ := h
  -- p is new
  have newp : ∀ a, (∃ xs, H a = some xs) → a ≠ p := fun a ⟨o, z⟩ e => by rw [e, hp] at z; cases z
  obtain ⟨A0, B0, e0, r0, f0⟩ := h0.popF (by simp [el])
  have kz : ∀ a o, H a = some o → upd H p (hoq l vs) a = some o := same_upd hp
  have r1 : RelX C Z0 A1 B0 ⟨sl, tm, n⟩ Θ σ (upd H p (hoq l vs)) := by
    refine ⟨fun a o e m => ⟨(r0.fr a o e m).1, kz a o (r0.fr a o e m).2⟩, r0.es.mono (fun t vs e => kz t _ e) (fun _ z => z) (fun a _ o e => kz a o e) (fun a _ o e => kz a o e), r0.et.mono (fun t vs e => kz t _ e) (fun _ z => z) (fun a _ o e => kz a o e) (fun a _ o e => kz a o e), r0.nd, r0.nz, fun q b e => ⟨(r0.pu q b e).1.mono (kz q), (r0.pu q b e).2⟩, fun a z => ?_, r0.dj, fun k j π u e ev => ?_⟩
    · obtain ⟨o, e⟩ := r0.ex a z
      exact ⟨o, kz a o e⟩
    · obtain ⟨s, d', e', w, g1, g2, g3, g4, wk⟩ := r0.al k j π u e ev
      obtain ⟨w', T', ew, t, sub⟩ := r0.slot g1 g2
      rw [g4] at ew
      cases ew
      exact ⟨s, d', e', w, g1, g2, g3, g4, (Tr.part t g3 wk).2 _ (fun t vs e => kz t _ e) fun a _ o e => kz a o e⟩
  obtain ⟨A, pmA, e3⟩ := e0.rev
  rw [← List.map_reverse, List.reverse_reverse, List.reverse_reverse] at e3
  have f1 : Fl C Z0 A1 B0 (upd H p (hoq l vs)) A := ⟨(List.Perm.append_right _ pmA).nodup_iff.mpr f0.nd, fun a m => by
    obtain ⟨q1, q2, xs, q3⟩ := f0.ok a (pmA.mem_iff.mp m)
    exact ⟨q1, q2, xs, kz a _ q3⟩⟩
  have e4 : Ents C Z0 (upd H p (hoq l vs)) A (vs.map some) ss := e3.mono (fun t vs e => kz t _ e) (fun _ z => z) (fun a _ o e => kz a o e) (fun a _ o e => kz a o e)
  have t := e4.cont e
  have upS : upd H p (hoq l vs) p = some (hoq l vs) := upd_same
  -- the new list itself
  have f2 : ∀ xs, hoq l vs = .lst xs → Fl C Z0 A1 B0 (upd H p (hoq l vs)) (p :: A) := fun xs ex => by
    refine ⟨?_, fun a m => ?_⟩
    · rw [List.cons_append]
      refine List.nodup_cons.mpr ⟨fun m => ?_, f1.nd⟩
      rcases List.mem_append.mp m with m | m
      · obtain ⟨ys, q⟩ := (f0.ok p (pmA.mem_iff.mp m)).2.2
        rw [hp] at q
        cases q
      · rcases List.mem_append.mp m with m | m
        · obtain ⟨ys, q⟩ := r0.es.dom p m
          rw [hp] at q
          cases q
        · obtain ⟨ys, q⟩ := r0.et.dom p m
          rw [hp] at q
          cases q
    · rcases List.mem_cons.mp m with rfl | m
      · refine ⟨fun z => ?_, fun q b e z => ?_, _, upS⟩
        · obtain ⟨o, q⟩ := r0.ex a z
          rw [hp] at q
          cases q
        · subst z
          obtain ⟨x, y, z, e2, _⟩ := (r0.pu a b e).1
          rw [hp] at e2
          cases e2
      · exact f1.ok a m
  cases b with
  | true =>
    show Rel C ⟨sl, own (dq l ds) :: tm, n⟩ _ σ _
    unfold own
    by_cases hn : nolist (dq l ds) = true
    · rw [if_pos hn]
      refine Rel.push ⟨_, _, _, r1⟩ fun Z => ?_
      exact (Tr.nolist _ _ _ (Tr.mk upS t) hn).2
    · rw [if_neg hn]
      cases l with
      | true => exact ⟨_, _, _, r1.pushF (f2 _ rfl) (A' := p :: A) (Dr := []) (by simp) (.ow (Tr.mk (l := true) upS t)) (fun i π z => nomatch z)⟩
      | false => exact ⟨_, _, _, r1.pushF f1 (A' := A) (Dr := []) (by simp) (.ow (Tr.mk (l := false) upS t)) (fun i π z => nomatch z)⟩
  | false =>
    cases l with
    | true => exact ⟨_, _, _, r1.pushF (f2 _ rfl) (A' := p :: A) (Dr := []) (by simp) (.sp upS t) (fun i π z => nomatch z)⟩
    | false =>
      have g := r1.growF f1
      have t2 : Tr (upd H p (hoq false vs)) (fun a => Z0 a ∨ a ∈ A) [] (.ref p) (.tuple ds) := .tup upS (Trs.freeze (fun _ z => .inl z) _ _ _ t fun _ m => .inr m)
      exact ⟨_, _, _, g.pushE (Z' := fun _ => False) (.fz t2) List.nodup_nil (fun a m => nomatch m) (fun i π z => nomatch z)⟩
/-- a tuple's items, all at once -/
def itS : Sl → Option (List Sl)
  | .fz (.tuple ds) => some (ds.map .fz)
  | .ow true (.tuple ds) => some (ds.map own)
  | _ => none
theorem Trs.own : ∀ {ds : List D} {vs : List V} {S : List Addr}, Trs H noReg S vs ds → Ents C Z H S (vs.map some) (ds.map G.own)
  | [], _, _, h => by cases h; exact .nil
  | d :: ds, _, _, h => by
    cases h with
    | @cons S T v _ _ _ h1 h2 =>
      refine .cons ?_ (Trs.own h2)
      unfold G.own
      by_cases hn : G.nolist d = true
      · rw [if_pos hn]
        obtain ⟨rfl, t⟩ := Tr.nolist (Z' := Z) _ _ _ h1 hn
        exact .fz t
      · rw [if_neg hn]
        exact .ow h1
theorem Trs.fzs : ∀ {ds : List D} {vs : List V} {S : List Addr}, Trs H Z S vs ds → S = [] → Ents C Z H [] (vs.map some) (ds.map Sl.fz)
  | [], _, _, h, _ => by cases h; exact .nil
  | d :: ds, _, _, h, e => by
    cases h with
    | cons h1 h2 =>
      obtain ⟨rfl, rfl⟩ := List.append_eq_nil_iff.mp e
      exact .cons (S := []) (.fz h1) (Trs.fzs h2 rfl)
end
section
variable {C : Cn} {Z : Reg} {S1 S2 A : List Addr} {γ : VSt} {Θ : List V} {σ : L2.St} {H H' : Hp} {sl tm : List Sl} {n n' : Int} {v : V} {s : Sl} {d : D} {i : Nat}
/-- cells of two slots are apart -/
theorem Ents.apart : ∀ {ss : List Sl} {S : List Addr} {vs : List (Option V)} {i j : Nat} {si sj : Sl}, Ents C Z H S vs ss → ss[i]? = some si → ss[j]? = some sj → i ≠ j → S.Nodup → ∃ vi Ti vj Tj, vs[i]? = some vi ∧ vs[j]? = some vj ∧ Ent C Z H Ti vi si ∧ Ent C Z H Tj vj sj ∧ (∀ x ∈ Ti, x ∈ S ∧ x ∉ Tj) ∧ ∀ x ∈ Tj, x ∈ S
  | [], _, _, _, _, _, _, _, e, _, _, _ => by simp at e
  | s :: ss, _, _, 0, 0, _, _, _, _, _, ne, _ => absurd rfl ne
  | s :: ss, _, _, 0, j + 1, _, _, h, ei, ej, _, nd => by
    cases h with
    | @cons S T _ _ _ _ h1 h2 =>
      simp at ei ej
      subst ei
      obtain ⟨v, T1, R, e1, en, pm, _⟩ := h2.at ej
      exact ⟨_, _, v, T1, rfl, by simpa using e1, h1, en, fun x m => ⟨List.mem_append_left _ m, fun m' => (List.nodup_append.mp nd).2.2 x m x (pm.mem_iff.mpr (List.mem_append_left _ m')) rfl⟩, fun x m => List.mem_append_right _ (pm.mem_iff.mpr (List.mem_append_left _ m))⟩
  | s :: ss, _, _, i + 1, 0, _, _, h, ei, ej, _, nd => by
    cases h with
    | @cons S T _ _ _ _ h1 h2 =>
      simp at ei ej
      subst ej
      obtain ⟨v, T1, R, e1, en, pm, _⟩ := h2.at ei
      exact ⟨v, T1, _, _, by simpa using e1, rfl, en, h1, fun x m => ⟨List.mem_append_right _ (pm.mem_iff.mpr (List.mem_append_left _ m)), fun m' => (List.nodup_append.mp nd).2.2 x m' x (pm.mem_iff.mpr (List.mem_append_left _ m)) rfl⟩, fun x m => List.mem_append_left _ m⟩
  | s :: ss, _, _, i + 1, j + 1, _, _, h, ei, ej, ne, nd => by
    cases h with
    | @cons S T _ _ _ _ h1 h2 =>
      obtain ⟨vi, Ti, vj, Tj, a, b, c, d, e, f⟩ := Ents.apart (i := i) (j := j) h2 (by simpa using ei) (by simpa using ej) (by omega) (List.nodup_append.mp nd).2.1
      exact ⟨vi, Ti, vj, Tj, by simpa using a, by simpa using b, c, d, fun x m => ⟨List.mem_append_right _ (e x m).1, (e x m).2⟩, fun x m => List.mem_append_right _ (f x m)⟩
/-- what stands in a name behind a write -/
def reS (s : Sl) (b : Bool) (d : D) : Sl := match s with
  | .io _ => .io d
  | _ => .ow b d
/-- what is apart from a written cell stays -/
theorem Trs.upd {b : Bool} {a : Addr} {us : List V} {vs0 : List V} {vs : List V} {ds : List D} {T : List Addr} (t : Trs H (rgn b Z) T vs ds) (ha : H a = some (.lst vs0)) (nz : ¬ Z a) (nt : ∀ x ∈ T, x ≠ a) : Trs (upd H a (.lst us)) (rgn b Z) T vs ds := by
  refine Trs.mono (fun t xs et => ?_) (fun _ z => z) (fun x z o e => ?_) _ _ _ t fun x m o e => ?_
  · rw [upd_ne (show t ≠ a from fun z => by rw [z, ha] at et; cases et)]
    exact et
  · rw [upd_ne (show x ≠ a from fun q => ?_)]
    · exact e
    · subst q
      cases b with
      | true => exact z.elim
      | false => exact nz z
  · rw [upd_ne (nt x m)]
    exact e
theorem Tr.upd {b : Bool} {a : Addr} {us : List V} {vs0 : List V} {T : List Addr} (t : Tr H (rgn b Z) T v d) (ha : H a = some (.lst vs0)) (nz : ¬ Z a) (nt : ∀ x ∈ T, x ≠ a) : Tr (upd H a (.lst us)) (rgn b Z) T v d := by
  refine Tr.mono (fun t xs et => ?_) (fun _ z => z) (fun x z o e => ?_) _ _ _ t fun x m o e => ?_
  · rw [upd_ne (show t ≠ a from fun z => by rw [z, ha] at et; cases et)]
    exact et
  · rw [upd_ne (show x ≠ a from fun q => ?_)]
    · exact e
    · subst q
      cases b with
      | true => exact z.elim
      | false => exact nz z
  · rw [upd_ne (nt x m)]
    exact e
end
end G
namespace G
open PySem PySem.Spec PyProof.Rows L2
abbrev KE := VSt → (VSt → Prop) → Prop
abbrev KT := VSt → (Bool → VSt → Prop) → Prop
structure KEd where
  nx : VSt → Prop
  rt : Sl → VSt → Prop
  bk : VSt → Prop
  ct : VSt → Prop
abbrev KS := VSt → KEd → Prop
abbrev KO := VSt → (Option Int → VSt → Prop) → Prop
abbrev KG := VSt → (VSt → Prop) → Prop
/-- where errors go, and which may go there -/
structure XC (C : Cn) where
  E : L2.St → XK
  X : Addr → D → VSt → Prop
  ok : ∀ {c dd : Addr} {d : D} {γ : VSt} {Θ : List V} {σ : L2.St} {H : Hp}, X c d γ → Rel C ⟨γ.sl, .xv dd dd d :: γ.tm, γ.n⟩ (.ref dd :: Θ) σ H → E σ (.ref c) (some dd) H
/-- nothing is raised -/
def noXC (C : Cn) : XC C := ⟨fun _ => E0, fun _ _ _ => False, fun h _ => h.elim⟩
def SoE {C : Cn} (xc : XC C) (t : TE) (k : KE) : Prop := ∀ (γ : VSt) (Θ : List V) (σ : L2.St) (H : Hp) (Q : VK) (q : VSt → Prop), Rel C γ Θ σ H → k γ q → (∀ γ' v H', q γ' → Rel C γ' (v :: Θ) σ H' → Q v H') → t σ H Q
def SoT {C : Cn} (xc : XC C) (t : TT) (k : KT) : Prop := ∀ (γ : VSt) (Θ : List V) (σ : L2.St) (H : Hp) (Q : Bool → Hp → Prop) (q : Bool → VSt → Prop), Rel C γ Θ σ H → k γ q → (∀ b γ' H', q b γ' → Rel C γ' Θ σ H' → Q b H') → t σ H Q
def SoA {C : Cn} (xc : XC C) (n : Nat) (t : TA) (k : KE) : Prop := ∀ (γ : VSt) (Θ : List V) (σ : L2.St) (H : Hp) (Q : List V → Hp → Prop) (q : VSt → Prop), Rel C γ Θ σ H → k γ q → (∀ γ' vs H', vs.length = n → q γ' → Rel C γ' (vs.reverse ++ Θ) σ H' → Q vs H') → t σ H Q
/-- a target: the top is stored -/
def SoG {C : Cn} (xc : XC C) (t : TG) (k : KG) : Prop := ∀ (γ : VSt) (v : V) (Θ : List V) (σ : L2.St) (H : Hp) (Q : L2.St → Hp → Prop) (q : VSt → Prop), Rel C γ (v :: Θ) σ H → k γ q → (∀ γ' σ' H', q γ' → Rel C γ' Θ σ' H' → Q σ' H') → t v σ H Q
structure SoD (C : Cn) (Θ : List V) (e : KEd) (De : Ends) : Prop where
  nx : ∀ γ' σ' H', e.nx γ' → Rel C γ' Θ σ' H' → De.nx σ' H'
  rt : ∀ s γ' v Θ' σ' H', e.rt s γ' → Rel C ⟨γ'.sl, s :: γ'.tm, γ'.n⟩ (v :: Θ') σ' H' → De.rt v H'
  bk : ∀ γ' σ' H', e.bk γ' → Rel C γ' Θ σ' H' → De.bk σ' H'
  ct : ∀ γ' σ' H', e.ct γ' → Rel C γ' Θ σ' H' → De.ct σ' H'
def SoS {C : Cn} (xc : XC C) (t : TS) (k : KS) : Prop := ∀ (γ : VSt) (Θ : List V) (σ : L2.St) (H : Hp) (De : Ends) (e : KEd), Rel C γ Θ σ H → k γ e → SoD C Θ e De → t De σ H
variable {C : Cn} {xc : XC C}
/-- a value of data that holds no list: the same in every heap -/
def Sca (v : V) (d : D) : Prop := ∀ (H : Hp) (Z : Reg), Tr H Z [] v d
theorem sca_int (i : Int) : Sca (.int i) (.int i) := fun _ _ => .int i
theorem sca_bl (b : Bool) : Sca (.bl b) (.bool b) := fun _ _ => .bl b
theorem sca_str (x : Str) : Sca (.str x) (.str x) := fun _ _ => .str x
theorem sca_non : Sca .non .none := fun _ _ => .non
section
variable {t t1 t2 ta tb tc : TE} {k k1 k2 ka kb kc : KE} {n m : Nat}
def kC (d : D) : KE := fun γ q => q ⟨γ.sl, .fz d :: γ.tm, γ.n⟩
def kVar (i : Nat) : KE := fun γ q => match γ.sl[i]? with
  | some (.fz d) => q ⟨γ.sl, .fz d :: γ.tm, γ.n⟩
  | some (.ow _ _) => q ⟨γ.sl, .al i [] :: γ.tm, γ.n⟩
  | some (.io _) => q ⟨γ.sl, .al i [] :: γ.tm, γ.n⟩
  | some (.sh _) => q ⟨γ.sl, .al i [] :: γ.tm, γ.n⟩
  | some .pu => q ⟨γ.sl, .pu :: γ.tm, γ.n⟩
  | some (.dc _) => q ⟨γ.sl, .al i [] :: γ.tm, γ.n⟩
  | some (.ob _ _ _) => q ⟨γ.sl, .al i [] :: γ.tm, γ.n⟩
  | _ => False
/-- .. frozen from now on -/
def kFrz (i : Nat) : KE := fun γ q => match γ.sl[i]? with
  | some (.fz d) => q ⟨γ.sl, .fz d :: γ.tm, γ.n⟩
  | some (.ow _ d) => q ⟨γ.sl.set i (.fz d), .fz d :: γ.tm, γ.n⟩
  | some .pu => q ⟨γ.sl, .pu :: γ.tm, γ.n⟩
  | some (.dc m) => q ⟨γ.sl.set i (.fz (dictD m)), .fz (dictD m) :: γ.tm, γ.n⟩
  | _ => False
/-- .. for the last time -/
def kMov (i : Nat) : KE := fun γ q => match γ.sl[i]? with
  | some (.fz d) => q ⟨γ.sl, .fz d :: γ.tm, γ.n⟩
  | some (.ow b d) => noAl i γ.tm = true ∧ q ⟨γ.sl.set i .jk, .ow b d :: γ.tm, γ.n⟩
  | _ => False
theorem so_c {v : V} {d : D} (h : Sca v d) : SoE xc (tC v) (kC d) := fun γ Θ σ H Q q R hk w => w _ v H hk (R.push fun Z => h H Z)
theorem so_var {i : Nat} : SoE xc (tVar i) (kVar i) := fun γ Θ σ H Q q R hk w => by
  unfold kVar at hk
  obtain ⟨sl, tm, n⟩ := γ
  dsimp only at hk
  split at hk
  · rename_i d e
    obtain ⟨v, ev, R'⟩ := R.varF e
    exact ⟨v, ev, w _ v H hk R'⟩
  · rename_i b d e
    obtain ⟨v, ev, R'⟩ := R.varA e rfl
    exact ⟨v, ev, w _ v H hk R'⟩
  · rename_i d e
    obtain ⟨v, ev, R'⟩ := R.varA e rfl
    exact ⟨v, ev, w _ v H hk R'⟩
  · rename_i d e
    obtain ⟨v, ev, R'⟩ := R.varA e rfl
    exact ⟨v, ev, w _ v H hk R'⟩
  · rename_i e
    obtain ⟨p, b, _, ev, R'⟩ := R.varP e
    exact ⟨_, ev, w _ _ H hk R'⟩
  · rename_i m e
    obtain ⟨v, ev, R'⟩ := R.varA e rfl
    exact ⟨v, ev, w _ v H hk R'⟩
  · rename_i q0 C0 fs e
    obtain ⟨v, ev, R'⟩ := R.varA e rfl
    exact ⟨v, ev, w _ v H hk R'⟩
  · exact hk.elim
def kNil : KE := fun γ q => q γ
def kCons (ka kb : KE) : KE := fun γ q => ka γ fun γ1 => kb γ1 q
theorem so_nil : SoA xc 0 tNil kNil := fun γ Θ σ H Q q R hk w => w γ [] H rfl hk R
theorem so_cons {ts : TA} (h : SoE xc t k) (hs : SoA xc n ts kb) : SoA xc (n + 1) (tCons t ts) (kCons k kb) := fun γ Θ σ H Q q R hk w =>
  h γ Θ σ H _ _ R hk fun γ1 v H1 hk1 R1 => hs γ1 _ σ H1 _ _ R1 hk1 fun γ2 vs H2 el hq R2 => w γ2 (v :: vs) H2 (by simp [el]) hq (by simpa using R2)
/-- the data of the upper n -/
def datN (sl : List Sl) : Nat → List Sl → Option (List D × List Sl)
  | 0, tm => some ([], tm)
  | _ + 1, [] => none
  | n + 1, s :: tm => (look sl s).bind fun d => (datN sl n tm).bind fun x => some (x.1 ++ [d], x.2)
theorem Rel.pops {C : Cn} {sl : List Sl} {σ : L2.St} {H : Hp} {j : Int} : ∀ {n : Nat} {tm r : List Sl} {ds : List D} {vs Θ : List V}, Rel C ⟨sl, tm, j⟩ (vs.reverse ++ Θ) σ H → vs.length = n → datN sl n tm = some (ds, r) → Rel C ⟨sl, r, j⟩ Θ σ H ∧ ∃ T, Reps H T vs ds ∧ ∀ p b, C.pu = some (p, b) → p ∉ T
  | 0, tm, r, ds, vs, Θ, R, el, e => by
    simp only [datN, Option.some.injEq, Prod.mk.injEq] at e
    obtain ⟨rfl, rfl⟩ := e
    match vs, el with
    | [], _ => exact ⟨R, [], .nil, fun _ _ _ z => nomatch z⟩
  | n + 1, [], _, _, _, _, _, _, e => by cases e
  | n + 1, s :: tm, r, ds, vs, Θ, R, el, e => by
    simp only [datN] at e
    cases e1 : look sl s with
    | none => rw [e1] at e; cases e
    | some d =>
      cases e2 : datN sl n tm with
      | none => rw [e1, e2] at e; cases e
      | some x =>
        rw [e1, e2] at e
        simp only [Option.bind_some, Option.some.injEq, Prod.mk.injEq] at e
        obtain ⟨rfl, rfl⟩ := e
        have hne : vs ≠ [] := fun z => by rw [z] at el; cases el
        obtain ⟨us, v, rfl⟩ : ∃ us v, vs = us ++ [v] := ⟨_, _, (List.dropLast_concat_getLast hne).symm⟩
        rw [List.reverse_append] at R
        have R' : Rel C ⟨sl, s :: tm, j⟩ (v :: (us.reverse ++ Θ)) σ H := R
        obtain ⟨T1, r1, n1⟩ := R'.read e1
        have := Rel.pops (n := n) (ds := x.1) (r := x.2) (vs := us) R'.pop (by simpa using el) e2
        obtain ⟨R2, T2, r2, n2⟩ := this
        exact ⟨R2, T2 ++ (T1 ++ []), r2.append (.cons r1 .nil), fun p b q z => by
          rcases List.mem_append.mp z with z | z
          · exact n2 p b q z
          · exact n1 p b q (by simpa using z)⟩
def SoR (r : R2) (f : D → D → (D → Prop) → Prop) : Prop := ∀ (H : Hp) (v1 v2 : V) (T1 T2 : List Addr) (d1 d2 : D) (Q : VK) (q : D → Prop), Rep H T1 v1 d1 → Rep H T2 v2 d2 → f d1 d2 q → (∀ v d, Sca v d → q d → Q v H) → r v1 v2 H Q
def kOp (f : D → D → (D → Prop) → Prop) (ka kb : KE) : KE := fun γ q => ka γ fun γ1 => kb γ1 fun γ2 => (datN γ2.sl 2 γ2.tm).elim False fun x => f (x.1.getD 0 .none) (x.1.getD 1 .none) fun d => q ⟨γ2.sl, .fz d :: x.2, γ2.n⟩
theorem elimF {α : Type} {o : Option α} {f : α → Prop} (h : o.elim False f) : ∃ x, o = some x ∧ f x := by
  cases o with
  | none => exact h.elim
  | some x => exact ⟨x, rfl, h⟩
theorem Reps.inv2 {H : Hp} {S : List Addr} {v1 v2 : V} {ds : List D} (r : Reps H S [v1, v2] ds) : ∃ d1 d2 T1 T2, ds = [d1, d2] ∧ Rep H T1 v1 d1 ∧ Rep H T2 v2 d2 := by
  cases r with
  | cons r1 r =>
    cases r with
    | cons r2 r =>
      cases r
      exact ⟨_, _, _, _, rfl, r1, r2⟩
theorem Reps.inv1 {H : Hp} {S : List Addr} {v1 : V} {ds : List D} (r : Reps H S [v1] ds) : ∃ d1 T1, ds = [d1] ∧ Rep H T1 v1 d1 := by
  cases r with
  | cons r1 r =>
    cases r
    exact ⟨_, _, rfl, r1⟩
theorem so_op {r : R2} {f : D → D → (D → Prop) → Prop} (hr : SoR r f) (ha : SoE xc ta ka) (hb : SoE xc tb kb) : SoE xc (tOp r ta tb) (kOp f ka kb) := fun γ Θ σ H Q q R hk w =>
  ha γ Θ σ H _ _ R hk fun γ1 v1 H1 hk1 R1 => hb γ1 _ σ H1 _ _ R1 hk1 fun γ2 v2 H2 hk2 R2 => by
    obtain ⟨⟨ds, rr⟩, e, hf⟩ := elimF hk2
    obtain ⟨R3, T, rp, _⟩ := Rel.pops (vs := [v1, v2]) (Θ := Θ) R2 rfl e
    obtain ⟨d1, d2, T1, T2, rfl, r1, r2⟩ := rp.inv2
    exact hr H2 v1 v2 T1 T2 d1 d2 _ _ r1 r2 hf fun v d sc hq => w _ v H2 hq (R3.push fun Z => sc H2 Z)
def vI (C : Int → Int → Prop) (g : Int → Int → Int) : D → D → (D → Prop) → Prop := fun d1 d2 q => match d1, d2 with
  | .int i, .int j => C i j ∧ q (.int (g i j))
  | _, _ => False
def vB (g : Int → Int → Bool) : D → D → (D → Prop) → Prop := fun d1 d2 q => match d1, d2 with
  | .int i, .int j => q (.bool (g i j))
  | _, _ => False
def noC : Int → Int → Prop := fun _ _ => True
theorem sr_I {Cc : Int → Int → Prop} {g : Int → Int → Int} : SoR (rI Cc fun i j => .int (g i j)) (vI Cc g) := fun H v1 v2 T1 T2 d1 d2 Q q r1 r2 hf w => by
  unfold vI at hf
  split at hf
  · cases r1
    cases r2
    exact ⟨_, _, rfl, rfl, hf.1, w _ _ (sca_int _) hf.2⟩
  · exact hf.elim
theorem sr_I0 {g : Int → Int → Int} : SoR (rI0 fun i j => .int (g i j)) (vI noC g) := fun H v1 v2 T1 T2 d1 d2 Q q r1 r2 hf w => by
  unfold vI at hf
  split at hf
  · cases r1
    cases r2
    exact ⟨_, _, rfl, rfl, w _ _ (sca_int _) hf.2⟩
  · exact hf.elim
/-- == of scalars -/
def vEq (neg : Bool) : D → D → (D → Prop) → Prop := fun d1 d2 q => match d1, d2 with
  | .int i, .int j => q (.bool (neg ^^ decide (i = j)))
  | .str x, .str y => q (.bool (neg ^^ decide (x = y)))
  | .bool x, .bool y => q (.bool (neg ^^ decide (x = y)))
  | .none, .none => q (.bool (neg ^^ true))
  | .none, .int _ => q (.bool (neg ^^ false))
  | .int _, .none => q (.bool (neg ^^ false))
  | _, _ => False
theorem sr_eq : SoR rEq (vEq false) := fun H v1 v2 T1 T2 d1 d2 Q q r1 r2 hf w => by
  unfold vEq at hf
  split at hf <;> (try exact hf.elim) <;> cases r1 <;> cases r2 <;> refine ⟨rfl, ?_⟩
  · rw [dec_eq_int]; exact w _ _ (sca_bl _) (by simpa using hf)
  · rename_i x y
    have e : decide (V.str x = V.str y) = decide (x = y) := by simp
    rw [e]; exact w _ _ (sca_bl _) (by simpa using hf)
  · rename_i x y
    have e : decide (V.bl x = V.bl y) = decide (x = y) := by simp
    rw [e]; exact w _ _ (sca_bl _) (by simpa using hf)
  · exact w _ _ (sca_bl _) (by simpa using hf)
  · exact w _ _ (sca_bl _) (by simpa using hf)
  · exact w _ _ (sca_bl _) (by simpa using hf)
/-- == of data -/
def vEqD (neg : Bool) : D → D → (D → Prop) → Prop := fun d1 d2 q => SeqAt.shaped d1 = true ∧ SeqAt.shaped d2 = true ∧ q (.bool (neg ^^ PyData.eqv d1 d2))
def vIsN (neg : Bool) : D → D → (D → Prop) → Prop := fun d1 d2 q => match d2 with
  | .none => q (.bool (match d1 with | .none => !neg | _ => neg))
  | _ => False
/-- in a list or a tuple of flat things -/
def flatD : D → Bool
  | .none => true
  | .bool _ => true
  | .int _ => true
  | .str _ => true
  | _ => false
def vOf : D → V
  | .bool b => .bl b
  | .int i => .int i
  | .str x => .str x
  | _ => .non
def vIn (neg : Bool) : D → D → (D → Prop) → Prop := fun d1 d2 q => match d2 with
  | .list ds => flatD d1 = true ∧ ds.all flatD = true ∧ q (.bool (neg ^^ inV (vOf d1) (ds.map vOf)))
  | .tuple ds => flatD d1 = true ∧ ds.all flatD = true ∧ q (.bool (neg ^^ inV (vOf d1) (ds.map vOf)))
  | _ => False
def kChain (f g : D → D → (D → Prop) → Prop) (ka kb kc : KE) : KE := fun γ q => ka γ fun γ1 => kb γ1 fun γ2 => (datN γ2.sl 2 γ2.tm).elim False fun x => f (x.1.getD 0 .none) (x.1.getD 1 .none) fun d => match d with
  | .bool true => kc γ2 fun γ3 => (datN γ3.sl 3 γ3.tm).elim False fun y => g (y.1.getD 1 .none) (y.1.getD 2 .none) fun d => q ⟨γ3.sl, .fz d :: y.2, γ3.n⟩
  | .bool false => q ⟨γ2.sl, .fz (.bool false) :: x.2, γ2.n⟩
  | _ => False
def kUn (f : D → (D → Prop) → Prop) (ka : KE) : KE := fun γ q => ka γ fun γ1 => (datN γ1.sl 1 γ1.tm).elim False fun x => f (x.1.getD 0 .none) fun d => q ⟨γ1.sl, .fz d :: x.2, γ1.n⟩
def vNeg : D → (D → Prop) → Prop := fun d q => match d with | .int i => q (.int (-i)) | _ => False
/-- calls whose value holds no list -/
def SoC (n : Nat) (r : List V → Hp → VK → Prop) (f : List D → (D → Prop) → Prop) : Prop := ∀ (H : Hp) (vs : List V) (T : List Addr) (ds : List D) (Q : VK) (q : D → Prop), Reps H T vs ds → vs.length = n → f ds q → (∀ v d, Sca v d → q d → Q v H) → r vs H Q
def kF (n : Nat) (f : List D → (D → Prop) → Prop) (ka : KE) : KE := fun γ q => ka γ fun γ1 => (datN γ1.sl n γ1.tm).elim False fun x => f x.1 fun d => q ⟨γ1.sl, .fz d :: x.2, γ1.n⟩
theorem so_f {r : List V → Hp → VK → Prop} {f : List D → (D → Prop) → Prop} {ts : TA} (hr : SoC n r f) (ha : SoA xc n ts ka) : SoE xc (tCB r ts) (kF n f ka) := fun γ Θ σ H Q q R hk w =>
  ha γ Θ σ H _ _ R hk fun γ1 vs H1 el hk1 R1 => by
    obtain ⟨⟨ds, rr⟩, e, hf⟩ := elimF hk1
    obtain ⟨R3, T, rp, _⟩ := Rel.pops (Θ := Θ) R1 el e
    exact hr H1 vs T ds _ _ rp el hf fun v d sc hq => w _ v H1 hq (R3.push fun Z => sc H1 Z)
theorem Reps.c1 {H : Hp} {vs : List V} {T : List Addr} {d : D} (r : Reps H T vs [d]) : ∃ v T', vs = [v] ∧ Rep H T' v d := by
  cases r with
  | cons r1 r => cases r; exact ⟨_, _, rfl, r1⟩
def vLen : List D → (D → Prop) → Prop := fun ds q => match ds with
  | [.list es] => q (.int es.length)
  | [.tuple es] => q (.int es.length)
  | _ => False
def v2I (g : Int → Int → Int) : List D → (D → Prop) → Prop := fun ds q => match ds with
  | [.int i, .int j] => q (.int (g i j))
  | _ => False
def v1I (g : Int → Int) : List D → (D → Prop) → Prop := fun ds q => match ds with
  | [.int i] => q (.int (g i))
  | _ => False
def vInt : List D → (D → Prop) → Prop := fun ds q => match ds with
  | [.int i] => q (.int i)
  | [.bool b] => q (.int (if b then 1 else 0))
  | _ => False
def v3I (g : Int → Int → Int → Int) : List D → (D → Prop) → Prop := fun ds q => match ds with
  | [.int i, .int j, .int k] => q (.int (g i j k))
  | _ => False
/-- ints out of data -/
def intsOf : List D → Option (List Int)
  | [] => some []
  | .int i :: ds => (intsOf ds).bind fun r => some (i :: r)
  | _ :: _ => none
theorem intsOf_map (ns : List Int) : intsOf (ns.map PyData.int) = some ns := by
  induction ns with
  | nil => rfl
  | cons n ns ih => simp [intsOf, ih]
def boolsOf : List D → Option (List Bool)
  | [] => some []
  | .bool i :: ds => (boolsOf ds).bind fun r => some (i :: r)
  | _ :: _ => none
theorem boolsOf_map (ns : List Bool) : boolsOf (ns.map PyData.bool) = some ns := by
  induction ns with
  | nil => rfl
  | cons n ns ih => simp [boolsOf, ih]
def vAll (g : List Bool → Bool) : List D → (D → Prop) → Prop := fun ds q => match ds with
  | [.list es] => (boolsOf es).elim False fun bs => q (.bool (g bs))
  | _ => False
def vSum : List D → (D → Prop) → Prop := fun ds q => match ds with
  | [.list es] => (intsOf es).elim False fun ns => q (.int ns.sum)
  | _ => False
def vRepr : List D → (D → Prop) → Prop := fun ds q => match ds with
  | [d] => d.showable = true ∧ d.depth ≤ 60 ∧ wd d ≤ 10000000 ∧ q (.str d.shown)
  | _ => False
end
end G
namespace G
open PySem PySem.Spec PyProof.Rows L2
variable {C : Cn} {xc : XC C}
section
variable {t t1 t2 ta tb tc : TE} {k k1 k2 ka kb kc : KE} {n m : Nat} {c1 c2 : TT} {h1 h2 : KT} {K : PySem.W.Frag}
def kTest (ke : KE) : KT := fun γ q => ke γ fun γ1 => (datN γ1.sl 1 γ1.tm).elim False fun x => match x.1.getD 0 .none with
  | .bool b => q b ⟨γ1.sl, x.2, γ1.n⟩
  | _ => False
theorem so_test (h : SoE xc t k) : SoT xc (tTest t) (kTest k) := fun γ Θ σ H Q q R hk w => h γ Θ σ H _ _ R hk fun γ1 v H1 hk1 R1 => by
  obtain ⟨⟨ds, rr⟩, e, hf⟩ := elimF hk1
  obtain ⟨R3, T, rp, _⟩ := Rel.pops (vs := [v]) (Θ := Θ) R1 rfl e
  obtain ⟨d1, T1, rfl, r1⟩ := rp.inv1
  dsimp only [List.getD_cons_zero] at hf
  split at hf
  · rename_i b eb
    have eb' : d1 = .bool b := eb
    subst eb'
    cases r1
    exact ⟨b, rfl, w _ _ H1 hf R3⟩
  · exact hf.elim
def kTAnd (a b : KT) : KT := fun γ q => a γ fun c γ1 => if c = true then b γ1 q else q false γ1
def kTOr (a b : KT) : KT := fun γ q => a γ fun c γ1 => if c = true then q true γ1 else b γ1 q
def kTNot (a : KT) : KT := fun γ q => a γ fun c γ1 => q (!c) γ1
def kYes : KT := fun γ q => q true γ
theorem so_yes : SoT xc tYes kYes := fun γ Θ σ H Q q R hk w => w _ _ H hk R
def popB (γ : VSt) (f : Bool → VSt → Prop) : Prop := (datN γ.sl 1 γ.tm).elim False fun x => match x.1.getD 0 .none with
  | .bool b => f b ⟨γ.sl, x.2, γ.n⟩
  | _ => False
def pushB (γ : VSt) (b : Bool) : VSt := ⟨γ.sl, .fz (.bool b) :: γ.tm, γ.n⟩
theorem Rel.pushB {C : Cn} {γ : VSt} {Θ : List V} {σ : L2.St} {H : Hp} (R : Rel C γ Θ σ H) (b : Bool) : Rel C (G.pushB γ b) (.bl b :: Θ) σ H := by
  obtain ⟨sl, tm, n⟩ := γ
  exact R.push fun Z => .bl b
def kAndV (ka kb : KE) : KE := fun γ q => ka γ fun γ1 => popB γ1 fun b γ2 => if b = true then kb γ2 q else q (pushB γ2 false)
def kOrV (ka kb : KE) : KE := fun γ q => ka γ fun γ1 => popB γ1 fun b γ2 => if b = true then q (pushB γ2 true) else kb γ2 q
def kNotV (ka : KE) : KE := fun γ q => ka γ fun γ1 => popB γ1 fun b γ2 => q (pushB γ2 (!b))
def kIf (c : KT) (ka kb : KE) : KE := fun γ q => c γ fun b γ1 => if b = true then ka γ1 q else kb γ1 q
def popC : Nat → List Sl → Option ((Bool × List D) × List Sl)
  | 0, tm => some ((true, []), tm)
  | _ + 1, [] => none
  | n + 1, s :: tm => (con s).bind fun c => (popC n tm).bind fun x => some ((x.1.1 && c.1, x.1.2 ++ [c.2]), x.2)
theorem cont_snoc {s : Sl} : ∀ ss : List Sl, cont (ss ++ [s]) = (cont ss).bind fun y => (con s).bind fun x => some (y.1 && x.1, y.2 ++ [x.2])
  | [] => by
    simp only [List.nil_append, cont, Option.bind_some]
    cases con s <;> simp
  | r :: ss => by
    simp only [List.cons_append, cont, cont_snoc ss]
    cases con r with
    | none => rfl
    | some x =>
      cases cont ss with
      | none => rfl
      | some y =>
        cases con s with
        | none => rfl
        | some z => simp [Bool.and_assoc]
theorem popC_ok : ∀ {n : Nat} {tm r : List Sl} {b : Bool} {ds : List D}, popC n tm = some ((b, ds), r) → ∃ ss, tm = ss.reverse ++ r ∧ ss.length = n ∧ cont ss = some (b, ds)
  | 0, tm, r, b, ds, h => by
    simp only [popC, Option.some.injEq, Prod.mk.injEq] at h
    obtain ⟨⟨rfl, rfl⟩, rfl⟩ := h
    exact ⟨[], rfl, rfl, rfl⟩
  | n + 1, [], _, _, _, h => by cases h
  | n + 1, s :: tm, r, b, ds, h => by
    simp only [popC] at h
    cases e1 : con s with
    | none => rw [e1] at h; cases h
    | some c =>
      cases e2 : popC n tm with
      | none => rw [e1, e2] at h; cases h
      | some x =>
        rw [e1, e2] at h
        simp only [Option.bind_some, Option.some.injEq, Prod.mk.injEq] at h
        obtain ⟨⟨rfl, rfl⟩, rfl⟩ := h
        obtain ⟨ss, e3, e4, e5⟩ := popC_ok (b := x.1.1) (ds := x.1.2) (r := x.2) e2
        refine ⟨ss ++ [s], by rw [e3]; simp, by simp [e4], ?_⟩
        rw [cont_snoc, e5, e1]
        rfl
def kMk (l : Bool) (n : Nat) (ka : KE) : KE := fun γ q => ka γ fun γ1 => (popC n γ1.tm).elim False fun x => q ⟨γ1.sl, mkS l x.1.1 x.1.2 :: x.2, γ1.n⟩
theorem mk_core {C : Cn} {γ : VSt} {Θ : List V} {σ : L2.St} {H : Hp} {vs : List V} {l : Bool} {q : VSt → Prop} (R : Rel C γ (vs.reverse ++ Θ) σ H) (el : vs.length = n) (h : (popC n γ.tm).elim False fun x => q ⟨γ.sl, mkS l x.1.1 x.1.2 :: x.2, γ.n⟩) :
    ∀ p, H p = none → ∃ γ', q γ' ∧ Rel C γ' (.ref p :: Θ) σ (upd H p (hoq l vs)) := fun p hp => by
  obtain ⟨⟨⟨b, ds⟩, r⟩, e, hq⟩ := elimF h
  obtain ⟨ss, e1, e2, e3⟩ := popC_ok e
  obtain ⟨sl, tm, j⟩ := γ
  dsimp only at e1 hq
  subst e1
  exact ⟨_, hq, R.cont (by omega) e3 hp⟩
theorem so_lst {ts : TA} (h : SoA xc n ts ka) (hn : n ≤ 10000000 := by decide) : SoE xc (tLst ts) (kMk true n ka) := fun γ Θ σ H Q q R hk w => h γ Θ σ H _ _ R hk fun γ1 vs H1 el hk1 R1 =>
  ⟨szle (by omega), fun p hp => by
    obtain ⟨γ', hq, R2⟩ := mk_core R1 el hk1 p hp
    exact w γ' _ _ hq R2⟩
theorem so_tup {ts : TA} (h : SoA xc n ts ka) (hn : n ≤ 10000000 := by decide) : SoE xc (tTup ts) (kMk false n ka) := fun γ Θ σ H Q q R hk w => h γ Θ σ H _ _ R hk fun γ1 vs H1 el hk1 R1 =>
  ⟨szle (by omega), fun p hp => by
    obtain ⟨γ', hq, R2⟩ := mk_core R1 el hk1 p hp
    exact w γ' _ _ hq R2⟩
def ixD (ds : List D) (i : Int) (f : Nat → D → Prop) : Prop := (ixN ds.length i).elim False fun k => (ds[k]?).elim False (f k)
def seqD (l : Bool) : D → Option (List D)
  | .list ds => if l then some ds else none
  | .tuple ds => if l then none else some ds
  | _ => none
theorem seqD_eq {l : Bool} {d : D} {ds : List D} (h : seqD l d = some ds) : d = dq l ds := by
  cases d <;> cases l <;> simp [seqD] at h <;> subst h <;> rfl
def kIx (l : Bool) (ka kb : KE) : KE := fun γ q => ka γ fun γ1 => kb γ1 fun γ2 => match γ2.tm with
  | .fz (.int i) :: s :: tm => ((look γ2.sl s).bind (seqD l)).elim False fun ds => ixD ds i fun k d => q ⟨γ2.sl, subS s k d :: tm, γ2.n⟩
  | _ => False
theorem ix_core {C : Cn} {γ : VSt} {Θ : List V} {σ : L2.St} {H : Hp} {v u : V} {l : Bool} {q : VSt → Prop} (R : Rel C γ (u :: v :: Θ) σ H) (h : match γ.tm with
  | .fz (.int i) :: s :: tm => ((look γ.sl s).bind (seqD l)).elim False fun ds => ixD ds i fun k d => q ⟨γ.sl, subS s k d :: tm, γ.n⟩
  | _ => False) : ∃ p xs i w γ', v = .ref p ∧ u = .int i ∧ H p = some (hoq l xs) ∧ atI xs i = some w ∧ q γ' ∧ Rel C γ' (w :: Θ) σ H := by
  obtain ⟨sl, tm, j⟩ := γ
  dsimp only at h
  split at h
  · rename_i i s tm'
    obtain ⟨ds, e, hd⟩ := elimF h
    obtain ⟨d0, e1, e2⟩ := Option.bind_eq_some_iff.mp e
    have e3 := seqD_eq e2
    subst e3
    obtain ⟨T, r, _⟩ := R.read (d := .int i) rfl
    cases r
    obtain ⟨p, xs, rfl, hp, el, k⟩ := R.pop.item e1
    unfold ixD at hd
    obtain ⟨kk, e4, hd⟩ := elimF hd
    obtain ⟨d, e5, hd⟩ := elimF hd
    have hlt : kk < xs.length := by
      have := (List.getElem?_eq_some_iff.mp e5).1
      omega
    have e6 : xs[kk]? = some xs[kk] := List.getElem?_eq_getElem hlt
    refine ⟨p, xs, i, xs[kk], _, rfl, rfl, hp, ?_, hd, k kk d _ e5 e6⟩
    unfold atI
    rw [el, e4]
    exact e6
  · exact h.elim
theorem so_ixL (a : SoE xc ta ka) (b : SoE xc tb kb) : SoE xc (tOp (rIxL K) ta tb) (kIx true ka kb) := fun γ Θ σ H Q q R hk w => a γ Θ σ H _ _ R hk fun γ1 v1 H1 hk1 R1 => b γ1 _ σ H1 _ _ R1 hk1 fun γ2 v2 H2 hk2 R2 => by
  obtain ⟨p, xs, i, z, γ', rfl, rfl, hp, ha, hq, R3⟩ := ix_core R2 hk2
  exact ⟨p, xs, i, z, rfl, rfl, SqL.of hp, ha, w γ' z H2 hq R3⟩
theorem Trs.take {H : Hp} {Z : Reg} : ∀ {vs : List V} {ds : List D} {S : List Addr}, Trs H Z S vs ds → S = [] → ∀ n, Trs H Z [] (vs.take n) (ds.take n)
  | [], [], _, h, _, n => by simpa using Trs.nil
  | [], _ :: _, _, h, _, n => by cases h
  | _ :: _, [], _, h, _, n => by cases h
  | v :: vs, d :: ds, _, h, e, 0 => .nil
  | v :: vs, d :: ds, _, h, e, n + 1 => by
    cases h with
    | cons h1 h2 =>
      obtain ⟨rfl, rfl⟩ := List.append_eq_nil_iff.mp e
      exact .cons (S := []) h1 (Trs.take h2 rfl n)
theorem Trs.drop {H : Hp} {Z : Reg} : ∀ {vs : List V} {ds : List D} {S : List Addr}, Trs H Z S vs ds → S = [] → ∀ n, Trs H Z [] (vs.drop n) (ds.drop n)
  | [], [], _, h, _, n => by simpa using Trs.nil
  | [], _ :: _, _, h, _, n => by cases h
  | _ :: _, [], _, h, _, n => by cases h
  | v :: vs, d :: ds, _, h, e, 0 => by subst e; exact h
  | v :: vs, d :: ds, _, h, e, n + 1 => by
    cases h with
    | cons h1 h2 =>
      obtain ⟨rfl, rfl⟩ := List.append_eq_nil_iff.mp e
      exact Trs.drop h2 rfl n
def newL (ds : List D) : Sl := .ow (nolists ds) (.list ds)
theorem Rel.newL {C : Cn} {Z : Reg} {S1 S2 : List Addr} {sl tm : List Sl} {j : Int} {Θ : List V} {σ : L2.St} {H : Hp} {us : List V} {es : List D} {p : Addr} (h : RelX C Z S1 S2 ⟨sl, tm, j⟩ Θ σ H) (t : Trs H Z [] us es) (hp : H p = none) :
    Rel C ⟨sl, G.newL es :: tm, j⟩ (.ref p :: Θ) σ (upd H p (.lst us)) := by
  have sm := same_upd (o := .lst us) hp
  have h1 : RelX C Z S1 S2 ⟨sl, tm, j⟩ Θ σ (upd H p (.lst us)) := by
    refine ⟨fun a o e m => ⟨(h.fr a o e m).1, sm a o (h.fr a o e m).2⟩, h.es.mono (fun t vs e => sm t _ e) (fun _ z => z) (fun a _ o e => sm a o e) (fun a _ o e => sm a o e), h.et.mono (fun t vs e => sm t _ e) (fun _ z => z) (fun a _ o e => sm a o e) (fun a _ o e => sm a o e), h.nd, h.nz, fun q b e => ⟨(h.pu q b e).1.mono (sm q), (h.pu q b e).2⟩, fun a z => ?_, h.dj, fun k j π u e ev => ?_⟩
    · obtain ⟨o, e⟩ := h.ex a z
      exact ⟨o, sm a o e⟩
    · obtain ⟨s, d', e', w, g1, g2, g3, g4, wk⟩ := h.al k j π u e ev
      obtain ⟨w', T', ew, t, sub⟩ := h.slot g1 g2
      rw [g4] at ew
      cases ew
      exact ⟨s, d', e', w, g1, g2, g3, g4, (Tr.part t g3 wk).2 _ (fun t vs e => sm t _ e) fun a _ o e => sm a o e⟩
  have f : Fl C Z S1 S2 (upd H p (.lst us)) [p] := by
    refine ⟨?_, fun a m => ?_⟩
    · show (p :: (S1 ++ S2)).Nodup
      refine List.nodup_cons.mpr ⟨fun m => ?_, h.nd⟩
      rcases List.mem_append.mp m with m | m
      · obtain ⟨ys, q⟩ := h.es.dom p m
        rw [hp] at q
        cases q
      · obtain ⟨ys, q⟩ := h.et.dom p m
        rw [hp] at q
        cases q
    · simp only [List.mem_singleton] at m
      subst m
      refine ⟨fun z => ?_, fun q b e z => ?_, _, upd_same⟩
      · obtain ⟨o, q⟩ := h.ex a z
        rw [hp] at q
        cases q
      · subst z
        obtain ⟨x, y, z, e2, _⟩ := (h.pu a b e).1
        rw [hp] at e2
        cases e2
  have t' : Trs (upd H p (.lst us)) Z [] us es := Trs.mono (fun t vs e => sm t _ e) (fun _ z => z) (fun a _ o e => sm a o e) _ _ _ t fun a m => nomatch m
  unfold G.newL
  cases hn : nolists es with
  | true => exact ⟨_, _, _, h1.pushF f (A' := [p]) (Dr := []) (by simp) (.ow (.lst (S := []) upd_same (Trs.nolist _ _ _ t' hn).2)) (fun i π z => nomatch z)⟩
  | false => exact ⟨_, _, _, h1.pushF f (A' := [p]) (Dr := []) (by simp) (.sp upd_same t') (fun i π z => nomatch z)⟩
/-- the items of the top, shared -/
def shr (sl : List Sl) (s : Sl) (l : Bool) : Option (List D) := ((look sl s).bind (seqD l)).bind fun ds => match s with
  | .al _ _ => if nolists ds then some ds else none
  | _ => some ds
theorem Rel.shr {C : Cn} {sl tm : List Sl} {s : Sl} {j : Int} {v : V} {Θ : List V} {σ : L2.St} {H : Hp} {l : Bool} {ds : List D} (R : Rel C ⟨sl, s :: tm, j⟩ (v :: Θ) σ H) (e : G.shr sl s l = some ds) :
    ∃ a vs Z S1 S2, v = .ref a ∧ H a = some (hoq l vs) ∧ RelX C Z S1 S2 ⟨sl, tm, j⟩ Θ σ H ∧ Trs H Z [] vs ds := by
  unfold G.shr at e
  obtain ⟨ds', e1, e2⟩ := Option.bind_eq_some_iff.mp e
  obtain ⟨d0, e3, e4⟩ := Option.bind_eq_some_iff.mp e1
  have e5 := seqD_eq e4
  subst e5
  obtain ⟨a, vs, rfl, ha, el, _⟩ := R.item e3
  have eqv : ∀ us, H a = some (hoq l us) → us = vs := fun us q => by
    rw [ha] at q
    cases l with
    | true => cases q; rfl
    | false => cases q; rfl
  -- frozen
  have frz : ∀ {d}, Rel C ⟨sl, .fz d :: tm, j⟩ (.ref a :: Θ) σ H → d = dq l ds' → ds' = ds → ∃ b us Z S1 S2, V.ref a = .ref b ∧ H b = some (hoq l us) ∧ RelX C Z S1 S2 ⟨sl, tm, j⟩ Θ σ H ∧ Trs H Z [] us ds := fun {d} R ed eds => by
    subst ed
    subst eds
    obtain ⟨Z, S1, S2, h⟩ := R
    obtain ⟨A, B, es, r, f⟩ := RelX.popF (ss := [.fz (dq l ds')]) (us := [.ref a]) h rfl
    cases es with
    | cons e1 e2 =>
      cases e1 with
      | fz t =>
        obtain ⟨a', us, T, ea, ha', ts, sub⟩ := t.seq
        cases ea
        have eT : T = [] := by
          cases T with
          | nil => rfl
          | cons y ys => exact nomatch sub y (by simp)
        subst eT
        exact ⟨a, us, Z, S1, B, rfl, ha', r, ts⟩
  cases s with
  | jk => cases e3
  | dc m => cases e3
  | dt m => cases e3
  | sh m => cases e3
  | xv _ _ m => cases e3
  | ho _ _ => cases e3
  | xw _ _ => cases e3
  | ob _ _ _ => cases e3
  | io d => cases e3
  | pu => cases e3
  | fz d =>
    cases e3
    exact frz R rfl (by simpa using e2)
  | ow b d =>
    cases e3
    exact frz R.frzT rfl (by simpa using e2)
  | al i π =>
    dsimp only at e2
    by_cases hn : nolists ds' = true
    · rw [if_pos hn] at e2
      cases e2
      obtain ⟨Z, S1, S2, h⟩ := R
      obtain ⟨T, t, _⟩ := h.trAt (k := 0) rfl rfl e3
      obtain ⟨a', us, T', ea, ha', ts, _⟩ := t.seq
      cases ea
      obtain ⟨A, B, es, r, f⟩ := RelX.popF (ss := [.al i π]) (us := [.ref a]) h rfl
      exact ⟨a, us, Z, S1, B, rfl, ha', r, (Trs.nolist _ _ _ ts hn).2⟩
    · rw [if_neg hn] at e2
      cases e2
/-- list(xs), list(t) -/
def kListOf (ka : KE) : KE := fun γ q => ka γ fun γ1 => match γ1.tm with
  | s :: tm => ((shr γ1.sl s true).orElse fun _ => shr γ1.sl s false).elim False fun ds => q ⟨γ1.sl, newL ds :: tm, γ1.n⟩
  | _ => False
/-- slices -/
def kNo : KO := fun γ q => q none γ
def popI (γ : VSt) (f : Int → VSt → Prop) : Prop := match γ.tm with
  | .fz (.int i) :: tm => f i ⟨γ.sl, tm, γ.n⟩
  | _ => False
theorem popI_ok {C : Cn} {γ : VSt} {Θ : List V} {σ : L2.St} {H : Hp} {v : V} {f : Int → VSt → Prop} (R : Rel C γ (v :: Θ) σ H) (h : popI γ f) : ∃ i γ', v = .int i ∧ f i γ' ∧ Rel C γ' Θ σ H := by
  unfold popI at h
  obtain ⟨sl, tm, j⟩ := γ
  dsimp only at h
  split at h
  · rename_i i tm'
    obtain ⟨T, r, _⟩ := R.read (d := .int i) rfl
    cases r
    exact ⟨i, _, rfl, h, R.pop⟩
  · exact h.elim
def kPart (k : KE) : KO := fun γ q => k γ fun γ1 => popI γ1 fun i γ2 => q (some i) γ2
def cutD (ds : List D) (lo hi : Option Int) : List D := (ds.drop (HT.sIx ds.length 0 lo)).take (HT.sIx ds.length ds.length hi - HT.sIx ds.length 0 lo)
def kSl (ka : KE) (lo hi : KO) : KE := fun γ q => ka γ fun γ1 => lo γ1 fun a γ2 => hi γ2 fun b γ3 => match γ3.tm with
  | s :: tm => (shr γ3.sl s true).elim False fun ds => q ⟨γ3.sl, newL (cutD ds a b) :: tm, γ3.n⟩
  | _ => False
/-- xs + ys -/
def kCat (ka kb : KE) : KE := fun γ q => ka γ fun γ1 => kb γ1 fun γ2 => match γ2.tm with
  | s2 :: s1 :: tm => (shr γ2.sl s1 true).elim False fun ds => (shr γ2.sl s2 true).elim False fun es => ds.length + es.length ≤ 10000000 ∧ q ⟨γ2.sl, newL (ds ++ es) :: tm, γ2.n⟩
  | _ => False
theorem RelX.shr {C : Cn} {Z : Reg} {S1 S2 : List Addr} {sl tm : List Sl} {s : Sl} {j : Int} {v : V} {Θ : List V} {σ : L2.St} {H : Hp} {l : Bool} {ds : List D} (h : RelX C Z S1 S2 ⟨sl, s :: tm, j⟩ (v :: Θ) σ H) (e : G.shr sl s l = some ds) :
    ∃ a vs Z' S2', v = .ref a ∧ H a = some (hoq l vs) ∧ RelX C Z' S1 S2' ⟨sl, tm, j⟩ Θ σ H ∧ Trs H Z' [] vs ds ∧ ∀ a, Z a → Z' a := by
  unfold G.shr at e
  obtain ⟨ds', e1, e2⟩ := Option.bind_eq_some_iff.mp e
  obtain ⟨d0, e3, e4⟩ := Option.bind_eq_some_iff.mp e1
  have e5 := seqD_eq e4
  subst e5
  obtain ⟨A, B, es, r, f⟩ := RelX.popF (ss := [s]) (us := [v]) h rfl
  obtain ⟨T0, en, rfl⟩ : ∃ T0, Ent C Z H T0 (some v) s ∧ A = T0 := by
    cases es with
    | cons e1 e2 =>
      cases e2
      exact ⟨_, e1, by simp⟩
  have go : datS s = some (dq l ds') → ds' = ds → ∃ a vs Z' S2', v = .ref a ∧ H a = some (hoq l vs) ∧ RelX C Z' S1 S2' ⟨sl, tm, j⟩ Θ σ H ∧ Trs H Z' [] vs ds ∧ ∀ a, Z a → Z' a := fun q eds => by
    subst eds
    obtain ⟨w, Tw, ew, t, sbw⟩ := en.tr q
    cases ew
    have g := r.growF f
    have t2 : Tr H (fun a => Z a ∨ a ∈ A) [] v (dq l ds') := Tr.freeze (fun _ z => .inl z) _ _ _ t fun a m => .inr (sbw a m)
    obtain ⟨a, us, T, rfl, ha, ts, sub⟩ := t2.seq
    have eT : T = [] := by
      cases T with
      | nil => rfl
      | cons y ys => exact nomatch sub y (by simp)
    subst eT
    exact ⟨a, us, _, B, rfl, ha, g, ts, fun a z => .inl z⟩
  cases s with
  | jk => cases e3
  | dc m => cases e3
  | dt m => cases e3
  | sh m => cases e3
  | xv _ _ m => cases e3
  | ho _ _ => cases e3
  | xw _ _ => cases e3
  | ob _ _ _ => cases e3
  | io d => cases e3
  | pu => cases e3
  | fz d =>
    cases e3
    exact go rfl (by simpa using e2)
  | ow b d =>
    cases e3
    exact go rfl (by simpa using e2)
  | al i π =>
    dsimp only at e2
    by_cases hn : nolists ds' = true
    · rw [if_pos hn] at e2
      cases e2
      obtain ⟨T, t, _⟩ := h.trAt (k := 0) rfl rfl e3
      obtain ⟨a, us, T', rfl, ha', ts, _⟩ := t.seq
      exact ⟨a, us, Z, B, rfl, ha', r, (Trs.nolist _ _ _ ts hn).2, fun _ z => z⟩
    · rw [if_neg hn] at e2
      cases e2
theorem nolists_ints (ns : List Int) : nolists (ns.map PyData.int) = true := by
  induction ns with
  | nil => rfl
  | cons n ns ih => simp [nolists, nolist, ih]
/-- list(range(..)) -/
theorem Rel.ints {C : Cn} {sl tm : List Sl} {j : Int} {Θ : List V} {σ : L2.St} {H : Hp} {p : Addr} (R : Rel C ⟨sl, tm, j⟩ Θ σ H) (hp : H p = none) (ns : List Int) : Rel C ⟨sl, .ow true (dI ns) :: tm, j⟩ (.ref p :: Θ) σ (upd H p (.lst (ns.map V.int))) := by
  obtain ⟨Z, S1, S2, X⟩ := R
  have := Rel.newL X (Trs.intsR (Z := Z) ns) hp
  unfold G.newL at this
  rw [nolists_ints] at this
  exact this
def kRg2 (ka kb : KE) : VSt → (Int → Int → VSt → Prop) → Prop := fun γ q => ka γ fun γ1 => kb γ1 fun γ2 => popI γ2 fun j γ3 => popI γ3 fun i γ4 => q i j γ4
def kRg1 (ka : KE) : VSt → (Int → Int → VSt → Prop) → Prop := fun γ q => ka γ fun γ1 => popI γ1 fun j γ2 => q 0 j γ2
def kListRg (r : VSt → (Int → Int → VSt → Prop) → Prop) : KE := fun γ q => r γ fun i j γ1 => (-1000000000000 ≤ i ∧ i ≤ 1000000000000 ∧ -1000000000000 ≤ j ∧ j ≤ 1000000000000 ∧ j - i ≤ 10000000) ∧ q ⟨γ1.sl, .ow true (dI (rg i j)) :: γ1.tm, γ1.n⟩
def kCallT (W : Tw) (n : Nat) (ka : KE) : KE := fun γ q => ka γ fun γ1 => (datN γ1.sl n γ1.tm).elim False fun x => W x.1 fun d => q ⟨γ1.sl, own d :: x.2, γ1.n⟩
def kCallTK (W : Tw) (ix : List Nat) (n : Nat) (ka : KE) : KE := fun γ q => ka γ fun γ1 => (datN γ1.sl n γ1.tm).elim False fun x => W (ix.filterMap fun i => x.1[i]?) fun d => q ⟨γ1.sl, own d :: x.2, γ1.n⟩
def kCallP (c : Int) (W : Tw) (n : Nat) (ka : KE) : KE := fun γ q => ka γ fun γ1 => (datN γ1.sl n γ1.tm).elim False fun x => match x.2 with
  | .pu :: r => (0 ≤ c ∧ c ≤ γ1.n) ∧ W x.1 fun d => q ⟨γ1.sl, own d :: r, γ1.n - c⟩
  | _ => False
theorem so_callP {c : Int} {W : Tw} {ts : TA} (h : SoA xc (n + 1) ts ka) : SoE xc (tCall (spP c W) [] E0 ts) (kCallP c W n ka) := fun γ Θ σ H Q q R hk w => h γ Θ σ H _ _ R hk fun γ1 vs H1 el hk1 R1 => by
  obtain ⟨⟨ds, rr⟩, e, hf⟩ := elimF hk1
  match vs, el with
  | v :: vs, el =>
    rw [List.reverse_cons, List.append_assoc] at R1
    obtain ⟨R3, T, rp, np⟩ := Rel.pops (Θ := [v] ++ Θ) R1 (by simpa using el) e
    dsimp only at hf
    split at hf
    · rename_i r
      obtain ⟨⟨c0, c1⟩, hw⟩ := hf
      have R4 : Rel C ⟨γ1.sl, .pu :: r, γ1.n⟩ (v :: Θ) σ H1 := R3
      have pv : ∃ p b, C.pu = some (p, b) ∧ v = .ref p := by
        obtain ⟨Z, S1, S2, X⟩ := R4
        obtain ⟨A, B, es, r, f⟩ := RelX.popF (ss := [.pu]) (us := [v]) X rfl
        cases es with
        | cons e1 e2 =>
          cases e1 with
          | pu q => exact ⟨_, _, q, rfl⟩
      obtain ⟨p, b, epu, rfl⟩ := pv
      have R5 := R4.pop
      have pu : PuAt H1 p (b - γ1.n) := by
        obtain ⟨Z, S1, S2, X⟩ := R5
        exact (X.pu p b epu).1
      have bok := C.ok p b epu
      rw [List.append_nil]
      refine ⟨p, b - γ1.n, vs, T, ds, _, rfl, pu, by omega, rp, np p b epu, hw, fun d v H' hq fr kp nw => ?_⟩
      obtain ⟨S, rd, nd, f⟩ := nw
      refine w _ v H' hq (R5.new (n' := γ1.n - c) (fun a o e ne => fr a o e (ne p b epu)) (fun p' b' e' => ?_) ⟨S, Rep.tr _ _ _ rd, nd, f⟩)
      rw [epu] at e'
      cases e'
      have : b - γ1.n + c = b - (γ1.n - c) := by omega
      rw [← this]
      exact kp
    · exact hf.elim
def isLst (γ : VSt) : Prop := match γ.tm with
  | s :: _ => ((look γ.sl s).bind (seqD true)).elim False fun _ => True
  | _ => False
/-- a method that only reads -/
def kM (n : Nat) (f : List D → (D → Prop) → Prop) (ko ka : KE) : KE := fun γ q => ko γ fun γ1 => isLst γ1 ∧ ka γ1 fun γ2 => (datN γ2.sl (n + 1) γ2.tm).elim False fun x => f x.1 fun d => q ⟨γ2.sl, .fz d :: x.2, γ2.n⟩
def vCnt : List D → (D → Prop) → Prop := fun ds q => match ds with
  | [.list es, .int k] => (intsOf es).elim False fun ns => q (.int (ns.count k : Nat))
  | _ => False
def vIdx : List D → (D → Prop) → Prop := fun ds q => match ds with
  | [.list es, .int k] => (intsOf es).elim False fun ns => k ∈ ns ∧ q (.int (ns.idxOf k : Nat))
  | _ => False
end
end G
namespace G
open PySem PySem.Spec PyProof.Rows L2
variable {C : Cn} {xc : XC C}
section
variable {t t1 t2 ta tb tc : TE} {k k1 k2 ka kb kc ko : KE} {n m : Nat} {c1 c2 : TT} {h1 h2 : KT} {K : PySem.W.Frag}
def wrL (sl : List Sl) (i : Nat) (π : List Nat) (f : Bool → D → List D → Prop) : Prop := match sl[i]? with
  | some (.ow b d) => (atP d π).elim False fun e => match e with
    | .list es => f b d es
    | _ => False
  | some (.io d) => (atP d π).elim False fun e => match e with
    | .list es => f true d es
    | _ => False
  | _ => False
/-- the names behind a write -/
def putS (sl : List Sl) (i : Nat) (b : Bool) (d : D) : List Sl := sl.set i (reS ((sl[i]?).getD .jk) b d)
def ioOk (sl : List Sl) (i : Nat) (b : Bool) : Prop := match sl[i]? with
  | some (.io _) => b = true
  | _ => True
def kApp (ko ke : KE) : KE := fun γ q => ko γ fun γ1 => isLst γ1 ∧ ke γ1 fun γ2 => match γ2.tm with
  | s :: .al i π :: tm => (con s).elim False fun c => noAl i tm = true ∧ wrL γ2.sl i π fun b d es => (((b && c.1) = true ∨ π = []) ∧ ioOk γ2.sl i (b && c.1)) ∧ es.length < 10000000 ∧ q ⟨putS γ2.sl i (b && c.1) (setP d π (.list (es ++ [c.2]))), .fz .none :: tm, γ2.n⟩
  | _ => False
/-- an item is taken out of a list -/
def popK (γ : VSt) (i : Nat) (π : List Nat) (tm : List Sl) (kk : Int) (q : VSt → Prop) : Prop := noAl i tm = true ∧ wrL γ.sl i π fun b d es => (b = true ∨ π = []) ∧ (0 ≤ kk ∧ kk < es.length ∧ es.length ≤ 10000000) ∧ (es[kk.toNat]?).elim False fun x => q ⟨putS γ.sl i b (setP d π (.list (es.eraseIdx kk.toNat))), (if b then own x else .fz x) :: tm, γ.n⟩
def kPop (ko : KE) : KE := fun γ q => ko γ fun γ1 => isLst γ1 ∧ match γ1.tm with
  | .al i π :: tm => wrL γ1.sl i π fun _ _ es => popK γ1 i π tm (es.length - 1 : Nat) q ∧ es ≠ []
  | _ => False
def kPopAt (ko ke : KE) : KE := fun γ q => ko γ fun γ1 => isLst γ1 ∧ ke γ1 fun γ2 => match γ2.tm with
  | .fz (.int kk) :: .al i π :: tm => popK γ2 i π tm kk q
  | _ => False
/-- o[i] = e -/
def kgSub (ko ki : KE) : KG := fun γ q => ko γ fun γ1 => ki γ1 fun γ2 => match γ2.tm with
  | .fz (.int kk) :: .al i π :: s :: tm => (con s).elim False fun c => noAl i tm = true ∧ wrL γ2.sl i π fun b d es => (((b && c.1) = true ∨ π = []) ∧ ioOk γ2.sl i (b && c.1)) ∧ (0 ≤ kk ∧ kk < es.length) ∧ q ⟨putS γ2.sl i (b && c.1) (setP d π (.list (es.set kk.toNat c.2))), tm, γ2.n⟩
  | _ => False
def ItD (C : Cn) (J : It) (ds : List D) (tm : List Sl) (Ψ : List V) : Prop := ∀ (E : List Sl) (Φ : List V) (i : Nat) (sl : List Sl) (n : Int) (σ : L2.St) (H : Hp), Φ.length = E.length → Rel C ⟨sl, E ++ tm, n⟩ (Φ ++ Ψ) σ H → (∀ d, ds[i]? = some d → J.go i H ∧ ∀ x H3, J.yld i H x H3 → Rel C ⟨sl, .fz d :: (E ++ tm), n⟩ (x :: (Φ ++ Ψ)) σ H3) ∧ (ds.length ≤ i → J.stop i H)
def PopD (C : Cn) (tm' : List Sl) (Ψ : List V) (tm : List Sl) (Θ : List V) : Prop := ∀ (E : List Sl) (Φ : List V) (sl : List Sl) (n : Int) (σ : L2.St) (H : Hp), Φ.length = E.length → (∀ s ∈ E, ∀ i π, s ≠ .al i π) → Rel C ⟨sl, E ++ tm', n⟩ (Φ ++ Ψ) σ H → Rel C ⟨sl, E ++ tm, n⟩ (Φ ++ Θ) σ H
abbrev KI := VSt → (List D → VSt → Prop) → Prop
def SoI {C : Cn} (xc : XC C) (wi : TI) (ki : KI) : Prop := ∀ (γ : VSt) (Θ : List V) (σ : L2.St) (H : Hp) (R : It → Hp → Prop) (q : List D → VSt → Prop), Rel C γ Θ σ H → ki γ q →
  (∀ J ds γ' Ψ H', q ds γ' → PopD C γ'.tm Ψ γ.tm Θ → ItD C J ds γ'.tm Ψ → Rel C γ' Ψ σ H' → R J H') → wi σ H R
theorem popD_refl {C : Cn} {tm tm' : List Sl} {Θ : List V} (e : tm' = tm) : PopD C tm' Θ tm Θ := fun E Φ sl n σ H el na R => e ▸ R
/-- the top, frozen, as a sequence -/
def frzSeq (l : Bool) (s : Sl) : Option (List D) := match s with
  | .fz d => seqD l d
  | .ow _ d => seqD l d
  | _ => none
def kIt (l : Bool) (ke : KE) : KI := fun γ q => ke γ fun γ1 => match γ1.tm with
  | s :: tm => (frzSeq l s).elim False fun ds => q ds ⟨γ1.sl, .fz (dq l ds) :: tm, γ1.n⟩ ∧ tm = γ.tm
  | _ => False
theorem itD_range {C : Cn} {tm : List Sl} {Ψ : List V} (a b : Int) : ItD C (Itr a (b - a).toNat) ((rg a b).map PyData.int) tm Ψ := fun E Φ i sl n σ H ee R => by
  refine ⟨fun d e => ?_, fun hi => ?_⟩
  · rw [List.getElem?_map] at e
    have hi : i < (b - a).toNat := by
      rcases Nat.lt_or_ge i (b - a).toNat with z | z
      · exact z
      · rw [List.getElem?_eq_none (by rw [rg_length]; omega)] at e
        cases e
    have er : (rg a b)[i]? = some (a + i) := by
      unfold rg
      rw [List.getElem?_map, List.getElem?_range hi]
      rfl
    rw [er] at e
    cases e
    refine ⟨hi, fun x H3 hy => ?_⟩
    obtain ⟨rfl, rfl⟩ := hy
    exact R.push fun Z => .int _
  · rw [List.length_map, rg_length] at hi
    exact hi
def kRng1 (ke : KE) : KI := fun γ q => ke γ fun γ1 => popI γ1 fun j γ2 => (-1000000000000 ≤ j ∧ j ≤ 1000000000000) ∧ q ((rg 0 j).map PyData.int) γ2 ∧ γ2.tm = γ.tm
def kRng2 (ka kb : KE) : KI := fun γ q => ka γ fun γ1 => kb γ1 fun γ2 => popI γ2 fun j γ3 => popI γ3 fun i γ4 => (-1000000000000 ≤ i ∧ i ≤ 1000000000000 ∧ -1000000000000 ≤ j ∧ j ≤ 1000000000000) ∧ q ((rg i j).map PyData.int) γ4 ∧ γ4.tm = γ.tm
theorem so_rng1 (h : SoE xc t k) : SoI xc (iRng1 (tCons t tNil)) (kRng1 k) := fun γ Θ σ H Rr q R hk w => h γ Θ σ H _ _ R hk fun γ1 v H1 hk1 R1 => by
  obtain ⟨j, γ2, rfl, ⟨⟨b1, b2⟩, hq, et⟩, R2⟩ := popI_ok R1 hk1
  have e : (2 : Int) ^ 62 = 4611686018427387904 := by decide
  refine ⟨j, rfl, by omega, by omega, ?_⟩
  have := w (Itr 0 j.toNat) _ γ2 Θ H1 hq (popD_refl et) (by have := itD_range (C := C) (tm := γ2.tm) (Ψ := Θ) 0 j; simpa using this) R2
  exact this
section
variable {s1 s2 : TS} {p1 p2 : KS} {g1 g2 : TG} {e1 e2 : KG}
def okS : Sl → Bool
  | .al _ _ => false
  | _ => true
def kgName (i : Nat) : KG := fun γ q => match γ.tm with
  | s :: tm => (okS s = true ∧ noAl i tm = true) ∧ q ⟨γ.sl.set i s, tm, γ.n⟩
  | _ => False
theorem okS_ne {s : Sl} (h : okS s = true) : ∀ i π, s ≠ .al i π := fun i π z => by subst z; cases h
theorem so_gname {i : Nat} : SoG xc (gName i) (kgName i) := fun γ v Θ σ H Q q R hk w => by
  obtain ⟨sl, tm, j⟩ := γ
  unfold kgName at hk
  dsimp only at hk
  split at hk
  · obtain ⟨⟨h1, h2⟩, hq⟩ := hk
    exact w _ _ _ hq (R.set (okS_ne h1) h2)
  · exact hk.elim
def kgNil : KG := fun γ q => q γ
def kgCons (a b : KG) : KG := fun γ q => a γ fun γ1 => b γ1 q
/-- (a, b, ..) = a tuple -/
def kgTup (n : Nat) (a : KG) : KG := fun γ q => match γ.tm with
  | s :: tm => (itS s).elim False fun ss => ss.length = n ∧ a ⟨γ.sl, ss ++ tm, γ.n⟩ q
  | _ => False
def kAsg (ke : KE) (g : KG) : KS := fun γ e => ke γ fun γ1 => g γ1 e.nx
theorem so_asg (a : SoE xc t k) (b : SoG xc g1 e1) : SoS xc (tAsg t g1) (kAsg k e1) := fun γ Θ σ H De e R hk w => a γ Θ σ H _ _ R hk fun γ1 v H1 hk1 R1 => b γ1 v Θ σ H1 _ _ R1 hk1 w.nx
/-- a, b = x, y -/
def kPar (i j : Nat) (ka : KE) : KS := fun γ e => ka γ fun γ1 => match γ1.tm with
  | s2 :: s1 :: tm => (okS s2 = true ∧ okS s1 = true ∧ noAl i tm = true ∧ noAl j tm = true) ∧ e.nx ⟨(γ1.sl.set i s1).set j s2, tm, γ1.n⟩
  | _ => False
/-- x += e -/
def kAug (i : Nat) (f : Int → Int → Int) (ke : KE) : KS := fun γ e => match γ.sl[i]? with
  | some (.fz (.int a)) => ke γ fun γ1 => popI γ1 fun b γ2 => noAl i γ2.tm = true ∧ e.nx ⟨γ2.sl.set i (.fz (.int (f a b))), γ2.tm, γ2.n⟩
  | _ => False
def kDrop (ke : KE) : KS := fun γ e => ke γ fun γ1 => match γ1.tm with
  | _ :: tm => e.nx ⟨γ1.sl, tm, γ1.n⟩
  | _ => False
def kRet (ke : KE) : KS := fun γ e => ke γ fun γ1 => match γ1.tm with
  | s :: tm => e.rt s ⟨γ1.sl, tm, γ1.n⟩
  | _ => False
theorem so_ret (a : SoE xc t k) : SoS xc (tRet t) (kRet k) := fun γ Θ σ H De e R hk w => a γ Θ σ H _ _ R hk fun γ1 v H1 hk1 R1 => by
  obtain ⟨sl, tm, n⟩ := γ1
  dsimp only at hk1
  split at hk1
  · exact w.rt _ _ _ _ _ _ hk1 R1
  · exact hk1.elim
def kRetN : KS := fun γ e => e.rt (.fz .none) γ
def kNever : KS := fun _ _ => False
def kNext : KS := fun γ e => e.nx γ
theorem so_next : SoS xc tNext kNext := fun γ Θ σ H De e R hk w => w.nx _ _ _ hk R
def kBreak : KS := fun γ e => e.bk γ
def kCont : KS := fun γ e => e.ct γ
def kSeq (a b : KS) : KS := fun γ e => a γ ⟨fun γ' => b γ' e, e.rt, e.bk, e.ct⟩
theorem so_seq (a : SoS xc s1 p1) (b : SoS xc s2 p2) : SoS xc (tSeq s1 s2) (kSeq p1 p2) := fun γ Θ σ H De e R hk w => a γ Θ σ H _ _ R hk ⟨fun γ' σ' H' h R' => b γ' Θ σ' H' De e R' h w, w.rt, w.bk, w.ct⟩
def kIfS (c : KT) (a b : KS) : KS := fun γ e => c γ fun x γ1 => if x = true then a γ1 e else b γ1 e
theorem so_ifS (c : SoT xc c1 h1) (a : SoS xc s1 p1) (b : SoS xc s2 p2) : SoS xc (tIfS c1 s1 s2) (kIfS h1 p1 p2) := fun γ Θ σ H De e R hk w => c γ Θ σ H _ _ R hk fun x γ1 H1 hk1 R1 => by
  cases x with
  | true => exact a γ1 Θ σ H1 De e R1 (by simpa using hk1) w
  | false => exact b γ1 Θ σ H1 De e R1 (by simpa using hk1) w
/-- for: the items one by one -/
def forL (g : KG) (kb : KS) (tm : List Sl) : List D → VSt → KEd → Prop
  | [], γ, e => e.nx γ
  | d :: ds, γ, e => g ⟨γ.sl, .fz d :: γ.tm, γ.n⟩ fun γ1 => kb γ1 ⟨fun γ2 => γ2.tm = tm ∧ forL g kb tm ds γ2 e, e.rt, fun γ2 => γ2.tm = tm ∧ e.nx γ2, fun γ2 => γ2.tm = tm ∧ forL g kb tm ds γ2 e⟩
def kFor (ki : KI) (g : KG) (kb : KS) : KS := fun γ e => ki γ fun ds γ1 => forL g kb γ1.tm ds γ1 ⟨fun γ2 => e.nx ⟨γ2.sl, γ.tm, γ2.n⟩, e.rt, fun _ => False, fun _ => False⟩
end
end
end G
namespace G
open PySem PySem.Spec PyProof.Rows L2
variable {C : Cn} {xc : XC C}
section
variable {t t1 t2 ta tb tc : TE} {k k1 k2 ka kb kc ko : KE} {n m : Nat} {c1 c2 : TT} {h1 h2 : KT} {K : PySem.W.Frag}
/-- the list that is made, one item more -/
theorem Rel.grow {C : Cn} {sl tm : List Sl} {s : Sl} {b cb : Bool} {es : List D} {cd : D} {j : Int} {u v : V} {Θ : List V} {σ : L2.St} {H : Hp} (R : Rel C ⟨sl, s :: .ow b (.list es) :: tm, j⟩ (u :: v :: Θ) σ H) (ec : con s = some (cb, cd)) :
    ∃ a vs, v = .ref a ∧ H a = some (.lst vs) ∧ vs.length = es.length ∧ Rel C ⟨sl, .ow (b && cb) (.list (es ++ [cd])) :: tm, j⟩ (v :: Θ) σ (upd H a (.lst (vs ++ [u]))) := by
  obtain ⟨Z, S1, S2, X⟩ := R
  obtain ⟨A, B, en, X1, f⟩ := RelX.popF (ss := [s, .ow b (.list es)]) (us := [u, v]) X rfl
  -- the two of them
  obtain ⟨A1, A2, e1, e2, rfl⟩ : ∃ A1 A2, Ent C Z H A1 (some u) s ∧ Ent C Z H A2 (some v) (.ow b (.list es)) ∧ A = A1 ++ A2 := by
    cases en with
    | cons e1 e2 =>
      cases e2 with
      | cons e2 e3 =>
        cases e3
        exact ⟨_, _, e1, e2, by simp⟩
  have ti := e1.con ec
  have key : ∃ a vs T, v = .ref a ∧ H a = some (.lst vs) ∧ A2 = a :: T ∧ Trs H (rgn b Z) T vs es := by
    cases e2 with
    | ow t =>
      cases t with
      | lst q ts => exact ⟨_, _, _, rfl, q, rfl, ts⟩
      | lstZ z _ _ => exact z.elim
    | sp q ts => exact ⟨_, _, _, rfl, q, rfl, ts⟩
  obtain ⟨a, vs, T, rfl, ha, rfl, ts⟩ := key
  have cnt : ∀ x, List.count x A1 + (List.count x [a] + List.count x T) + (List.count x S1 + List.count x B) ≤ 1 := fun x => by
    have := nodup_cnt.mp f.nd x
    rw [List.count_append, List.count_append, List.count_append, ← List.singleton_append, List.count_append] at this
    omega
  have cpos : ∀ {x : Addr} {l : List Addr}, x ∈ l → 0 < List.count x l := fun h => List.count_pos_iff.mpr h
  have ca : List.count a [a] = 1 := by simp
  have out : ∀ {x : Addr} {l : List Addr}, x ∈ l → (∀ y, List.count y l ≤ List.count y A1 + List.count y T + List.count y S1 + List.count y B) → x ≠ a := fun {x l} m h z => by
    subst z
    have := cpos m
    have := h x
    have := cnt x
    omega
  have aZ : ¬ C.tz Z a := (f.ok a (by simp)).1
  have nA : ∀ x ∈ A1, x ≠ a := fun x m => out m fun y => by omega
  have nT : ∀ x ∈ T, x ≠ a := fun x m => out m fun y => by omega
  have nS : ∀ x ∈ S1, x ≠ a := fun x m => out m fun y => by omega
  have nB : ∀ x ∈ B, x ≠ a := fun x m => out m fun y => by omega
  have el := ts.length
  refine ⟨a, vs, rfl, ha, el, ?_⟩
  have kt : ∀ t xs, H t = some (.tup xs) → upd H a (.lst (vs ++ [u])) t = some (.tup xs) := fun t xs et => by
    rw [upd_ne (show t ≠ a from fun z => by rw [z, ha] at et; cases et)]
    exact et
  have kne : ∀ x, x ≠ a → ∀ o, H x = some o → upd H a (.lst (vs ++ [u])) x = some o := fun x q o eo => by
    rw [upd_ne q]
    exact eo
  have kz0 : ∀ x, C.tz Z x → ∀ o, H x = some o → upd H a (.lst (vs ++ [u])) x = some o := fun x z o eo => kne x (fun q => aZ (q ▸ z)) o eo
  have kz : ∀ x, Z x → ∀ o, H x = some o → upd H a (.lst (vs ++ [u])) x = some o := fun x z => kz0 x (.inl z)
  have X2 : RelX C Z S1 B ⟨sl, tm, j⟩ Θ σ (upd H a (.lst (vs ++ [u]))) := by
    refine ⟨fun x o e m => ⟨(X1.fr x o e m).1, kz0 x (X1.fr x o e m).1 o (X1.fr x o e m).2⟩, X1.es.mono kt (fun _ z => z) kz fun x m => kne x (nS x m), X1.et.mono kt (fun _ z => z) kz fun x m => kne x (nB x m), X1.nd, X1.nz, fun q b e => ⟨(X1.pu q b e).1.mono fun o eo => kne q ?_ o eo, (X1.pu q b e).2⟩, fun x z => ?_, X1.dj, fun k i π w e ev => ?_⟩
    · exact fun z => (f.ok a (by simp)).2.1 q b e z.symm
    · obtain ⟨o, e⟩ := X1.ex x z
      exact ⟨o, kz0 x z o e⟩
    · obtain ⟨s, d', e', w', g1, g2, g3, g4, wk⟩ := X1.al k i π w e ev
      obtain ⟨w2, T', ew, t, sub⟩ := X1.slot g1 g2
      rw [g4] at ew
      cases ew
      exact ⟨s, d', e', w', g1, g2, g3, g4, (Tr.part t g3 wk).2 _ kt fun x z => z.elim (kz x) fun m => kne x (nS x (sub x m))⟩
  have t1 : Trs (upd H a (.lst (vs ++ [u]))) (rgn (b && cb) Z) (T ++ (A1 ++ [])) (vs ++ [u]) (es ++ [cd]) := by
    refine ((ts.upd ha (fun z => aZ (.inl z)) nT).weak (rgn_mono fun z => ?_)).append (.cons ((ti.upd ha (fun z => aZ (.inl z)) nA).weak (rgn_mono fun z => ?_)) .nil)
    · rw [Bool.and_eq_true] at z; exact z.1
    · rw [Bool.and_eq_true] at z; exact z.2
  have f2 : Fl C Z S1 B (upd H a (.lst (vs ++ [u]))) (a :: (T ++ (A1 ++ []))) := by
    refine ⟨nodup_cnt.mpr fun x => ?_, fun x m => ?_⟩
    · have := cnt x
      rw [List.append_nil, List.cons_append, ← List.singleton_append, List.count_append, List.count_append, List.count_append, List.count_append]
      omega
    · have mA : x ∈ A1 ++ a :: T := by
        rcases List.mem_cons.mp m with rfl | m
        · simp
        · rcases List.mem_append.mp m with m | m
          · exact List.mem_append_right _ (List.mem_cons_of_mem _ m)
          · exact List.mem_append_left _ (by simpa using m)
      obtain ⟨q1, q2, xs, eo⟩ := f.ok x mA
      refine ⟨q1, q2, ?_⟩
      by_cases hx : x = a
      · exact ⟨_, by rw [hx]; exact upd_same⟩
      · exact ⟨xs, kne x hx _ eo⟩
  have en' : Ent C Z (upd H a (.lst (vs ++ [u]))) (a :: (T ++ (A1 ++ []))) (some (.ref a)) (.ow (b && cb) (.list (es ++ [cd]))) := by
    cases hb : (b && cb) with
    | true =>
      rw [hb] at t1
      exact .ow (.lst upd_same t1)
    | false =>
      rw [hb] at t1
      exact .sp upd_same t1
  exact ⟨_, _, _, X2.pushF f2 (Dr := []) (by simp) en' (fun i π z => nomatch z)⟩
/-- [e for x in xs if t] -/
def lcL (j : Nat) (kt : KT) (ke : KE) : List D → VSt → (VSt → Prop) → Prop
  | [], γ, q => q γ
  | d :: ds, γ, q => noAl j γ.tm = true ∧ kt ⟨γ.sl.set j (.fz d), γ.tm, γ.n⟩ fun b γ1 => γ1.tm = γ.tm ∧ if b = true then ke γ1 fun γ2 => match γ2.tm with
      | s :: .ow b0 (.list es) :: tm => (con s).elim False fun c => (noAl j tm = true ∧ tm = γ.tm.tail ∧ es.length < 10000000) ∧ lcL j kt ke ds ⟨γ2.sl.set j .jk, .ow (b0 && c.1) (.list (es ++ [c.2])) :: tm, γ2.n⟩ q
      | _ => False
    else lcL j kt ke ds ⟨γ1.sl.set j .jk, γ1.tm, γ1.n⟩ q
def kLc (ki : KI) (j : Nat) (kt : KT) (ke : KE) : KE := fun γ q => ki γ fun ds γ1 => noAl j γ1.tm = true ∧ lcL j kt ke ds ⟨γ1.sl.set j .jk, .ow true (.list []) :: γ1.tm, γ1.n⟩ fun γ2 => match γ2.tm with
  | s :: tm => (okS s = true ∧ tm = γ1.tm) ∧ q ⟨γ2.sl, s :: γ.tm, γ2.n⟩
  | _ => False
/-- what stands at a name that is forgotten does not matter -/
theorem Rel.jkσ {C : Cn} {γ : VSt} {Θ : List V} {σ σ' : L2.St} {H : Hp} {j : Nat} (R : Rel C γ Θ σ H) (e : γ.sl[j]? = some .jk ∨ γ.sl[j]? = none) (na : noAl j γ.tm = true) (hs : σ = σ'.set j none) : Rel C γ Θ σ' H := by
  obtain ⟨sl, tm, n⟩ := γ
  dsimp only at e na
  rcases e with e | e
  · have R2 := R.jk (i := j) na ((σ'[j]?).getD none)
    have e1 : sl.set j .jk = sl := by
      refine List.ext_getElem? fun i => ?_
      by_cases hi : j = i
      · subst hi
        rw [List.getElem?_set_self (List.getElem?_eq_some_iff.mp e).1, e]
      · rw [List.getElem?_set_ne hi]
    have e2 : σ.set j ((σ'[j]?).getD none) = σ' := by
      subst hs
      rw [List.set_set]
      refine List.ext_getElem? fun i => ?_
      by_cases hi : j = i
      · subst hi
        rcases Nat.lt_or_ge j σ'.length with z | z
        · rw [List.getElem?_set_self z, List.getElem?_eq_getElem z]
          rfl
        · rw [List.getElem?_eq_none (by rw [List.length_set]; exact z), List.getElem?_eq_none z]
      · rw [List.getElem?_set_ne hi]
    rw [e1, e2] at R2
    exact R2
  · have e2 : σ = σ' := by
      rw [hs]
      refine List.set_eq_of_length_le ?_
      have l1 : sl.length ≤ j := List.getElem?_eq_none_iff.mp e
      obtain ⟨Z, S1, S2, X⟩ := R
      have l2 := X.es.length
      change σ.length = sl.length at l2
      rw [hs, List.length_set] at l2
      omega
    rw [← e2]
    exact R
theorem set_jk (sl : List Sl) (j : Nat) : (sl.set j .jk)[j]? = some .jk ∨ (sl.set j .jk)[j]? = none := by
  rcases Nat.lt_or_ge j sl.length with z | z
  · exact .inl (List.getElem?_set_self z)
  · exact .inr (List.getElem?_eq_none (by rw [List.length_set]; exact z))
theorem noAl_cons {j : Nat} {s : Sl} {tm : List Sl} (h : noAl j tm = true) (hs : okS s = true) : noAl j (s :: tm) = true := by
  unfold noAl at h ⊢
  rw [List.all_cons, h, Bool.and_true]
  cases s <;> first | rfl | cases hs
theorem so_lc {wi : TI} {ki : KI} {j : Nat} {tt : TT} {kt : KT} {te : TE} {ke : KE} (hi : SoI xc wi ki) (ht : SoT xc tt kt) (he : SoE xc te ke) : SoE xc (tLc wi (gName j) tt te [j]) (kLc ki j kt ke) := fun γ Θ σ H Q q R hk w => hi γ Θ σ H _ _ R hk fun J ds γ1 Ψ H1 hq hp hJ R1 => by
  obtain ⟨na, hq⟩ := hq
  obtain ⟨sl1, tm1, n1⟩ := γ1
  dsimp only at hq na hJ
  intro D hD
  have R2 := (R1.jk (i := j) na none).ints hD []
  refine ⟨fun i m H' => m = ds.length - i ∧ i ≤ ds.length ∧ ∃ sl b es n, lcL j kt ke (ds.drop i) ⟨sl, .ow b (.list es) :: tm1, n⟩ (fun γ2 => match γ2.tm with | s :: tm => (okS s = true ∧ tm = tm1) ∧ q ⟨γ2.sl, s :: γ.tm, γ2.n⟩ | _ => False) ∧ (sl[j]? = some .jk ∨ sl[j]? = none) ∧ Rel C ⟨sl, .ow b (.list es) :: tm1, n⟩ (.ref D :: Ψ) (σ.set j none) H', ⟨ds.length, rfl, Nat.zero_le _, _, true, [], n1, by simpa using hq, set_jk _ _, R2⟩, ?_⟩
  rintro i m H' ⟨rfl, hi, sl, b, es, n, hf, hjk, R'⟩
  obtain ⟨j1, j2⟩ := hJ [.ow b (.list es)] [.ref D] i sl n _ H' rfl R'
  by_cases hlt : i < ds.length
  · right
    have e2 : ds.drop i = ds[i] :: ds.drop (i + 1) := List.drop_eq_getElem_cons hlt
    rw [e2] at hf
    obtain ⟨na1, hf⟩ := hf
    obtain ⟨g, y⟩ := j1 ds[i] (List.getElem?_eq_getElem hlt)
    have na2 : noAl j (.ow b (.list es) :: tm1) = true := na1
    refine ⟨g, fun H2 => ∃ sl b es n, lcL j kt ke (ds.drop (i + 1)) ⟨sl, .ow b (.list es) :: tm1, n⟩ (fun γ2 => match γ2.tm with | s :: tm => (okS s = true ∧ tm = tm1) ∧ q ⟨γ2.sl, s :: γ.tm, γ2.n⟩ | _ => False) ∧ (sl[j]? = some .jk ∨ sl[j]? = none) ∧ Rel C ⟨sl, .ow b (.list es) :: tm1, n⟩ (.ref D :: Ψ) (σ.set j none) H2, fun H2 h2 => ⟨ds.length - (i + 1), by omega, rfl, hlt, h2⟩, fun x H3 hy => ?_⟩
    refine ⟨by show ((σ.set j none).set j _).set j none = σ.set j none; rw [List.set_set, List.set_set], ?_⟩
    have R3 : Rel C ⟨sl.set j (.fz ds[i]), .ow b (.list es) :: tm1, n⟩ (.ref D :: Ψ) ((σ.set j none).set j (some x)) H3 := (y x H3 hy).set (fun i π z => nomatch z) na2
    refine ht _ _ _ H3 _ _ R3 hf fun c γ2 H4 hk4 R4 => ?_
    obtain ⟨et, hk4⟩ := hk4
    obtain ⟨sl2, tm2, n2⟩ := γ2
    dsimp only at et
    subst et
    have back : ∀ {sl : List Sl} {tm : List Sl} {n : Int} {Θ : List V} {H : Hp}, noAl j tm = true → Rel C ⟨sl, tm, n⟩ Θ ((σ.set j none).set j (some x)) H → Rel C ⟨sl.set j .jk, tm, n⟩ Θ (σ.set j none) H := fun hna R => by
      have := R.jk (i := j) hna none
      rw [List.set_set, List.set_set] at this
      exact this
    cases c with
    | false =>
      rw [if_neg (by simp)] at hk4 ⊢
      exact ⟨_, _, _, _, hk4, set_jk _ _, back na2 R4⟩
    | true =>
      rw [if_pos rfl] at hk4 ⊢
      refine he _ _ _ H4 _ _ R4 hk4 fun γ5 y5 H5 hk5 R5 => ?_
      obtain ⟨sl5, tm5, n5⟩ := γ5
      dsimp only at hk5
      split at hk5
      · rename_i s b0 es0 tm
        obtain ⟨⟨cb, cd⟩, ec, ⟨na5, et5, hl⟩, hk6⟩ := elimF hk5
        simp only [List.tail_cons] at et5
        subst et5
        obtain ⟨a, vs, ea, ha, el, R6⟩ := R5.grow ec
        cases ea
        exact ⟨vs, ha, szlt (by omega), _, _, _, _, hk6, set_jk _ _, back (noAl_cons na5 rfl) R6⟩
      · exact hk5.elim
  · left
    have e0 : i = ds.length := by omega
    refine ⟨j2 (by omega), ?_⟩
    rw [e0, List.drop_length] at hf
    obtain ⟨⟨h1, _⟩, hq⟩ := hf
    have R3 := R'.jkσ hjk (noAl_cons na rfl) rfl
    have R4 := hp [.ow b (.list es)] [.ref D] _ _ _ _ rfl (fun s m i π => by
      simp only [List.mem_singleton] at m
      subst m
      exact fun z => nomatch z) R3
    exact w _ _ _ hq R4
def enumD : Nat → List D → List D
  | _, [] => []
  | k, d :: ds => .tuple [.int k, d] :: enumD (k + 1) ds
def kEnum (ke : KE) : KI := fun γ q => ke γ fun γ1 => match γ1.tm with
  | s :: tm => (frzSeq true s).elim False fun ds => q (enumD 0 ds) ⟨γ1.sl, .fz (.list ds) :: tm, γ1.n⟩ ∧ tm = γ.tm
  | _ => False
def zipD : List D → List D → List D
  | d :: ds, e :: es => .tuple [d, e] :: zipD ds es
  | _, _ => []
def kZip (ka kb : KE) : KI := fun γ q => ka γ fun γ1 => kb γ1 fun γ2 => match γ2.tm with
  | s2 :: .fz (.list ds) :: tm => (frzSeq true s2).elim False fun es => q (zipD ds es) ⟨γ2.sl, .fz (.list es) :: .fz (.list ds) :: tm, γ2.n⟩ ∧ tm = γ.tm
  | _ => False
/-- what is returned: new -/
def rtN (G : D → Prop) : Sl → Prop
  | .fz d => nolist d = true ∧ G d
  | .ow true d => G d
  | _ => False
def edT (G : D → Prop) : KEd := ⟨fun _ => G .none, fun s _ => rtN G s, fun _ => False, fun _ => False⟩
def edP (G : D → Prop) : KEd := ⟨fun γ => 0 ≤ γ.n ∧ G .none, fun s γ => 0 ≤ γ.n ∧ rtN G s, fun _ => False, fun _ => False⟩
theorem Rel.start {H : Hp} {S : List Addr} {vs : List V} {ds : List D} {N : List Str} (r : Reps H S vs ds) (pu : Option (Addr × Int)) (ok : ∀ p b, pu = some (p, b) → b ≤ 2 ^ 100) (n : Int) (hpu : ∀ p b, pu = some (p, b) → PuAt H p (b - n) ∧ p ∉ S) (us : List V) (ss : List Sl)
    (hu : (us = [] ∧ ss = []) ∨ ∃ p b, pu = some (p, b) ∧ us = [.ref p] ∧ ss = [.pu]) (hN : (us ++ vs).length ≤ N.length) :
    Rel ⟨H, fun a => ∃ b, pu = some (a, b), pu, ok, none, noReg⟩ ⟨ss ++ ds.map Sl.fz ++ List.replicate (N.length - (us ++ vs).length) .jk, [], n⟩ [] (L2.start N (us ++ vs)) H := by
  have jks : ∀ (k : Nat) {C : Cn} {Z : Reg}, Ents C Z H [] (List.replicate k none) (List.replicate k .jk) := fun k => by
    induction k with
    | zero => exact .nil
    | succ k ih => exact .cons (S := []) (.jk _) ih
  refine ⟨fun a => (∃ o, H a = some o) ∧ ∀ p b, pu = some (p, b) → a ≠ p, [], [], ⟨fun a o e m => ⟨.inl ⟨⟨o, e⟩, fun p b q z => m ⟨b, z ▸ q⟩⟩, e⟩, ?_, .nil, List.nodup_nil, fun a m => (nomatch m), fun p b q => ⟨(hpu p b q).1, fun z => z.elim (fun z => z.2 p b q rfl) id, fun m => (nomatch m)⟩, fun a z => z.elim (fun z => z.1) False.elim, fun _ _ z => z, fun k i π v e => by simp at e⟩⟩
  have tr := Reps.tr (Z := noReg) _ _ _ r
  have fz := Trs.fzs (C := ⟨H, fun a => ∃ b, pu = some (a, b), pu, ok, none, noReg⟩) (Z := fun a => (∃ o, H a = some o) ∧ ∀ p b, pu = some (p, b) → a ≠ p) (Trs.freeze (Z' := fun a => (∃ o, H a = some o) ∧ ∀ p b, pu = some (p, b) → a ≠ p) (fun _ z => z.elim) _ _ _ tr fun a m => ⟨by
    obtain ⟨xs, e⟩ := Reps.dom _ _ _ r a m
    exact ⟨_, e⟩, fun p b q z => (hpu p b q).2 (z ▸ m)⟩) rfl
  show Ents _ _ H [] (L2.start N (us ++ vs)) (ss ++ ds.map Sl.fz ++ List.replicate (N.length - (us ++ vs).length) .jk)
  unfold L2.start
  rw [List.map_append]
  have mid := Ents.append fz (jks (N.length - (us ++ vs).length))
  rcases hu with ⟨rfl, rfl⟩ | ⟨p, b, q, rfl, rfl⟩
  · simpa using mid
  · exact .cons (S := []) (.pu q) mid
theorem Rel.outN {C : Cn} {sl tm : List Sl} {s : Sl} {n : Int} {v : V} {Θ : List V} {σ : L2.St} {H : Hp} {G : D → Prop} (R : Rel C ⟨sl, s :: tm, n⟩ (v :: Θ) σ H) (h : rtN G s) (hM : ∀ a, C.M a → ∃ b, C.pu = some (a, b)) : ∃ d, G d ∧ New C.H0 H v d := by
  obtain ⟨Z, S1, S2, X⟩ := R
  obtain ⟨A, B, en, X1, f⟩ := RelX.popF (ss := [s]) (us := [v]) X rfl
  obtain ⟨A', e1, rfl⟩ : ∃ A', Ent C Z H A' (some v) s ∧ A = A' := by
    cases en with
    | cons e1 e2 =>
      cases e2
      exact ⟨_, e1, by simp⟩
  have new : ∀ a ∈ A, C.H0 a = none := fun a m => by
    cases q : C.H0 a with
    | none => rfl
    | some o =>
      exfalso
      by_cases hm : C.M a
      · obtain ⟨b, eb⟩ := hM a hm
        exact (f.ok a m).2.1 a b eb rfl
      · exact (f.ok a m).1 (X1.fr a o q hm).1
  cases e1 with
  | jk v => cases h
  | al v i π => cases h
  | pu q => cases h
  | io t q => cases h
  | dc _ _ => cases h
  | dt _ _ => cases h
  | sh _ _ => cases h
  | xv _ _ => cases h
  | ho _ _ _ => cases h
  | xw _ => cases h
  | ob _ _ _ => cases h
  | sp q t => cases h
  | fz t =>
    obtain ⟨hn, hG⟩ := h
    exact ⟨_, hG, [], Tr.repO _ _ _ (Tr.nolist (Z' := noReg) _ _ _ t hn).2, List.nodup_nil, fun a m => nomatch m⟩
  | ow t => exact ⟨_, h, A, Tr.repO _ _ _ t, (List.nodup_append.mp f.nd).1, new⟩
section
variable {P : Program} {w : World} {mg : Str → Option Value} {base : Heap} {kl : Nat} {f : Addr} {fd : FuncData} {ps : List Str}
/-- a def that draws from the purse, its first argument -/
theorem okP {x qual : Str} {st : Stmt} {N : List Str} {W : Tw} {kb : KS} {c : Int} (F : Fun K x qual st f fd) (S : FnScope N ps (defScope st)) (hN : ps.length ≤ N.length) (har : ∀ ds G, W ds G → ds.length + 1 = ps.length) (hc : 0 ≤ c)
    (hb : ∀ (cdv : Value) (A : Around) (outer : List Env) (s : Shared) (H : Hp) (E : XK), Bare (A.deeper (envOfC qual (defScope st) s.heap.objs.size f cdv)) → Room kl (A.deeper (envOfC qual (defScope st) s.heap.objs.size f cdv)) → ∃ t, PSs (cxOf CX0 P w K mg base N qual (defScope st) f cdv A outer s H E).nox (defBody st) t ∧ ∀ (C : Cn) (xc : XC C), SoS xc t kb)
    (val : ∀ ds G, W ds G → kb ⟨.pu :: (ds.map Sl.fz ++ List.replicate (N.length - ps.length) .jk), [], c⟩ (edP G)) : FnG P w K mg base CX0 (kl + 1) f fd ps (spP c W) := by
  refine okG F S (fun vs H Q E h => ?_) (fun cdv A outer s H vs Q E hg hr h => ?_)
  · obtain ⟨p, b, vs', S, ds, Gq, rfl, _, _, r, _, hw, _⟩ := h
    rw [List.length_cons, r.length]
    exact har _ _ hw
  · obtain ⟨t, hp, so⟩ := hb cdv A outer s H E hg hr
    obtain ⟨p, b, vs', S, ds, Gq, rfl, hpu, hb, r, np, hw, hk⟩ := h
    have el := r.length
    have ea := har _ _ hw
    have ok : ∀ q b', (some (p, b + c) : Option (Addr × Int)) = some (q, b') → b' ≤ 2 ^ 100 := fun q b' z => by cases z; omega
    have e0 : b + c - c = b := by omega
    refine ⟨t, hp, so ⟨H, fun a => ∃ b', (some (p, b + c) : Option (Addr × Int)) = some (a, b'), some (p, b + c), ok, none, noReg⟩ (noXC _) _ [] _ H _ (edP Gq) (Rel.start (N := N) r (some (p, b + c)) ok c (fun q b' z => by cases z; exact ⟨e0.symm ▸ hpu, np⟩) [.ref p] [.pu] (.inr ⟨p, b + c, rfl, rfl, rfl⟩) (by simp; omega)) ?_ ⟨fun γ' σ' H' hn R => ?_, fun s γ' v Θ' σ' H' hr R => ?_, fun _ _ _ z _ => z.elim, fun _ _ _ z _ => z.elim⟩⟩
    · have e1 : ([V.ref p] ++ vs').length = ps.length := by simp; omega
      rw [e1]
      exact val ds Gq hw
    · obtain ⟨Z, S1, S2, X⟩ := R
      exact hk _ _ _ hn.2 (fun a o e ne => (X.fr a o e (fun ⟨b, z⟩ => by cases z; exact ne rfl)).2) ((X.pu p _ rfl).1.le (by have := hn.1; omega)) ⟨[], .non, List.nodup_nil, fun a m => nomatch m⟩
    · obtain ⟨d, hG, nw⟩ := R.outN hr.2 (fun a m => m)
      obtain ⟨Z, S1, S2, X⟩ := R
      exact hk _ _ _ hG (fun a o e ne => (X.fr a o e (fun ⟨b, z⟩ => by cases z; exact ne rfl)).2) ((X.pu p _ rfl).1.le (by have := hr.1; dsimp only; omega)) nw
end
abbrev TwI := List D → (D → D → Prop) → Prop
def ownF (s : Option Sl) : Option (Sl × D) := match s with
  | some (.ow true d) => some (.ow true d, d)
  | some (.io d) => some (.io d, d)
  | _ => none
def kCallI (W : TwI) (n : Nat) (ka : KE) : KE := fun γ q => ka γ fun γ1 => (datN γ1.sl n γ1.tm).elim False fun x => match x.2 with
  | .al i [] :: r => (nolists x.1 = true ∧ noAl i r = true) ∧ (ownF (γ1.sl[i]?)).elim False fun s => W (s.2 :: x.1) fun d e => q ⟨γ1.sl.set i (reS s.1 true e), own d :: r, γ1.n⟩
  | _ => False
def ioD (γ : VSt) (f : D → Prop) : Prop := match γ.sl[0]? with
  | some (Sl.io e) => f e
  | _ => False
def edI (G : D → D → Prop) : KEd := ⟨fun γ => ioD γ fun e => G .none e, fun s γ => ioD γ fun e => rtN (fun d => G d e) s, fun _ => False, fun _ => False⟩
end
end G
namespace G
open PySem PySem.Spec PyProof.Rows L2
variable {C : Cn} {xc : XC C}
section
variable {t t1 t2 ta tb tc : TE} {k k1 k2 ka kb kc ko : KE} {n m : Nat} {c1 c2 : TT} {h1 h2 : KT} {K : PySem.W.Frag}
/-- a comprehension by an invariant: what is done, what is made, how many draws are left -/
theorem lc_inv {j : Nat} {kt : KT} {ke : KE} {β : Type} {q : VSt → Prop} {sl T : List Sl} (b : Bool) (l : List β) (f : β → D) (P : List β → List D → Int → Prop) (hj : (sl.set j .jk) = sl) (na : noAl j T = true)
    (len : ∀ pre acc n, P pre acc n → acc.length < 10000000)
    (step : ∀ pre x post acc n (Y X : VSt → Prop), l = pre ++ x :: post → P pre acc n → (∀ s c cd n', con s = some (c, cd) → (b && c) = b → P (pre ++ [x]) (acc ++ [cd]) n' → Y ⟨sl.set j (.fz (f x)), s :: .ow b (.list acc) :: T, n'⟩) → (∀ n', P (pre ++ [x]) acc n' → X ⟨sl.set j (.fz (f x)), .ow b (.list acc) :: T, n'⟩) →
      kt ⟨sl.set j (.fz (f x)), .ow b (.list acc) :: T, n⟩ fun c γ1 => γ1.tm = .ow b (.list acc) :: T ∧ if c = true then ke γ1 Y else X γ1)
    (fin : ∀ acc n, P l acc n → q ⟨sl, .ow b (.list acc) :: T, n⟩) : ∀ acc n, P [] acc n → lcL j kt ke (l.map f) ⟨sl, .ow b (.list acc) :: T, n⟩ q := by
  have main : ∀ (post pre : List β) (acc : List D) (n : Int), l = pre ++ post → P pre acc n → lcL j kt ke (post.map f) ⟨sl, .ow b (.list acc) :: T, n⟩ q := by
    intro post
    induction post with
    | nil =>
      intro pre acc n hl hp
      rw [List.append_nil] at hl
      subst hl
      exact fin acc n hp
    | cons x post ih =>
      intro pre acc n hl hp
      have hjj : (sl.set j (.fz (f x))).set j .jk = sl := by rw [List.set_set]; exact hj
      refine ⟨noAl_cons na rfl, step pre x post acc n _ _ hl hp (fun s c cd n' hc hb hP => ?_) (fun n' hP => ?_)⟩
      · show (con s).elim False _
        rw [hc]
        refine ⟨⟨na, rfl, len _ _ _ hp⟩, ?_⟩
        dsimp only
        rw [hjj, hb]
        exact ih (pre ++ [x]) _ n' (by rw [hl]; simp) hP
      · dsimp only
        rw [hjj]
        exact ih (pre ++ [x]) _ n' (by rw [hl]; simp) hP
  exact fun acc n h => main l [] acc n rfl h
theorem edT_rt {G : D → Prop} {s : Sl} {γ : VSt} : (edT G).rt s γ = rtN G s := rfl
theorem edP_rt {G : D → Prop} {s : Sl} {γ : VSt} : (edP G).rt s γ = (0 ≤ γ.n ∧ rtN G s) := rfl
theorem edT_nx {G : D → Prop} {γ : VSt} : (edT G).nx γ = G .none := rfl
theorem edP_nx {G : D → Prop} {γ : VSt} : (edP G).nx γ = (0 ≤ γ.n ∧ G .none) := rfl
theorem rtN_fz {G : D → Prop} {d : D} : rtN G (.fz d) = (nolist d = true ∧ G d) := rfl
theorem rtN_ow {G : D → Prop} {d : D} : rtN G (.ow true d) = G d := rfl
theorem rtN_own {G : D → Prop} {d : D} : rtN G (own d) = G d := by
  unfold own
  cases h : nolist d with
  | true => rw [if_pos rfl, rtN_fz, h]; simp
  | false => rw [if_neg (by simp), rtN_ow]
theorem own_int {i : Int} : own (.int i) = .fz (.int i) := rfl
theorem own_bool {b : Bool} : own (.bool b) = .fz (.bool b) := rfl
theorem own_str {x : Str} : own (.str x) = .fz (.str x) := rfl
theorem own_none : own .none = .fz .none := rfl
theorem own_list {ds : List D} : own (.list ds) = .ow true (.list ds) := rfl
theorem own_tup {ds : List D} : own (.tuple ds) = if nolists ds = true then .fz (.tuple ds) else .ow true (.tuple ds) := rfl
theorem mkS_lt {ds : List D} : mkS true true ds = .ow true (.list ds) := rfl
theorem mkS_lf {ds : List D} : mkS true false ds = .ow false (.list ds) := rfl
theorem mkS_tt {ds : List D} : mkS false true ds = own (.tuple ds) := rfl
theorem mkS_tf {ds : List D} : mkS false false ds = .fz (.tuple ds) := rfl
theorem con_own {d : D} : con (own d) = some (true, d) := by
  unfold own
  cases h : nolist d with
  | true => rw [if_pos rfl]; show some (nolist d, d) = _; rw [h]
  | false => rw [if_neg (by simp)]; rfl
theorem okS_own {d : D} : okS (own d) = true := by
  unfold own
  split <;> rfl
theorem look_own {sl : List Sl} {d : D} : look sl (own d) = some d := by
  unfold own
  split <;> rfl
theorem okS_fz {d : D} : okS (.fz d) = true := rfl
theorem okS_ow {b : Bool} {d : D} : okS (.ow b d) = true := rfl
theorem okS_pu : okS .pu = true := rfl
theorem okS_al {i : Nat} {π : List Nat} : okS (.al i π) = false := rfl
theorem noAl_nil {i : Nat} : noAl i [] = true := rfl
theorem noAl_fz {i : Nat} {d : D} {tm : List Sl} : noAl i (.fz d :: tm) = noAl i tm := by simp [noAl]
theorem noAl_ow {i : Nat} {b : Bool} {d : D} {tm : List Sl} : noAl i (.ow b d :: tm) = noAl i tm := by simp [noAl]
theorem noAl_pu {i : Nat} {tm : List Sl} : noAl i (.pu :: tm) = noAl i tm := by simp [noAl]
theorem noAl_al {i j : Nat} {π : List Nat} {tm : List Sl} : noAl i (.al j π :: tm) = ((j != i) && noAl i tm) := by simp [noAl]
theorem noAl_own {i : Nat} {d : D} {tm : List Sl} : noAl i (own d :: tm) = noAl i tm := by
  unfold own
  split <;> simp [noAl]
theorem con_fz {d : D} : con (.fz d) = some (nolist d, d) := rfl
theorem con_ow {b : Bool} {d : D} : con (.ow b d) = some (b, d) := rfl
theorem look_fz {sl : List Sl} {d : D} : look sl (.fz d) = some d := rfl
theorem look_ow {sl : List Sl} {b : Bool} {d : D} : look sl (.ow b d) = some d := rfl
theorem look_al {sl : List Sl} {i : Nat} {π : List Nat} : look sl (.al i π) = (sl[i]?).bind fun s => (datS s).bind fun d => atP d π := rfl
theorem datS_fz {d : D} : datS (.fz d) = some d := rfl
theorem datS_ow {b : Bool} {d : D} : datS (.ow b d) = some d := rfl
theorem datS_own {d : D} : datS (own d) = some d := by
  unfold own
  split <;> rfl
theorem subS_fz {d e : D} {k : Nat} : subS (.fz e) k d = .fz d := rfl
theorem subS_ow {d e : D} {k : Nat} : subS (.ow true e) k d = own d := rfl
theorem subS_of {d e : D} {k : Nat} : subS (.ow false e) k d = .fz d := rfl
theorem subS_al {d : D} {i k : Nat} {π : List Nat} : subS (.al i π) k d = if nolist d = true then .fz d else .al i (π ++ [k]) := rfl
theorem ixD_0 {d : D} {ds : List D} {f : Nat → D → Prop} : ixD (d :: ds) 0 f = f 0 d := by
  unfold ixD ixN
  simp
theorem ixD_1 {d e : D} {ds : List D} {f : Nat → D → Prop} : ixD (d :: e :: ds) 1 f = f 1 e := by
  unfold ixD ixN
  simp
  rw [if_pos (by omega)]
  exact Iff.rfl
theorem ixD_2 {d e g : D} {ds : List D} {f : Nat → D → Prop} : ixD (d :: e :: g :: ds) 2 f = f 2 g := by
  unfold ixD ixN
  simp
  rw [if_pos (by omega)]
  exact Iff.rfl
theorem ixD_any {ds : List D} {i : Int} {f : Nat → D → Prop} (h0 : 0 ≤ i) (h1 : i < ds.length) (h : ∀ x, ds[i.toNat]? = some x → f i.toNat x) : ixD ds i f := by
  unfold ixD
  have e1 : ixN ds.length i = some i.toNat := by
    unfold ixN
    rw [if_pos h0, if_pos h1]
  have e2 : ds[i.toNat]? = some ds[i.toNat] := List.getElem?_eq_getElem (by omega)
  rw [e1]
  show (ds[i.toNat]?).elim False (f i.toNat)
  rw [e2]
  exact h _ e2
theorem look_mkL {sl : List Sl} {b : Bool} {ds : List D} : look sl (mkS true b ds) = some (.list ds) := by
  cases b <;> rfl
theorem okS_mkL {b : Bool} {ds : List D} : okS (mkS true b ds) = true := by
  cases b <;> rfl
end
end G
namespace G
open PySem PySem.Spec PyProof.Rows L2
variable {C : Cn} {xc : XC C}
section
variable {t t1 t2 ta tb tc : TE} {k k1 k2 ka kb kc ko : KE} {n m : Nat} {K : PySem.W.Frag}
/-- the tree that is given -/
def giv : Sl → Option D
  | .ow true d => some d
  | .fz d => if nolist d = true then some d else none
  | _ => none
def kCallV (W : Tw) (n : Nat) (ka : KE) : KE := fun γ q => ka γ fun γ1 => match γ1.tm with
  | s :: tm => (giv s).elim False fun d0 => (datN γ1.sl n tm).elim False fun x => W (x.1 ++ [d0]) fun d => q ⟨γ1.sl, own d :: x.2, γ1.n⟩
  | _ => False
end
end G
namespace G
open PySem PySem.Spec PyProof.Rows L2
variable {C : Cn} {xc : XC C}
section
variable {t t1 t2 ta tb tc : TE} {k k1 k2 ka kb kc ko : KE} {n m : Nat} {K : PySem.W.Frag}
/-- how many bits -/
def vBits : D → (D → Prop) → Prop := fun d q => match d with | .int i => q (.int (Builtin.Int.intBits i : Nat)) | _ => False
/-- range(a, b, -1) -/
def rgD (a b : Int) : List Int := (List.range (a - b).toNat).map fun i => a - (i : Nat)
def kRngD (ka kb kc : KE) : KI := fun γ q => ka γ fun γ1 => kb γ1 fun γ2 => kc γ2 fun γ3 => popI γ3 fun c γ4 => popI γ4 fun j γ5 => popI γ5 fun i γ6 => (c = -1 ∧ -1000000000000 ≤ i ∧ i ≤ 1000000000000 ∧ -1000000000000 ≤ j ∧ j ≤ 1000000000000) ∧ q ((rgD i j).map PyData.int) γ6 ∧ γ6.tm = γ.tm
/-- the last item, all but the last one -/
theorem cutD_last (ds : List D) : cutD ds (some (-1)) none = ds.drop (ds.length - 1) := by
  unfold cutD
  have e1 : HT.sIx ds.length 0 (some (-1)) = ds.length - 1 := by
    show (if (-1 : Int) < 0 then ((-1 : Int) + (ds.length : Int)).toNat else min (-1 : Int).toNat ds.length) = _
    rw [if_pos (by decide)]
    omega
  rw [e1, HT.sIx_none]
  exact List.take_of_length_le (by rw [List.length_drop]; exact Nat.le_refl _)
theorem cutD_init (ds : List D) : cutD ds none (some (-1)) = ds.dropLast := by
  unfold cutD
  have e1 : HT.sIx ds.length ds.length (some (-1)) = ds.length - 1 := by
    show (if (-1 : Int) < 0 then ((-1 : Int) + (ds.length : Int)).toNat else min (-1 : Int).toNat ds.length) = _
    rw [if_pos (by decide)]
    omega
  rw [e1, HT.sIx_none, List.drop_zero, List.dropLast_eq_take]
  congr 1
theorem cutD_lastI (ns : List Int) : cutD (ns.map PyData.int) (some (-1)) none = (ns.drop (ns.length - 1)).map PyData.int := by
  rw [cutD_last, List.length_map, List.map_drop]
theorem cutD_initI (ns : List Int) : cutD (ns.map PyData.int) none (some (-1)) = ns.dropLast.map PyData.int := by
  rw [cutD_init, List.map_dropLast]
/-- in a list of ints -/
theorem inV_intsD (t : Int) (ns : List Int) : inV (.int t) ((ns.map PyData.int).map vOf) = decide (t ∈ ns) := by
  have : (ns.map PyData.int).map vOf = ns.map V.int := by
    rw [List.map_map]
    rfl
  rw [this, inV_ints]
theorem allflat_ints (ns : List Int) : (ns.map PyData.int).all flatD = true := by
  rw [List.all_map, List.all_eq_true]
  intro x _
  rfl
theorem reS_io {e d : D} {b : Bool} : reS (.io e) b d = .io d := rfl
theorem reS_ow {e d : D} {c b : Bool} : reS (.ow c e) b d = .ow b d := rfl
theorem putS_set {sl : List Sl} {i : Nat} {b : Bool} {d : D} : putS sl i b d = sl.set i (reS ((sl[i]?).getD .jk) b d) := rfl
theorem datS_io {d : D} : datS (.io d) = some d := rfl
theorem ownF_ow {d : D} : ownF (some (.ow true d)) = some (.ow true d, d) := rfl
theorem ownF_io {d : D} : ownF (some (.io d)) = some (.io d, d) := rfl
theorem edI_rt {G : D → D → Prop} {s : Sl} {γ : VSt} : (edI G).rt s γ = ioD γ fun e => rtN (fun d => G d e) s := rfl
theorem edI_nx {G : D → D → Prop} {γ : VSt} : (edI G).nx γ = ioD γ fun e => G .none e := rfl
theorem ioD_c {e : D} {sl tm : List Sl} {n : Int} {f : D → Prop} : ioD ⟨.io e :: sl, tm, n⟩ f = f e := rfl
theorem giv_ow {d : D} : giv (.ow true d) = some d := rfl
theorem giv_fz {d : D} : giv (.fz d) = if nolist d = true then some d else none := rfl
theorem giv_own {d : D} : giv (own d) = some d := by
  unfold own
  cases h : nolist d with
  | true => rw [if_pos rfl]; show (if nolist d = true then some d else none) = _; rw [h]; rfl
  | false => rw [if_neg (by simp)]; rfl
theorem nolists_app : ∀ (a b : List D), nolists (a ++ b) = (nolists a && nolists b)
  | [], b => by simp [nolists]
  | d :: a, b => by simp [nolists, nolists_app a b, Bool.and_assoc]
def kLit (d : D) : KE := fun γ q => q ⟨γ.sl, own d :: γ.tm, γ.n⟩
def kLits (ds : List D) : KE := fun γ q => q ⟨γ.sl, (ds.map own).reverse ++ γ.tm, γ.n⟩
theorem so_lit_c {v : V} {d : D} (h : Sca v d) (hn : nolist d = true) : SoE xc (tC v) (kLit d) := fun γ Θ σ H Q q R hk w => by
  unfold kLit at hk
  have e : own d = .fz d := if_pos hn
  rw [e] at hk
  exact w _ v H hk (R.push fun Z => h H Z)
theorem so_lits_nil : SoA xc 0 tNil (kLits []) := fun γ Θ σ H Q q R hk w => w γ [] H rfl hk R
theorem so_lits_cons {ts : TA} {d : D} {ds : List D} (h : SoE xc t (kLit d)) (hs : SoA xc n ts (kLits ds)) : SoA xc (n + 1) (tCons t ts) (kLits (d :: ds)) := fun γ Θ σ H Q q R hk w => by
  refine so_cons h hs γ Θ σ H Q q R ?_ w
  show q ⟨γ.sl, (ds.map own).reverse ++ own d :: γ.tm, γ.n⟩
  have e : (((d :: ds).map own).reverse ++ γ.tm : List Sl) = (ds.map own).reverse ++ own d :: γ.tm := by simp
  rw [← e]
  exact hk
theorem popC_own (ds : List D) (tm : List Sl) : popC ds.length ((ds.map own).reverse ++ tm) = some ((true, ds), tm) := by
  have main : ∀ (es : List D), popC es.length ((es.map own) ++ tm) = some ((true, es.reverse), tm) := by
    intro es
    induction es with
    | nil => rfl
    | cons e es ih =>
      show popC (es.length + 1) (own e :: (es.map own ++ tm)) = _
      simp only [popC, con_own, Option.bind_some, ih]
      simp
  have := main ds.reverse
  rw [List.length_reverse, List.map_reverse, List.reverse_reverse] at this
  exact this
theorem so_lit_lst {ts : TA} {ds : List D} (h : SoA xc ds.length ts (kLits ds)) (hn : ds.length ≤ 10000000 := by decide) : SoE xc (tLst ts) (kLit (.list ds)) := fun γ Θ σ H Q q R hk w => by
  refine so_lst h hn γ Θ σ H Q q R ?_ w
  show (popC ds.length ((ds.map own).reverse ++ γ.tm)).elim False _
  rw [popC_own]
  exact hk
theorem so_lit_tup {ts : TA} {ds : List D} (h : SoA xc ds.length ts (kLits ds)) (hn : ds.length ≤ 10000000 := by decide) : SoE xc (tTup ts) (kLit (.tuple ds)) := fun γ Θ σ H Q q R hk w => by
  refine so_tup h hn γ Θ σ H Q q R ?_ w
  show (popC ds.length ((ds.map own).reverse ++ γ.tm)).elim False _
  rw [popC_own]
  exact hk
end
end G
namespace G
open PySem PySem.Spec PyProof.Rows L2
variable {C : Cn} {xc : XC C}
section
variable {κ : Type} [DecidableEq κ]
def valM {α : Type} (m : List (κ × α)) (k : κ) : Option α := (m.find? fun kv => decide (kv.1 = k)).map (·.2)
def putM {α : Type} (m : List (κ × α)) (k : κ) (d : α) : List (κ × α) := if (m.any fun kv => decide (kv.1 = k)) = true then m.map (fun kv => if kv.1 = k then (kv.1, d) else kv) else m ++ [(k, d)]
variable {α : Type} {m : List (κ × α)} {k j : κ} {d : α}
theorem valM_nil : valM ([] : List (κ × α)) k = none := rfl
theorem valM_cons {p : κ × α} : valM (p :: m) k = if p.1 = k then some p.2 else valM m k := by
  unfold valM
  rw [List.find?_cons]
  by_cases h : p.1 = k
  · simp [h]
  · simp [h]
end
section
variable {κ : Type} [DecidableEq κ] {H : Hp} {Z : Reg} {kvs : List (κ × V)} {m : List (κ × D)} {k : κ} {v : V} {d : D}
theorem DVs.length (h : DVs H Z kvs m) : kvs.length = m.length := by
  induction h with
  | nil => rfl
  | cons _ _ ih => rw [List.length_cons, List.length_cons, ih]
theorem DVs.val (h : DVs H Z kvs m) (k : κ) : (valV kvs k = none ∧ valM m k = none) ∨ ∃ v d, valV kvs k = some v ∧ valM m k = some d ∧ Tr H Z [] v d := by
  induction h with
  | nil => exact .inl ⟨rfl, rfl⟩
  | @cons k' v d kvs m t _ ih =>
    by_cases hk : k' = k
    · exact .inr ⟨v, d, valV_pos hk, by rw [valM_cons, if_pos hk], t⟩
    · rw [valV_neg hk, valM_cons, if_neg hk]
      exact ih
theorem DVs.map (h : DVs H Z kvs m) (t : Tr H Z [] v d) : DVs H Z (kvs.map fun kv => if kv.1 = k then (kv.1, v) else kv) (m.map fun kv => if kv.1 = k then (kv.1, d) else kv) := by
  induction h with
  | nil => exact .nil
  | @cons k' v' d' kvs m t' _ ih =>
    rw [List.map_cons, List.map_cons]
    by_cases hk : k' = k
    · simp only [hk, if_true]
      exact .cons t ih
    · simp only [hk, if_false]
      exact .cons t' ih
end
def keyD : D → Option Key
  | .int i => some (.inl i)
  | .str x => some (.inr x)
  | _ => none
def keysD : List D → Option (List Key)
  | [] => some []
  | d :: ds => (keyD d).bind fun k => (keysD ds).map (k :: ·)
/-- the pairs of a dict that is a tree -/
def boxM : D → Option (List (Key × D))
  | .dict [(.list ys, .list ds)] => if ys.length = ds.length then (keysD ys).map fun ks => ks.zip ds else none
  | _ => none
theorem keysD_dOf : ∀ ks : List Key, keysD (ks.map dOf) = some ks
  | [] => rfl
  | .inl i :: ks => by rw [List.map_cons]; simp only [keysD, dOf, keyD, Option.bind_some, keysD_dOf ks, Option.map_some]
  | .inr x :: ks => by rw [List.map_cons]; simp only [keysD, dOf, keyD, Option.bind_some, keysD_dOf ks, Option.map_some]
theorem boxM_dictD (m : List (Key × D)) : boxM (dictD m) = some m := by
  show (if _ then _ else _) = _
  rw [if_pos (by simp), show (m.map fun kv => dOf kv.1) = (m.map (·.1)).map dOf by rw [List.map_map]; rfl, keysD_dOf]
  simp only [Option.map_some]
  congr 1
  induction m with
  | nil => rfl
  | cons x xs ih => simp [ih]
theorem Trs.consE {H : Hp} {Z : Reg} {v : V} {vs : List V} {d : D} {ds : List D} (h : Trs H Z [] (v :: vs) (d :: ds)) : Tr H Z [] v d ∧ Trs H Z [] vs ds := by
  generalize hS : ([] : List Addr) = S0 at h
  cases h with
  | @cons S T _ _ _ _ t ts =>
    obtain ⟨h1, h2⟩ := List.append_eq_nil_iff.mp hS.symm
    subst h1 h2
    exact ⟨t, ts⟩
theorem boxM_tr {H : Hp} {Z : Reg} {v : V} {d : D} {m : List (Key × D)} (t : Tr H Z [] v d) (e : boxM d = some m) : ∃ a kvs, v = .ref a ∧ H a = some (.dK kvs) ∧ DVs H Z kvs m := by
  cases t with
  | @boxZ a t vs ds hz b ts =>
    cases b with
    | ins _ _ => cases e
    | @dK ks vs e1 l1 =>
      simp only [boxM, List.length_map] at e
      split at e
      rotate_left
      · cases e
      rename_i hl
      rw [keysD_dOf] at e
      simp only [Option.map_some, Option.some.injEq] at e
      subst e
      refine ⟨a, _, rfl, e1, ?_⟩
      clear e1
      induction ks generalizing vs ds with
      | nil => exact .nil
      | cons k ks ih =>
        match vs, ds, ts, l1, hl with
        | v :: vs, d :: ds, ts, l1, hl =>
          obtain ⟨t, ts⟩ := ts.consE
          exact .cons t (ih ts (by simpa using l1) (by simpa using hl))
  | _ => cases e
/-- what a dict says of a key -/
def dgS (s : Sl) (y : D) : Option (Option D) := match s with
  | .dc m => (keyD y).map fun k => valM m k
  | .dt m => match y with
    | .tuple ys => (keysD ys).map fun ks => valM m ks
    | _ => none
  | .fz d => (boxM d).bind fun m => (keyD y).map fun k => valM m k
  | _ => none
/-- the dict behind d[y] = d -/
def dpS (s : Sl) (y d : D) : Option Sl := match s with
  | .dc m => (keyD y).map fun k => .dc (putM m k d)
  | .dt m => match y with
    | .tuple ys => (keysD ys).map fun ks => .dt (putM m ks d)
    | _ => none
  | _ => none
def dlS : Sl → Nat
  | .dc m => m.length
  | .dt m => m.length
  | _ => 0
def isDc : Option Sl → Prop
  | some (.fz d) => (boxM d).isSome = true
  | some (.dc _) => True
  | some (.dt _) => True
  | _ => False
section
variable {C : Cn} {Z : Reg} {S1 S2 : List Addr} {γ : VSt} {Θ : List V} {σ : L2.St} {H H' : Hp} {sl tm : List Sl} {n n' : Int} {v : V} {s : Sl} {y d : D} {i : Nat}
theorem Rel.isDc (R : Rel C γ Θ σ H) (h : isDc γ.sl[i]?) : ∃ a, σ[i]? = some (some (.ref a)) := by
  obtain ⟨Z, S1, S2, X⟩ := R
  cases e : γ.sl[i]? with
  | none => rw [e] at h; exact h.elim
  | some s =>
    rw [e] at h
    obtain ⟨v, T, R, ev, en, _⟩ := X.es.at e
    cases en with
    | dc e t => exact ⟨_, ev⟩
    | dt e t => exact ⟨_, ev⟩
    | @fz v d t =>
      obtain ⟨m, em⟩ := Option.isSome_iff_exists.mp h
      obtain ⟨a, kvs, rfl, _⟩ := boxM_tr t em
      exact ⟨_, ev⟩
    | _ => exact h.elim
end
section
variable {t ta tb : TE} {k ka kb : KE}
def kDNew : KE := fun γ q => q ⟨γ.sl, .dc [] :: γ.tm, γ.n⟩
def kDNewT : KE := fun γ q => q ⟨γ.sl, .dt [] :: γ.tm, γ.n⟩
theorem okS_dc {m : List (Key × D)} : okS (.dc m) = true := rfl
theorem okS_dt {m : List (List Key × D)} : okS (.dt m) = true := rfl
theorem noAl_dc {i : Nat} {m : List (Key × D)} {tm : List Sl} : noAl i (.dc m :: tm) = noAl i tm := by simp [noAl]
theorem noAl_dt {i : Nat} {m : List (List Key × D)} {tm : List Sl} : noAl i (.dt m :: tm) = noAl i tm := by simp [noAl]
def topK (γ : VSt) (q : D → VSt → Prop) : Prop := match γ.tm with
  | .fz y :: tm => q y ⟨γ.sl, tm, γ.n⟩
  | _ => False
/-- d[y] -/
def kDGet (i : Nat) (ky : KE) : KE := fun γ q => isDc γ.sl[i]? ∧ ky γ fun γ1 => topK γ1 fun y γ2 => (γ2.sl[i]?).elim False fun s => (dgS s y).elim False fun r => ∃ d, r = some d ∧ q ⟨γ2.sl, .fz d :: γ2.tm, γ2.n⟩
/-- y in d -/
def kDIn (neg : Bool) (ky : KE) (i : Nat) : KE := fun γ q => ky γ fun γ1 => topK γ1 fun y γ2 => (γ2.sl[i]?).elim False fun s => (dgS s y).elim False fun r => q ⟨γ2.sl, .fz (.bool (neg != r.isSome)) :: γ2.tm, γ2.n⟩
/-- d[y] = v -/
def kDPut (i : Nat) (kv ky : KE) : KS := fun γ e => kv γ fun γ1 => match γ1.tm with
  | .fz d :: _ => isDc γ1.sl[i]? ∧ ky γ1 fun γ2 => match γ2.tm with
    | .fz y :: .fz d :: tm => (γ2.sl[i]?).elim False fun s => (dpS s y d).elim False fun s' => if noAl i tm = true then dlS s < 10000000 ∧ e.nx ⟨γ2.sl.set i s', tm, γ2.n⟩ else False
    | _ => False
  | _ => False
/-- a, b, c = x, y, z -/
def kPar3 (i j l : Nat) (ka : KE) : KS := fun γ e => ka γ fun γ1 => match γ1.tm with
  | s3 :: s2 :: s1 :: tm => (okS s3 = true ∧ okS s2 = true ∧ okS s1 = true ∧ noAl i tm = true ∧ noAl j tm = true ∧ noAl l tm = true) ∧ e.nx ⟨((γ1.sl.set i s1).set j s2).set l s3, tm, γ1.n⟩
  | _ => False
end
end G
namespace G
open PySem PySem.Spec PyProof.Rows L2
variable {C : Cn} {xc : XC C}
section
variable {ts : TA} {ka : KE} {n : Nat}
/-- the name i, read at depth j of the stack, is given away there -/
def kSink (j i : Nat) (ka : KE) : KE := fun γ q => ka γ fun γ1 => match γ1.sl[i]? with
  | some (.ow b d) => γ1.tm[j]? = some (.al i []) ∧ noAl i (γ1.tm.set j .jk) = true ∧ q ⟨γ1.sl.set i .jk, γ1.tm.set j (.ow b d), γ1.n⟩
  | some (.fz d) => γ1.tm[j]? = some (.fz d) ∧ q γ1
  | _ => False
end
end G
namespace G
open PySem PySem.Spec PyProof.Rows L2
variable {C : Cn} {xc : XC C}
/-- a dict's entries, whatever its keys are -/
def DSz (h : Heap) (a : Addr) (n : Nat) : Prop := ∃ o es ep, h.get? a = some o ∧ o.ExactDict ∧ o.data = .dict es ep ∧ es.size = n
section
variable {prog : Program} {w : World} {A : Around} {E : Value → Shared → Prop} {s : Shared} {a : Addr} {n : Nat}
theorem DSz.ty (m : DSz s.heap a n) : s.TypeIs (.ref a) "dict" :=
  let ⟨o, _, _, e1, e2, _⟩ := m
  ⟨o, e1, e2.1⟩
end
section
variable {C : Cn} {Z : Reg} {S1 S2 : List Addr} {γ : VSt} {Θ : List V} {σ : L2.St} {H : Hp} {i : Nat}
def kLenD (i : Nat) : KE := fun γ q => match γ.sl[i]? with
  | some (.dc m) => q ⟨γ.sl, .fz (.int m.length) :: γ.tm, γ.n⟩
  | some (.dt m) => q ⟨γ.sl, .fz (.int m.length) :: γ.tm, γ.n⟩
  | _ => False
end
end G
namespace G
open PySem PySem.Spec PyProof.Rows L2
variable {C : Cn} {xc : XC C}
section
variable {K : PySem.W.Frag} {ka : KE}
def kTupOf (ka : KE) : KE := fun γ q => ka γ fun γ1 => match γ1.tm with
  | .ow true (.list ds) :: tm => q ⟨γ1.sl, own (.tuple ds) :: tm, γ1.n⟩
  | s :: tm => (shr γ1.sl s true).elim False fun ds => q ⟨γ1.sl, .fz (.tuple ds) :: tm, γ1.n⟩
  | _ => False
end
end G
namespace G
open PySem PySem.Spec PyProof.Rows L2
variable {C : Cn} {xc : XC C}
abbrev tame (d : D) : Prop := SeqAt.shaped d = true ∧ d.depth ≤ 60
def vInD (neg : Bool) : D → D → (D → Prop) → Prop := fun d1 d2 q => match d2 with
  | .list es => tame d1 ∧ PyData.canLayAll0 es = true ∧ q (.bool (neg ^^ es.any fun e => PyData.eqv e d1))
  | .tuple es => tame d1 ∧ PyData.canLayAll0 es = true ∧ q (.bool (neg ^^ es.any fun e => PyData.eqv e d1))
  | _ => False
def vIdxD : List D → (D → Prop) → Prop := fun ds q => match ds with
  | [.list es, d] => ∃ j : Nat, tame d ∧ PyData.canLayAll0 es = true ∧ (∃ e, es[j]? = some e ∧ PyData.eqv e d = true) ∧ (∀ (m : Nat) (e : D), m < j → es[m]? = some e → PyData.eqv e d = false) ∧ j < 10000000 ∧ q (.int (j : Nat))
  | _ => False
end G
namespace G
open PySem PySem.Spec PyProof.Rows L2
variable {C : Cn} {xc : XC C}
theorem vals_ints : ∀ {ns : List Int} {us : List Value}, Vals (ns.map V.int) us → IntsAre us ns
  | [], _, h => by cases h; exact .nil
  | n :: ns, _, h => by
    cases h with
    | cons r t =>
      obtain ⟨k, rfl⟩ := r
      exact .cons n k (vals_ints t)
section
variable {K : PySem.W.Frag} {t : TE} {k : KE}
/-- len(set(..)) of numbers -/
def kLenSet (ke : KE) : KE := fun γ q => ke γ fun γ1 => (datN γ1.sl 1 γ1.tm).elim False fun x => match x.1 with
  | [.list es] => (intsOf es).elim False fun ns => ns.length ≤ 4000 ∧ ∀ out : List Int, out.Nodup → (∀ k, k ∈ out ↔ k ∈ ns) → q ⟨γ1.sl, .fz (.int (out.length : Nat)) :: x.2, γ1.n⟩
  | _ => False
end
section
variable {ta tb : TE} {ka kb : KE}
/-- a list of numbers, so many times -/
def kRepN (ka kb : KE) : KE := fun γ q => ka γ fun γ1 => kb γ1 fun γ2 => match γ2.tm with
  | .fz (.int j) :: s :: tm => (shr γ2.sl s true).elim False fun ds => (intsOf ds).elim False fun ns => (-1000000 ≤ j ∧ j ≤ 1000000 ∧ ns.length ≤ 1) ∧ q ⟨γ2.sl, .ow true (dI (List.replicate j.toNat ns).flatten) :: tm, γ2.n⟩
  | _ => False
end
end G
namespace G
open PySem PySem.Spec PyProof.Rows L2
variable {C : Cn} {xc : XC C}
/-- m by place, the others by name: i tells which of all these values is the parameter's -/
def gKwM (m : Nat) (ix : List Nat) (us ws : List Value) : List Value := if us.length = m then ix.filterMap fun i => (us ++ ws)[i]? else []
def gKwMV (m : Nat) (ix : List Nat) (vs zs : List V) : List V := if vs.length = m then ix.filterMap fun i => (vs ++ zs)[i]? else []
theorem vals_app {vs zs : List V} {us ws : List Value} (r : Vals vs us) (rz : Vals zs ws) : Vals (vs ++ zs) (us ++ ws) := by
  induction r with
  | nil => exact rz
  | cons h _ ih => exact .cons h ih
theorem kb_ofM {K : PySem.W.Frag} {fd : FuncData} {ps ks : List Str} {m : Nat} {ix : List Nat} (h0 : 0 < ps.length) (h : ∀ us ws : List Value, us.length = m → (ix.filterMap fun i => (us ++ ws)[i]?).length = ps.length → bindArgs fd ⟨us, ks.zip ws⟩ = pure (ps.zip (ix.filterMap fun i => (us ++ ws)[i]?))) : KBinds K fd ps ks (gKwM m ix) (gKwMV m ix) := by
  refine ⟨fun s us ws _ hl => ?_, fun {vs us zs ws} r rz => ?_⟩
  · unfold gKwM at hl ⊢
    split at hl
    · rename_i e
      rw [if_pos e]
      exact .of_eq (h us ws e hl)
    · change ([] : List Value).length = ps.length at hl
      simp at hl
      omega
  · unfold gKwM gKwMV
    have el := r.length
    by_cases e : vs.length = m
    · rw [if_pos e, if_pos (by omega)]
      exact vals_pick (vals_app r rz) ix
    · rw [if_neg e, if_neg (by omega)]
      exact .nil
def kCallTM (W : Tw) (ix : List Nat) (n : Nat) (ka kb : KE) : KE := fun γ q => ka γ fun γ1 => kb γ1 fun γ2 => (datN γ2.sl n γ2.tm).elim False fun x => W (ix.filterMap fun i => x.1[i]?) fun d => q ⟨γ2.sl, own d :: x.2, γ2.n⟩
end G
namespace G
open PySem PySem.Spec PyProof.Rows L2
variable {C : Cn} {xc : XC C}
section
variable {ka : KE}
def kDivmod (ka : KE) : KE := fun γ q => ka γ fun γ1 => (datN γ1.sl 2 γ1.tm).elim False fun x => match x.1 with
  | [.int i, .int j] => CDiv i j ∧ q ⟨γ1.sl, .fz (.tuple [.int (i / j), .int (i % j)]) :: x.2, γ1.n⟩
  | _ => False
end
end G
namespace G
open PySem PySem.Spec PyProof.Rows L2 PySem.W
variable {C : Cn} {xc : XC C}
section
variable {K : PySem.W.Frag} {ts tk : TA} {ka kb : KE}
def kMaxDef (ka kb : KE) : KE := fun γ q => ka γ fun γ1 => kb γ1 fun γ2 => (datN γ2.sl 2 γ2.tm).elim False fun x => match x.1 with
  | [.list es, .int i] => (intsOf es).elim False fun ns => (ns = [] → q ⟨γ2.sl, .fz (.int i) :: x.2, γ2.n⟩) ∧ ∀ m, m ∈ ns → (∀ y, y ∈ ns → y ≤ m) → q ⟨γ2.sl, .fz (.int m) :: x.2, γ2.n⟩
  | _ => False
/-- repr([..]) of things that go on to be held -/
def kReprL (n : Nat) (ka : KE) : KE := fun γ q => ka γ fun γ1 => (datN γ1.sl n γ1.tm).elim False fun x => vRepr [.list x.1] fun d => q ⟨γ1.sl, .fz d :: x.2, γ1.n⟩
end
end G
namespace G
open PySem PySem.Spec PyProof.Rows L2
variable {C : Cn} {xc : XC C}
def lcL2 (i j : Nat) (kt : KT) (ke : KE) : List D → VSt → (VSt → Prop) → Prop
  | [], γ, q => q γ
  | .tuple [d1, d2] :: ds, γ, q => (noAl i γ.tm = true ∧ noAl j γ.tm = true) ∧ kt ⟨(γ.sl.set i (.fz d1)).set j (.fz d2), γ.tm, γ.n⟩ fun b γ1 => γ1.tm = γ.tm ∧ if b = true then ke γ1 fun γ2 => match γ2.tm with
      | s :: .ow b0 (.list es) :: tm => (con s).elim False fun c => ((noAl i tm = true ∧ noAl j tm = true) ∧ tm = γ.tm.tail ∧ es.length < 10000000) ∧ lcL2 i j kt ke ds ⟨(γ2.sl.set j .jk).set i .jk, .ow (b0 && c.1) (.list (es ++ [c.2])) :: tm, γ2.n⟩ q
      | _ => False
    else lcL2 i j kt ke ds ⟨(γ1.sl.set j .jk).set i .jk, γ1.tm, γ1.n⟩ q
  | _ :: _, _, _ => False
def kLc2 (ki : KI) (i j : Nat) (kt : KT) (ke : KE) : KE := fun γ q => ki γ fun ds γ1 => (noAl i γ1.tm = true ∧ noAl j γ1.tm = true) ∧ lcL2 i j kt ke ds ⟨(γ1.sl.set j .jk).set i .jk, .ow true (.list []) :: γ1.tm, γ1.n⟩ fun γ2 => match γ2.tm with
  | s :: tm => (okS s = true ∧ tm = γ1.tm) ∧ q ⟨γ2.sl, s :: γ.tm, γ2.n⟩
  | _ => False
end G
namespace G
open PySem PySem.Spec PyProof.Rows L2
variable {C : Cn} {xc : XC C}
def chgS : Sl → List Nat → Option (D × (D → Sl))
  | .ow true (.tuple ds), [k] => (ds[k]?).map fun d => (d, fun e => .ow true (.tuple (ds.set k e)))
  | .ow true (.list ds), [k] => (ds[k]?).map fun d => (d, fun e => .ow true (.list (ds.set k e)))
  | .sh d, [k] => if k < 3 then some (d, fun e => .sh e) else none
  | _, _ => none
section
variable {C : Cn} {Z : Reg} {H : Hp} {T0 : List Addr} {w0 v : V} {s : Sl} {d : D} {g : D → Sl} {π : List Nat}
theorem Ent.uniq {A B : List Addr} (h : Ent C Z H A (some w0) s) (k : Ent C Z H B (some w0) s) (e : chgS s π = some (d, g)) : A = B := by
  cases h with
  | ow t => cases k with
    | ow t' => exact repU _ _ _ _ (Tr.repO _ _ _ t) (Tr.repO _ _ _ t')
  | @sh a u S d0 ha t => cases k with
    | @sh _ u' S' _ ha' t' =>
      rw [ha] at ha'
      cases ha'
      exact repU _ _ _ _ (Tr.repO _ _ _ t) (Tr.repO _ _ _ t')
  | jk _ => cases e
  | fz _ => cases e
  | sp _ _ => cases e
  | al _ _ _ => cases e
  | pu _ => cases e
  | io _ _ => cases e
  | dc _ _ => cases e
  | dt _ _ => cases e
  | xv _ _ => cases e
  | ho _ _ _ => cases e
  | xw _ => cases e
  | ob _ _ _ => cases e
def kCallIA (W : TwI) (n : Nat) (ka : KE) : KE := fun γ q => ka γ fun γ1 => (datN γ1.sl n γ1.tm).elim False fun x => match x.2 with
  | .al i π :: r => (nolists x.1 = true ∧ noAl i r = true) ∧ ((γ1.sl[i]?).bind fun s => chgS s π).elim False fun s => W (s.1 :: x.1) fun d e => q ⟨γ1.sl.set i (s.2 e), own d :: r, γ1.n⟩
  | _ => False
end
def itL : Sl → Option (List Sl)
  | .fz (.list ds) => some (ds.map .fz)
  | .ow true (.list ds) => some (ds.map own)
  | _ => none
def kgUnl (n : Nat) (a : KG) : KG := fun γ q => match γ.tm with
  | s :: tm => (itL s).elim False fun ss => ss.length = n ∧ a ⟨γ.sl, ss ++ tm, γ.n⟩ q
  | _ => False
/-- a, b = thrice(purse, frozen, owned) -/
def kThr (ka : KE) (i j : Nat) : KS := fun γ e => ka γ fun γ1 => match γ1.tm with
  | .ow true (.tuple gs) :: .fz (.tuple ts) :: .pu :: r => (1 ≤ γ1.n ∧ ts.length = 3 ∧ gs.length = 3 ∧ i ≠ j ∧ noAl i r = true ∧ noAl j r = true) ∧
      e.nx ⟨(γ1.sl.set i (.fz (.tuple ts))).set j (.ow true (.tuple gs)), r, γ1.n - 1⟩ ∧
      e.nx ⟨(γ1.sl.set i (.fz (.tuple [ts.getD 1 .none, ts.getD 1 .none, ts.getD 1 .none]))).set j (.sh (gs.getD 1 .none)), r, γ1.n - 1⟩
  | _ => False
/-- what is made is frozen -/
def kFz (ke : KE) : KE := fun γ q => ke γ fun γ1 => match γ1.tm with
  | .fz d :: r => q ⟨γ1.sl, .fz d :: r, γ1.n⟩
  | .ow _ d :: r => q ⟨γ1.sl, .fz d :: r, γ1.n⟩
  | _ => False
def kCallW (ka : KE) : KE := fun γ q => ka γ fun γ1 => match γ1.tm with
  | .fz d2 :: .fz (.tuple [.int n, .list es]) :: r => (intsOf es).elim False fun gs => (n ≤ 6 ∧ gs.length ≤ 8 → q ⟨γ1.sl, .fz (dE (n, gs)) :: r, γ1.n⟩) ∧ (¬ (n ≤ 6 ∧ gs.length ≤ 8) → q ⟨γ1.sl, .fz d2 :: r, γ1.n⟩)
  | _ => False
theorem Rel.under {C : Cn} {σ : L2.St} {H : Hp} {sl r : List Sl} {n : Int} {v1 v2 : V} {d1 d2 : D} {Θ : List V} (h : Rel C ⟨sl, .fz d2 :: .fz d1 :: r, n⟩ (v2 :: v1 :: Θ) σ H) : Rel C ⟨sl, .fz d2 :: r, n⟩ (v2 :: Θ) σ H := by
  have h0 := h.pop.pop
  obtain ⟨Z, S1, S2, X⟩ := h
  obtain ⟨A, B, es, Y, f⟩ := RelX.popF (ss := [.fz d2, .fz d1]) (us := [v2, v1]) X rfl
  cases es with
  | cons e2 e1 =>
    cases e2 with
    | fz t2 => exact ⟨Z, S1, _, Y.pushE (Z' := Z) (.fz t2) List.nodup_nil (fun a m => nomatch m) (fun i π z => nomatch z)⟩
theorem datS_sh {d : D} : datS (.sh d) = some (.tuple [d, d, d]) := rfl
theorem chg_sh {d : D} {k : Nat} : chgS (.sh d) [k] = if k < 3 then some (d, fun e => .sh e) else none := rfl
theorem chg_tup {ds : List D} {k : Nat} : chgS (.ow true (.tuple ds)) [k] = (ds[k]?).map fun d => (d, fun e => .ow true (.tuple (ds.set k e))) := rfl
theorem chg_lst {ds : List D} {k : Nat} : chgS (.ow true (.list ds)) [k] = (ds[k]?).map fun d => (d, fun e => .ow true (.list (ds.set k e))) := rfl
end G
namespace G
open PySem PySem.Spec PyProof.Rows L2
end G
namespace G
open PySem PySem.Spec PyProof.Rows L2
variable {C : Cn} {xc : XC C}
def vLenS : List D → (D → Prop) → Prop := fun ds q => match ds with
  | [.str z] => z.length ≤ 10000000 ∧ q (.int z.length)
  | _ => False
theorem sc_lenS : SoC 1 (fun xs H Q => ∃ z, xs = [.str z] ∧ z.length ≤ sizeLine ∧ Q (.int z.length) H) vLenS := fun H vs T ds Q q r el hf w => by
  unfold vLenS at hf
  split at hf
  · obtain ⟨v, T', rfl, r1⟩ := r.c1
    cases r1
    exact ⟨_, rfl, szle hf.1, w _ _ (sca_int _) hf.2⟩
  · exact hf.elim
def vCatS : D → D → (D → Prop) → Prop := fun d1 d2 q => match d1, d2 with
  | .str a, .str b => a.length + b.length ≤ 10000000 ∧ q (.str (a ++ b))
  | _, _ => False
/-- a sign of a text -/
def vIxS : D → D → (D → Prop) → Prop := fun d1 d2 q => match d1, d2 with
  | .str z, .int i => z.length ≤ 10000000 ∧ (atI z.cps.toList i).elim False fun c => q (.str ⟨#[c]⟩)
  | _, _ => False
theorem sr_ixS : SoR rIxS vIxS := fun H v1 v2 T1 T2 d1 d2 Q q r1 r2 hf w => by
  unfold vIxS at hf
  split at hf
  · cases r1
    cases r2
    obtain ⟨c, e, hq⟩ := elimF hf.2
    exact ⟨_, _, c, rfl, rfl, szle hf.1, e, w _ _ (sca_str _) hq⟩
  · exact hf.elim
theorem vIxS_any {z : Str} {i : Int} {q : D → Prop} (h0 : 0 ≤ i) (h1 : i < z.length) (hz : z.length ≤ 10000000) (h : ∀ c ∈ z.cps.toList, q (.str ⟨#[c]⟩)) : vIxS (.str z) (.int i) q := by
  have hl : z.length = z.cps.toList.length := by simp [Str.length]
  obtain ⟨k, rfl⟩ : ∃ k : Nat, i = k := ⟨i.toNat, by omega⟩
  have hk : k < z.cps.toList.length := by omega
  refine ⟨hz, ?_⟩
  rw [atI_nat (List.getElem?_eq_getElem hk)]
  exact h _ (List.getElem_mem hk)
/-- texts out of data -/
def strsOf : List D → Option (List Str)
  | [] => some []
  | .str s :: ds => (strsOf ds).bind fun r => some (s :: r)
  | _ :: _ => none
theorem strsOf_map (ss : List Str) : strsOf (ss.map PyData.str) = some ss := by
  induction ss with
  | nil => rfl
  | cons n ns ih => simp [strsOf, ih]
theorem strsOf_eq : ∀ {ds : List D} {ns : List Str}, strsOf ds = some ns → ds = ns.map PyData.str
  | [], ns, h => by simp only [strsOf, Option.some.injEq] at h; subst h; rfl
  | d :: ds, ns, h => by
    cases d with
    | str i =>
      simp only [strsOf] at h
      cases e : strsOf ds with
      | none => rw [e] at h; cases h
      | some r =>
        rw [e] at h
        simp only [Option.bind_some, Option.some.injEq] at h
        subst h
        rw [strsOf_eq e]
        rfl
    | _ => cases h
theorem Reps.strsInv {H : Hp} : ∀ {ss : List Str} {vs : List V} {T : List Addr}, Reps H T vs (ss.map PyData.str) → vs = ss.map V.str
  | [], _, _, h => by cases h; rfl
  | s :: ss, _, _, h => by
    cases h with
    | cons h1 h2 =>
      cases h1
      rw [Reps.strsInv h2]
      rfl
abbrev rJoin (K : PySem.W.Frag) : V → List V → Hp → VK → Prop := fun x xs H Q => ∃ a p, ∃ ys : List Str, x = .str a ∧ xs = [.ref p] ∧ (SqL K H p (ys.map V.str) ∨ SqT K H p (ys.map V.str)) ∧
    (ys.map (·.length)).sum + ys.length * a.length ≤ 16777216 ∧ Q (.str (Txt.join a ys)) H
/-- a.join(a list of texts) -/
def kJoin (a : Str) (ke : KE) : KE := fun γ q => ke γ fun γ1 => (datN γ1.sl 1 γ1.tm).elim False fun x => match x.1 with
  | [.list ds] => (strsOf ds).elim False fun ys => (ys.map (·.length)).sum + ys.length * a.length ≤ 16777216 ∧ q ⟨γ1.sl, .fz (.str (Txt.join a ys)) :: x.2, γ1.n⟩
  | _ => False
theorem so_join {K : PySem.W.Frag} {a : Str} {t : TE} {ke : KE} (h : SoE xc t ke) : SoE xc (tM1 (rJoin K) (tC (.str a)) t) (kJoin a ke) := fun γ Θ σ H Q q R hk w => ⟨⟨a, rfl⟩, h γ Θ σ H _ _ R hk fun γ1 v H1 hk1 R1 => by
  obtain ⟨⟨ds0, rr⟩, e, hf⟩ := elimF hk1
  obtain ⟨R3, T, rp, _⟩ := Rel.pops (vs := [v]) (Θ := Θ) (by simpa using R1) rfl e
  dsimp only at hf
  split at hf
  · rename_i ds
    obtain ⟨ys, ey, hl, hq⟩ := elimF hf
    obtain rfl := strsOf_eq ey
    cases rp with
    | cons r1 r2 =>
      cases r2
      cases r1 with
      | @lst p vs S _ hp rs =>
        rw [rs.strsInv] at hp
        exact ⟨a, p, ys, rfl, rfl, .inl (SqL.of hp), hl, w _ _ H1 hq (R3.push fun Z => .str _)⟩
  · exact hf.elim⟩
def TxOk (s : Str) : Prop := s.length ≤ 20 ∧ PyData.strOk s = true
theorem strOk_iff {s : Str} : PyData.strOk s = true ↔ ∀ c ∈ s.cps.toList, c < 0x110000 := by
  unfold PyData.strOk
  rw [Array.all_eq_true]
  refine ⟨fun h c hc => ?_, fun h i hi => ?_⟩
  · obtain ⟨i, hi, rfl⟩ := List.getElem_of_mem hc
    simpa using h i (by simpa using hi)
  · exact decide_eq_true (h _ (by simp))
theorem strOk_app {a b : Str} (ha : PyData.strOk a = true) (hb : PyData.strOk b = true) : PyData.strOk (a ++ b) = true := by
  rw [strOk_iff] at ha hb ⊢
  intro c hc
  have e : (a ++ b).cps.toList = a.cps.toList ++ b.cps.toList := by
    show (a.cps ++ b.cps).toList = _
    simp
  rw [e] at hc
  rcases List.mem_append.mp hc with hc | hc
  · exact ha c hc
  · exact hb c hc
theorem strOk_join {a : Str} (ha : PyData.strOk a = true) : ∀ {ys : List Str}, (∀ y ∈ ys, PyData.strOk y = true) → PyData.strOk (Str.join a ys) = true
  | [], _ => by
    rw [strOk_iff]
    intro c hc
    exact absurd hc (by simp [Str.join, Str.empty])
  | [x], h => h x List.mem_cons_self
  | x :: y :: r, h => strOk_app (strOk_app (h x List.mem_cons_self) ha) (strOk_join ha fun z hz => h z (List.mem_cons_of_mem _ hz))
theorem txt_join {a : Str} (ha : PyData.strOk a = true) {ys : List Str} (h : ∀ y ∈ ys, PyData.strOk y = true) : PyData.strOk (Txt.join a ys) = true ∧ (Txt.join a ys).length ≤ (ys.map (·.length)).sum + ys.length * a.length := by
  have e : Txt.join a ys = Str.join a ys := StrLaws.glued_eq_join a ys
  rw [e]
  exact ⟨strOk_join ha h, StrLaws.join_length_le a ys⟩
theorem sh_txt {s : Str} (h : TxOk s) : Sh 1 205 (.str s) := by
  refine ⟨by simp [PyData.showable], by simp [PyData.depth], ?_⟩
  show (reprText s).length ≤ 205
  have hk := strOk_iff.mp h.2
  have hl : s.cps.toList.length ≤ 20 := by
    have := h.1
    simpa [Str.length] using this
  rw [← reprLen_eq, ← Array.foldl_toList]
  have go : ∀ (q : Nat) (l : List Nat) (n : Nat), (∀ c ∈ l, c < 0x110000) → l.foldl (fun n c => n + (Builtin.Str.reprChar q c).length) n ≤ n + 10 * l.length := fun q l => by
    induction l with
    | nil => intro n _; simp
    | cons c l ih =>
      intro n hc
      have a1 := ih (n + (Builtin.Str.reprChar q c).length) fun x hx => hc x (List.mem_cons_of_mem _ hx)
      have a2 := StrLaws.reprChar_len q c (Nat.lt_trans (hc c List.mem_cons_self) (by decide))
      simp only [List.foldl_cons, List.length_cons]
      omega
  have := go (reprQuote s) s.cps.toList 2 hk
  omega
end G
namespace G
open PySem PySem.Spec PyProof.Rows L2
theorem FnG.imp {P : Program} {w : World} {K : PySem.W.Frag} {mg : Str → Option Value} {base : Heap} {CX : CXT} {k : Nat} {f : Addr} {fd : FuncData} {ps : List Str} {sp sp' : Sp} (F : FnG P w K mg base CX k f fd ps sp) (h : ∀ vs H Q E, sp' vs H Q E → sp vs H Q E) : FnG P w K mg base CX k f fd ps sp' :=
  ⟨fun vs H Q E q => F.len vs H Q E (h _ _ _ _ q), fun A o s H args us vs Q E hg hr e0 bt r q => F.run A o s H args us vs Q E hg hr e0 bt r (h _ _ _ _ q)⟩
structure ErrAt (K : PySem.W.Frag) (mg : Str → Option Value) (x : Str) (st : Stmt) (C fI : Addr) (fd : FuncData) : Prop where
  gl : mg x = some (.ref C)
  T : OexC K C
  nv : PySem.W.findIn K (.ref C) "value" = some none
  iC : PySem.W.findIn K (.ref C) "__init__" = some (some (.ref fI))
  tI : PySem.W.typeIn K (.ref fI) = some (.type "function")
  F : Fun K "__init__" "PileError.__init__" st fI fd
  bd : Binds K fd ["self", "value"] []
  ex : PySem.W.exmOne K (.ref C) (.ref C) = some true
  gV : mg "ValueError" = none
  vV : PySem.W.findCls K (.type "ValueError") (.type "type") "__init__" = some (.val (.builtin "ValueError.__init__"))
  xf : XfC K C
theorem oex_mk {K : PySem.W.Frag} {C : Addr} {nm q N bs bm sn sub ab col dd k0 k1 k2 k3 k5} (h : K.lookup C = some (PySem.excClassObj nm q C N bs bm true sn sub ab col dd k0 k1 k2 k3 k5 "ValueError.__new__")) (r : PySem.HandSPX.refsVE bm = true)
    (sa : PySem.W.findIn K (.ref C) "__setattr__" = some (some (.builtin "object.__setattr__"))) (exC : PySem.W.subIn K (.ref C) (.type "BaseException") = some true) (tyC : PySem.W.typeIn K (.ref C) = some (.type "type")) (kC : PySem.W.keepIn K (.ref C) = true) : OexC K C :=
  ⟨⟨nm, q, N, bs, bm, sn, sub, ab, col, dd, k0, k1, k2, k3, k5, h, r⟩, sa, exC, tyC, kC⟩
def spVE (C : Addr) : Sp := fun vs H Q _ => ∃ (a : Addr) (v : V), vs = [.ref a, v] ∧ H a = some (exo a C none) ∧ ∀ dx, H dx = none → dx ≠ a → Q .non (upd (upd H dx (exd dx [("value", v)])) a (exo a C (some dx)))
def tVE (K : PySem.W.Frag) : TS := tSeq (tDrop (tVeI K (tCons (tVar 0) (tCons (tVar 1) tNil)))) (tOst K "value" (tVar 0) (tVar 1))
theorem run_VE {K : PySem.W.Frag} {mg : Str → Option Value} {x : Str} {st : Stmt} {C fI : Addr} {fd : FuncData} (T : ErrAt K mg x st C fI fd) {vs : List V} {H : Hp} {Q : VK} {E : XK} (h : spVE C vs H Q E) : tVE K ⟨fun _ H' => Q .non H', Q, fun _ _ => False, fun _ _ => False⟩ (start ["self", "value"] vs) H := by
  obtain ⟨a, v, rfl, ha, q⟩ := h
  unfold tVE
  exact ⟨_, rfl, _, rfl, a, C, [v], rfl, by simp, T.T, ha, _, rfl, _, rfl, a, C, rfl, T.T, T.nv, .inl ⟨ha, fun dx h1 h2 => q dx h1 h2⟩⟩
end G
namespace G
open PySem PySem.Spec PyProof.Rows L2
variable {C : Cn} {xc : XC C}
section
variable {Z : Reg} {S1 S2 : List Addr} {Θ : List V} {σ : L2.St} {H H' : Hp} {sl tm : List Sl} {n n' : Int} {v : V} {s : Sl} {d : D} {i : Nat}
/-- what is new lies nowhere -/
theorem RelX.fresh (h0 : RelX C Z S1 S2 ⟨sl, tm, n⟩ Θ σ H) {a : Addr} (e : H a = none) : a ∉ S1 ++ S2 ∧ ¬ C.tz Z a ∧ ∀ p b, C.pu = some (p, b) → a ≠ p := by
  refine ⟨fun z => ?_, fun z => ?_, fun p b q z => ?_⟩
  · rcases List.mem_append.mp z with z | z
    · obtain ⟨xs, e1⟩ := h0.es.dom a z
      rw [e] at e1
      cases e1
    · obtain ⟨xs, e1⟩ := h0.et.dom a z
      rw [e] at e1
      cases e1
  · obtain ⟨o, e1⟩ := h0.ex a z
    rw [e] at e1
    cases e1
  · obtain ⟨x, y, w, e1, _⟩ := (h0.pu p b q).1
    rw [← z, e] at e1
    cases e1
end
abbrev TwX := List D → (D → Prop) → (Addr → D → Prop) → Prop
abbrev XH := Addr → D → VSt → Prop
section
variable {ts : TA} {ka : KE} {n : Nat} {W : Tw} {WX : TwX} {X : List D → Addr → D → Prop} {ix : List Nat}
/-- any arguments -/
def kCallX (x : XH) (W : TwX) (n : Nat) (ka : KE) : KE := fun γ q => ka γ fun γ1 => (datN γ1.sl n γ1.tm).elim False fun y => W y.1 (fun d => q ⟨γ1.sl, own d :: y.2, γ1.n⟩) fun c d => x c d ⟨γ1.sl, y.2, γ1.n⟩
def kCallXK (x : XH) (W : TwX) (ix : List Nat) (n : Nat) (ka : KE) : KE := fun γ q => ka γ fun γ1 => (datN γ1.sl n γ1.tm).elim False fun y => W (ix.filterMap fun i => y.1[i]?) (fun d => q ⟨γ1.sl, own d :: y.2, γ1.n⟩) fun c d => x c d ⟨γ1.sl, y.2, γ1.n⟩
def kRaise (x : XH) (c : Addr) (ka : KE) : KS := fun γ _ => ka γ fun γ1 => match γ1.tm with
  | .ow true d :: tm => nolist d = false ∧ x c d ⟨γ1.sl, tm, γ1.n⟩
  | .fz d :: tm => nolist d = true ∧ x c d ⟨γ1.sl, tm, γ1.n⟩
  | _ => False
end
def hdE (i : Nat) (e : KEd) : KEd := ⟨fun γ => noAl i γ.tm = true ∧ e.nx ⟨γ.sl.set i .jk, γ.tm, γ.n⟩, e.rt, fun γ => noAl i γ.tm = true ∧ e.bk ⟨γ.sl.set i .jk, γ.tm, γ.n⟩, fun γ => noAl i γ.tm = true ∧ e.ct ⟨γ.sl.set i .jk, γ.tm, γ.n⟩⟩
def hdX (K : PySem.W.Frag) (i : Nat) (e : KEd) : List (Value × (Addr → Addr → Addr → KS)) → XH
  | [] => fun _ _ _ => False
  | (c, h) :: r => fun cls d γ => ∃ b, PySem.W.exmOne K (.ref cls) c = some b ∧ (b = true → noAl i γ.tm = true ∧ ∀ a dd, h a cls dd ⟨γ.sl.set i (.xv a dd d), [], γ.n⟩ (hdE i e)) ∧ (b = false → hdX K i e r cls d γ)
def kTry (K : PySem.W.Frag) (i : Nat) (kb : XH → KS) (hs : List (Value × (Addr → Addr → Addr → KS))) : KS := fun γ e => γ.tm = [] ∧ kb (hdX K i e hs) γ e
/-- e.value in a clause: taken out -/
def kXval (c a dd : Addr) (cls : Addr) (i : Nat) : KE := fun γ q => cls = c ∧ noAl i γ.tm = true ∧ match γ.sl[i]? with
  | some (.xv a' dd' d) => (a' = a ∧ dd' = dd) ∧ q ⟨γ.sl.set i (.xw a dd), own d :: γ.tm, γ.n⟩
  | _ => False
end G
namespace G
open PySem PySem.Spec PyProof.Rows L2
variable {C : Cn} {xc : XC C}
section
variable {t ta tb : TE} {ko ka kb : KE}
def kIns (ko ki ke : KE) : KE := fun γ q => ko γ fun γ1 => isLst γ1 ∧ ki γ1 fun γ2 => ke γ2 fun γ3 => match γ3.tm with
  | .fz (.int y) :: .fz (.int k) :: .al i π :: tm => noAl i tm = true ∧ wrL γ3.sl i π fun b d es => ((b = true ∨ π = []) ∧ ioOk γ3.sl i b) ∧ (nolists es = true ∧ es.length < 10000000 ∧ 0 ≤ k ∧ k < 10000000) ∧ q ⟨putS γ3.sl i b (setP d π (.list (es.take k.toNat ++ [.int y] ++ es.drop k.toNat))), .fz .none :: tm, γ3.n⟩
  | _ => False
end
end G
namespace PySem
open Sem (wp)
open AutoSeq1 (wpAny_loadPart')
open PySem.W (KdxIt kdx_alive)
section
variable {prog : Program} {w : World} {A : Around} {E : Value → Shared → Prop} {s : Shared}
/-- a zip, whatever became of the tuple that it gave out -/
def ZipAny (h : Heap) (z TI TO : Addr) : Prop := IsZip h z TI TO .none ∨ ∃ (T : Addr) (f : Bool), IsZipHeld h z TI TO T f
theorem ZipAny.at {h h' : Heap} {z TI TO : Addr} (x : ZipAny h z TI TO) (k : ∀ o, h.get? z = some o → h'.get? z = some o) : ZipAny h' z TI TO := by
  rcases x with x | ⟨T, f, x⟩
  · exact .inl (k _ x)
  · exact .inr ⟨T, f, k _ x⟩
end
end PySem
namespace L2
open PySem PySem.Spec PyProof.Rows
end L2
namespace G
open PySem PySem.Spec PyProof.Rows L2
variable {C : Cn} {xc : XC C}
section
variable {K : PySem.W.Frag} {ta tb : TE} {ka kb : KE}
def kEz (ka kb : KE) : KI := fun γ q => kZip ka kb γ fun ds γ1 => q (enumD 0 ds) γ1
end
end G
namespace G
open PySem PySem.Spec PyProof.Rows L2
variable {C : Cn} {xc : XC C}
def vSumT : List D → (D → Prop) → Prop := fun ds q => match ds with
  | [.tuple es] => (intsOf es).elim False fun ns => q (.int ns.sum)
  | _ => False
end G
namespace G
open PySem PySem.Spec PyProof.Rows L2
variable {C : Cn} {xc : XC C}
/-- tuple(xs) of a name whose list stays its own -/
def kTupV (i : Nat) : KE := fun γ q => match γ.sl[i]? with
  | some (.ow false (.list ds)) => q ⟨γ.sl, .fz (.tuple ds) :: γ.tm, γ.n⟩
  | _ => False
end G
namespace G
open PySem PySem.Spec PyProof.Rows L2
def vMaxL : List D → (D → Prop) → Prop := fun ds q => match ds with
  | [.list es] => (intsOf es).elim False fun ns => 0 < ns.length ∧ ∀ m, m ∈ ns → (∀ y, y ∈ ns → y ≤ m) → q (.int m)
  | _ => False
end G
namespace G
open PySem PySem.Spec PyProof.Rows L2
variable {C : Cn} {xc : XC C}
section
variable {K : PySem.W.Frag}
/-- xs[k] of names: the item goes out of the list -/
def kIxTake (r k : Nat) : KE := fun γ q => match γ.sl[r]?, γ.sl[k]? with
  | some (.ow true (.list ds)), some (.fz (.int i)) => (noAl r γ.tm = true ∧ 0 ≤ i ∧ i < ds.length) ∧ (ds[i.toNat]?).elim False fun d => q ⟨γ.sl.set r (.ho ds i.toNat), own d :: γ.tm, γ.n⟩
  | _, _ => False
/-- xs[k] = e of names: the place that was left is filled -/
def kgFill (r k : Nat) : KG := fun γ q => match γ.tm, γ.sl[r]?, γ.sl[k]? with
  | s :: tm, some (.ho ds i), some (.fz (.int j)) => (con s).elim False fun c => (c.1 = true ∧ noAl r (s :: tm) = true ∧ j = (i : Int) ∧ i < ds.length) ∧ q ⟨γ.sl.set r (.ow true (.list (ds.set i c.2))), tm, γ.n⟩
  | _, _, _ => False
/-- list(t) of a whole tuple that is given away -/
def kListMv (ka : KE) : KE := fun γ q => ka γ fun γ1 => match γ1.tm with
  | .ow true (.tuple ds) :: tm => q ⟨γ1.sl, .ow true (.list ds) :: tm, γ1.n⟩
  | _ => False
end
end G
namespace G
open PySem PySem.Spec PyProof.Rows L2
section
variable {C : Cn} {Z : Reg} {S1 S2 A : List Addr} {γ : VSt} {Θ : List V} {σ : L2.St} {H H' : Hp} {sl tm : List Sl} {n n' : Int} {v : V} {s : Sl} {d : D} {i : Nat}
/-- a temp that may be frozen -/
def fzD : Sl → Option D
  | .fz d => some d
  | .ow _ d => some d
  | _ => none
def fzA : Nat → List Sl → Option (List D × List Sl)
  | 0, tm => some ([], tm)
  | _ + 1, [] => none
  | n + 1, s :: tm => (fzD s).bind fun d => (fzA n tm).bind fun x => some (x.1 ++ [d], x.2)
end
section
variable {C : Cn} {xc : XC C} {k n : Nat} {ka kb : KE}
def kCallS (W : Tw) (n : Nat) (ka : KE) : KE := fun γ q => ka γ fun γ1 => (fzA n γ1.tm).elim False fun x => W x.1 fun d => q ⟨γ1.sl, .fz d :: x.2, γ1.n⟩
def kCallSK (W : Tw) (ix : List Nat) (n : Nat) (ka : KE) : KE := fun γ q => ka γ fun γ1 => (fzA n γ1.tm).elim False fun x => W (ix.filterMap fun i => x.1[i]?) fun d => q ⟨γ1.sl, .fz d :: x.2, γ1.n⟩
def kCallPS (c : Int) (W : Tw) (n : Nat) (ka : KE) : KE := fun γ q => ka γ fun γ1 => (fzA n γ1.tm).elim False fun x => match x.2 with
  | .pu :: r => (0 ≤ c ∧ c ≤ γ1.n) ∧ W x.1 fun d => q ⟨γ1.sl, .fz d :: r, γ1.n - c⟩
  | _ => False
end
/-- the end of a def whose result may share -/
def rtS (G : D → Prop) : Sl → Prop
  | .fz d => G d
  | .ow _ d => G d
  | _ => False
end G
namespace PySem
open Sem (wp)
end PySem
namespace G
open PySem PySem.Spec PyProof.Rows L2
def v4I (g : Int → Int → Int → Int → Int) : List D → (D → Prop) → Prop := fun ds q => match ds with
  | [.int i, .int j, .int k, .int l] => q (.int (g i j k l))
  | _ => False
end G
namespace G
open PySem PySem.Spec PyProof.Rows L2
section
variable {P : Program} {w : World} {H : Hp} {h : Heap}
mutual
/-- a tree reads as its data -/
theorem Rep.reads (ok : HOk P w H h) : ∀ (d : D) (S : List Addr) (v : V) (u : Value), Rep H S v d → RelV v u → d.hasDict = false → ∃ as, Reads h u d as
  | .none, _, _, _, r, q, _ => by cases r; cases q; exact ⟨_, .none⟩
  | .bool b, _, _, _, r, q, _ => by cases r; cases q; exact ⟨_, .bool b⟩
  | .int i, _, _, _, r, q, _ => by cases r; obtain ⟨t, rfl⟩ := q; exact ⟨_, .int i t⟩
  | .str x, _, _, _, r, q, _ => by cases r; obtain ⟨t, rfl⟩ := q; exact ⟨_, .str x t⟩
  | .list ds, _, _, _, r, q, nd => by
    cases r with
    | lst e rs =>
      cases q
      obtain ⟨z, its, n, rv, ho⟩ := ok _ _ e
      obtain ⟨as, ra⟩ := Reps.readsA ok ds _ _ its rs rv (by simpa [PyData.hasDict] using nd)
      exact ⟨_, .list ho rfl rfl ra⟩
  | .tuple ds, _, _, _, r, q, nd => by
    cases r with
    | tup e rs =>
      cases q
      obtain ⟨z, its, rv, ob, ho, hc, n, hd⟩ := ok _ _ e
      obtain ⟨as, ra⟩ := Reps.readsA ok ds _ _ its rs rv (by simpa [PyData.hasDict] using nd)
      exact ⟨_, .tuple ho hc hd ra⟩
  | .dict _, _, _, _, _, _, nd => by simp [PyData.hasDict] at nd
theorem Reps.readsA (ok : HOk P w H h) : ∀ (ds : List D) (S : List Addr) (vs : List V) (us : List Value), Reps H S vs ds → Vals vs us → PyData.hasDictAll ds = false → ∃ as, ReadsAll h us ds as
  | [], _, _, _, r, q, _ => by cases r; cases q; exact ⟨_, .nil⟩
  | d :: ds, _, _, _, r, q, nd => by
    have nd' : d.hasDict = false ∧ PyData.hasDictAll ds = false := by simpa [PyData.hasDictAll] using nd
    cases r with
    | cons r1 r2 =>
      cases q with
      | cons q1 q2 =>
        obtain ⟨as, h1⟩ := Rep.reads ok d _ _ _ r1 q1 nd'.1
        obtain ⟨bs, h2⟩ := Reps.readsA ok ds _ _ _ r2 q2 nd'.2
        exact ⟨_, .cons h1 h2⟩
end
end
/-- what may be sorted -/
structure SortOk (ds : List D) : Prop where
  len : ds.length ≤ 10000000
  al : PySem.W.AllAlike ds
  so : PySem.W.Sortable ds
  dp : ∀ d ∈ ds, d.depth ≤ 50
def sortD (ds : List D) : List D := ds.mergeSort (PySem.W.dataLe false id)
section
variable {C : Cn} {xc : XC C} {K : PySem.W.Frag} {ts : TA} {ka kb : KE} {n : Nat}
def kSortD (ka : KE) : KE := fun γ q => ka γ fun γ1 => match γ1.tm with
  | s :: tm => (shr γ1.sl s true).elim False fun ds => SortOk ds ∧ q ⟨γ1.sl, newL (sortD ds) :: tm, γ1.n⟩
  | [] => False
/-- what is given an owned tree, and tells True -/
def kCallE (ka : KE) : KE := fun γ q => ka γ fun γ1 => match γ1.tm with
  | .ow true d :: tm => Sh 20 5000000 d ∧ nl d ≤ 40000 ∧ q ⟨γ1.sl, .fz (.bool true) :: tm, γ1.n⟩
  | .fz d :: tm => nolist d = true ∧ Sh 20 5000000 d ∧ nl d ≤ 40000 ∧ q ⟨γ1.sl, .fz (.bool true) :: tm, γ1.n⟩
  | _ => False
end
end G
namespace G
open PySem PySem.Spec PyProof.Rows L2
section
variable {K : PySem.W.Frag} {C : Cn} {xc : XC C}
/-- xs[c] of a name whose spine is owned: a frozen item -/
def kIxF (r : Nat) (c : Int) : KE := fun γ q => match γ.sl[r]? with
  | some (.ow false (.list ds)) => ixD ds c fun _ d => q ⟨γ.sl, .fz d :: γ.tm, γ.n⟩
  | _ => False
/-- o[-1] = e -/
def kgSubN (ko ki : KE) : KG := fun γ q => ko γ fun γ1 => ki γ1 fun γ2 => match γ2.tm with
  | .fz (.int kk) :: .al i π :: s :: tm => (con s).elim False fun c => noAl i tm = true ∧ wrL γ2.sl i π fun b d es => (((b && c.1) = true ∨ π = []) ∧ ioOk γ2.sl i (b && c.1)) ∧ (kk < 0 ∧ 0 ≤ kk + es.length) ∧ q ⟨putS γ2.sl i (b && c.1) (setP d π (.list (es.set (kk + es.length).toNat c.2))), tm, γ2.n⟩
  | _ => False
/-- a list of ints, some times -/
def kRepM (ka kb : KE) : KE := fun γ q => ka γ fun γ1 => kb γ1 fun γ2 => match γ2.tm with
  | .fz (.int j) :: s :: tm => (shr γ2.sl s true).elim False fun ds => (intsOf ds).elim False fun ns => (-1000000 ≤ j ∧ j ≤ 1000 ∧ ns.length ≤ 1000) ∧ q ⟨γ2.sl, .ow true (dI (List.replicate j.toNat ns).flatten) :: tm, γ2.n⟩
  | _ => False
end
end G
namespace G
open PySem PySem.Spec PyProof.Rows L2
end G
namespace G
open PySem PySem.Spec PyProof.Rows L2
variable {C : Cn} {xc : XC C}
theorem Trs.rev {H : Hp} {Z : Reg} : ∀ {ds : List D} {S : List Addr} {vs : List V}, Trs H Z S vs ds → ∃ S', S'.Perm S ∧ Trs H Z S' vs.reverse ds.reverse
  | [], _, _, h => by
    cases h
    exact ⟨_, .refl _, .nil⟩
  | d :: ds, _, _, h => by
    cases h with
    | @cons A B _ _ _ _ h1 h2 =>
      obtain ⟨S', p, q⟩ := Trs.rev h2
      have := Trs.append q (.cons h1 .nil)
      rw [List.append_nil] at this
      rw [List.reverse_cons, List.reverse_cons]
      exact ⟨_, List.perm_append_comm.trans (List.Perm.append_left A p), this⟩
section
variable {t : TE} {ko : KE}
def kClear (ko : KE) : KE := fun γ q => ko γ fun γ1 => isLst γ1 ∧ match γ1.tm with
  | .al i π :: tm => noAl i tm = true ∧ wrL γ1.sl i π fun b d _ => ((b = true ∨ π = []) ∧ ioOk γ1.sl i b) ∧ q ⟨putS γ1.sl i b (setP d π (.list [])), .fz .none :: tm, γ1.n⟩
  | _ => False
def kReverse (ko : KE) : KE := fun γ q => ko γ fun γ1 => isLst γ1 ∧ match γ1.tm with
  | .al i π :: tm => noAl i tm = true ∧ wrL γ1.sl i π fun b d es => ((b = true ∨ π = []) ∧ ioOk γ1.sl i b) ∧ q ⟨putS γ1.sl i b (setP d π (.list es.reverse)), .fz .none :: tm, γ1.n⟩
  | _ => False
end
end G
namespace G
open PySem PySem.Spec PyProof.Rows L2
variable {C : Cn} {xc : XC C}
section
variable {K : PySem.W.Frag} {ka : KE} {ta : TE}
def kSlT (ka : KE) (lo hi : KO) : KE := fun γ q => ka γ fun γ1 => lo γ1 fun a γ2 => hi γ2 fun b γ3 => match γ3.tm with
  | s :: tm => (shr γ3.sl s false).elim False fun ds => ¬ (HT.sIx ds.length 0 a = 0 ∧ HT.sIx ds.length ds.length b = ds.length) ∧ q ⟨γ3.sl, .fz (.tuple (cutD ds a b)) :: tm, γ3.n⟩
  | _ => False
end
end G
namespace G
open PySem PySem.Spec PyProof.Rows L2
/-- an instance as a tree -/
abbrev objD (C : Addr) (ns : List Str) (ds : List D) : D := .dict [(.tuple (.int C :: ns.map PyData.str), .list ds)]
variable {C : Cn} {xc : XC C}
section
variable {Z : Reg} {S1 S2 : List Addr} {γ : VSt} {Θ : List V} {σ : L2.St} {H H' : Hp} {sl tm : List Sl} {n n' : Int} {v : V} {s : Sl} {d : D} {i : Nat}
theorem Bx.obj {a C0 : Addr} {ns : List Str} {vs : List V} (h : Bx H a (.tuple (.int C0 :: ns.map PyData.str)) vs) : ∃ dx, H a = some (.ins C0 dx (ns.zip vs)) ∧ ns.length = vs.length := by
  generalize ht : PyData.tuple (.int C0 :: ns.map PyData.str) = t at h
  cases h with
  | @ins C1 dx ms _ e l =>
    simp only [PyData.tuple.injEq, List.cons.injEq, PyData.int.injEq] at ht
    obtain ⟨h1, h2⟩ := ht
    have h3 : C0 = C1 := Int.ofNat_inj.mp h1
    have h4 : ∀ {a b : List Str}, a.map PyData.str = b.map PyData.str → a = b := fun {a b} h => (List.map_inj_right fun x y z => by injection z).mp h
    have := h4 h2
    subst this h3
    exact ⟨dx, e, l⟩
  | dK _ _ => cases ht
end
/-- an instance of the class -/
def isC (C0 : Addr) : D → Bool
  | .dict [(.tuple (.int c :: _), .list _)] => decide (c = (C0 : Int))
  | _ => false
def isStr (f : Str) : D → Bool
  | .str g => g == f
  | _ => false
/-- which of its fields has the name, and what stands there -/
def fldD (f : Str) : D → Option (Nat × D)
  | .dict [(.tuple (_ :: ns), .list ds)] => (ns.findIdx? (isStr f)).bind fun k => (ds[k]?).map fun d => (k, d)
  | _ => none
def noFld (f : Str) : D → Bool
  | .dict [(.tuple (_ :: ns), .list _)] => (ns.findIdx? (isStr f)).isNone
  | _ => false
def notOw : Sl → Bool
  | .ow _ _ => false
  | _ => true
theorem findIdx_str (f : Str) : ∀ ns : List Str, (ns.map PyData.str).findIdx? (isStr f) = ns.idxOf? f
  | [] => rfl
  | n :: ns => by
    rw [List.map_cons, List.findIdx?_cons, List.idxOf?_cons, findIdx_str f ns]
    rfl
theorem isC_of {C0 : Addr} {H : Hp} {a : Addr} {t : D} {vs : List V} {ds : List D} (b : Bx H a t vs) (h : isC C0 (.dict [(t, .list ds)]) = true) : ∃ ns : List Str, t = .tuple (.int C0 :: ns.map PyData.str) := by
  cases b with
  | @ins C1 dx ns vs e l =>
    have := of_decide_eq_true h
    have e1 : C1 = C0 := Int.ofNat_inj.mp this
    subst e1
    exact ⟨ns, rfl⟩
  | dK e l => exact nomatch h
/-- e.f -/
def kFld (C0 : Addr) (f : Str) (ke : KE) : KE := fun γ q => ke γ fun γ1 => match γ1.tm with
  | s :: tm => (look γ1.sl s).elim False fun d => if isC C0 d && notOw s then (fldD f d).elim False fun kd => q ⟨γ1.sl, subS s kd.1 kd.2 :: tm, γ1.n⟩ else False
  | [] => False
section
variable {t ta : TE} {ke ko ka : KE} {K : PySem.W.Frag} {C0 : Addr} {f m : Str} {n : Nat} {ts : TA} {W : Tw}
/-- an instance of the class stands on the stack, without a field of the name -/
def isOb (C0 : Addr) (m : Str) (γ : VSt) : Prop := match γ.tm with
  | s :: _ => (look γ.sl s).elim False fun d => (isC C0 d && noFld m d) = true
  | [] => False
/-- o.m(..), a def that changes nothing -/
def kMeth (C0 : Addr) (m : Str) (W : Tw) (n : Nat) (ko ka : KE) : KE := fun γ q => ko γ fun γ1 => isOb C0 m γ1 ∧ ka γ1 fun γ2 => (datN γ2.sl (n + 1) γ2.tm).elim False fun x => W x.1 fun d => q ⟨γ2.sl, own d :: x.2, γ2.n⟩
/-- e.f, a property -/
def kProp (C0 : Addr) (f : Str) (W : Tw) (ko : KE) : KE := fun γ q => ko γ fun γ1 => isOb C0 f γ1 ∧ (datN γ1.sl 1 γ1.tm).elim False fun x => W x.1 fun d => q ⟨γ1.sl, own d :: x.2, γ1.n⟩
/-- C(..) -/
def kMake (C0 : Addr) (W : TwI) (n : Nat) (ka : KE) : KE := fun γ q => ka γ fun γ1 => (datN γ1.sl n γ1.tm).elim False fun x => W (objD C0 [] [] :: x.1) fun r e => r = .none ∧ q ⟨γ1.sl, own e :: x.2, γ1.n⟩
end
end G
namespace G
open PySem PySem.Spec PyProof.Rows L2
variable {C : Cn} {xc : XC C}
/-- the instance with the field written -/
def putOD (f : Str) (x : D) : D → D
  | .dict [(.tuple (c :: ns), .list ds)] => match ns.findIdx? (isStr f) with
    | none => .dict [(.tuple (c :: (ns ++ [.str f])), .list (ds ++ [x]))]
    | some k => .dict [(.tuple (c :: ns), .list (ds.set k x))]
  | d => d
def cntF : D → Nat
  | .dict [(.tuple ns, _)] => ns.length
  | _ => 0
/-- self.f = e: a name that holds an instance of its own -/
def kFldPut (C0 : Addr) (i : Nat) (f : Str) (kv : KE) : KS := fun γ e => kv γ fun γ1 => match γ1.tm with
  | s :: tm => (con s).elim False fun c => if c.1 && noAl i tm then match γ1.sl[i]? with
    | some (.io d) => if isC C0 d && decide (cntF d < 900) then e.nx ⟨γ1.sl.set i (.io (putOD f c.2 d)), tm, γ1.n⟩ else False
    | some (.ow true d) => if isC C0 d && decide (cntF d < 900) then e.nx ⟨γ1.sl.set i (.ow true (putOD f c.2 d)), tm, γ1.n⟩ else False
    | _ => False
    else False
  | [] => False
end G
namespace G
open PySem PySem.Spec PyProof.Rows L2
end G
namespace G
open PySem PySem.Spec PyProof.Rows L2
variable {C : Cn} {xc : XC C}
section
variable {K : PySem.W.Frag} {t ta tb tk tv : TE} {k ko ka kb kk kv : KE}
theorem datS_dc {m : List (Key × D)} : datS (.dc m) = some (dictD m) := rfl
theorem look_dc {sl : List Sl} {m : List (Key × D)} : look sl (.dc m) = none := rfl
theorem ty_str_tuple : decide (("str" : String) = "tuple") = false := by decide +kernel
theorem ty_str_list : decide (("str" : String) = "list") = false := by decide +kernel
theorem ty_tuple_str : decide (("tuple" : String) = "str") = false := by decide +kernel
theorem ty_tuple_list : decide (("tuple" : String) = "list") = false := by decide +kernel
theorem ty_list_str : decide (("list" : String) = "str") = false := by decide +kernel
theorem ty_list_tuple : decide (("list" : String) = "tuple") = false := by decide +kernel
theorem ty_int_str : decide (("int" : String) = "str") = false := by decide +kernel
theorem ty_int_tuple : decide (("int" : String) = "tuple") = false := by decide +kernel
theorem ty_int_list : decide (("int" : String) = "list") = false := by decide +kernel
theorem ty_bool_str : decide (("bool" : String) = "str") = false := by decide +kernel
theorem ty_bool_tuple : decide (("bool" : String) = "tuple") = false := by decide +kernel
theorem ty_bool_list : decide (("bool" : String) = "list") = false := by decide +kernel
theorem ty_NoneType_str : decide (("NoneType" : String) = "str") = false := by decide +kernel
theorem ty_NoneType_tuple : decide (("NoneType" : String) = "tuple") = false := by decide +kernel
theorem ty_NoneType_list : decide (("NoneType" : String) = "list") = false := by decide +kernel
theorem ty_dict_str : decide (("dict" : String) = "str") = false := by decide +kernel
theorem ty_dict_tuple : decide (("dict" : String) = "tuple") = false := by decide +kernel
theorem ty_dict_list : decide (("dict" : String) = "list") = false := by decide +kernel
def kIs (nm : String) (ka : KE) : KE := fun γ q => ka γ fun γ1 => (datN γ1.sl 1 γ1.tm).elim False fun x => isObj (x.1.getD 0 .none) = false ∧ q ⟨γ1.sl, .fz (.bool (decide (tyN (x.1.getD 0 .none) = nm))) :: x.2, γ1.n⟩
def kRev (ka : KE) : KE := fun γ q => ka γ fun γ1 => match γ1.tm with
  | s :: tm => (shr γ1.sl s true).elim False fun ds => q ⟨γ1.sl, newL ds.reverse :: tm, γ1.n⟩
  | _ => False
def kExt (ko ke : KE) : KE := fun γ q => ko γ fun γ1 => isLst γ1 ∧ ke γ1 fun γ2 => match γ2.tm with
  | s :: .al i π :: tm => (look γ2.sl s).elim False fun y => match y with
    | .list ys => (ys.all flatD = true ∧ noAl i tm = true) ∧ wrL γ2.sl i π fun b d es => ((b = true ∨ π = []) ∧ ioOk γ2.sl i b) ∧ es.length + ys.length < 10000000 ∧ q ⟨putS γ2.sl i b (setP d π (.list (es ++ ys))), .fz .none :: tm, γ2.n⟩
    | _ => False
  | _ => False
def signsD (x : Str) : List D := x.cps.toList.map fun c => .str ⟨#[c]⟩
def kItS (ke : KE) : KI := fun γ q => ke γ fun γ1 => match γ1.tm with
  | .fz (.str x) :: tm => q (signsD x) ⟨γ1.sl, tm, γ1.n⟩ ∧ tm = γ.tm
  | _ => False
/-- one sign in a text -/
def vInS (neg : Bool) : D → D → (D → Prop) → Prop := fun d1 d2 q => match d1, d2 with
  | .str x, .str y => ∃ c, x = ⟨#[c]⟩ ∧ q (.bool (neg ^^ decide (c ∈ y.cps.toList)))
  | _, _ => False
def dcL (j : Nat) (kk kv : KE) : List D → VSt → (VSt → Prop) → Prop
  | [], γ, q => q γ
  | d :: ds, γ, q => noAl j γ.tm = true ∧ kk ⟨γ.sl.set j (.fz d), γ.tm, γ.n⟩ fun γ1 => kv γ1 fun γ2 => match γ2.tm with
      | .fz c :: .fz y :: .dc m :: tm => (keyD y).elim False fun ky => (flatD c = true ∧ noAl j tm = true ∧ tm = γ.tm.tail ∧ m.length < 10000000) ∧ dcL j kk kv ds ⟨γ2.sl.set j .jk, .dc (putM m ky c) :: tm, γ2.n⟩ q
      | _ => False
def kDc (ki : KI) (j : Nat) (kk kv : KE) : KE := fun γ q => ki γ fun ds γ1 => noAl j γ1.tm = true ∧ dcL j kk kv ds ⟨γ1.sl.set j .jk, .dc [] :: γ1.tm, γ1.n⟩ fun γ2 => match γ2.tm with
  | .dc m :: tm => tm = γ1.tm ∧ q ⟨γ2.sl, .dc m :: γ.tm, γ2.n⟩
  | _ => False
end
end G
namespace G
open PySem PySem.Spec PyProof.Rows L2
section
variable {C : Cn} {xc : XC C} {K : PySem.W.Frag} {t ta tb : TE} {ts tk : TA} {k ka kb ko : KE} {n : Nat} {C0 : Addr} {m : Str} {W : Tw}
/-- an instance of the class -/
theorem Rep.ins {H : Hp} {T : List Addr} {v : V} {d : D} (r : Rep H T v d) (h : isC C0 d = true) : ∃ a dx fs, v = .ref a ∧ H a = some (.ins C0 dx fs) := by
  cases r with
  | box b _ =>
    obtain ⟨ns, rfl⟩ := isC_of b h
    obtain ⟨dx, e, _⟩ := b.obj
    exact ⟨_, dx, _, rfl, e⟩
  | _ => exact nomatch h
def kLenO (C0 : Addr) (W : Tw) (ko : KE) : KE := fun γ q => ko γ fun γ1 => (datN γ1.sl 1 γ1.tm).elim False fun x => isC C0 (x.1.getD 0 .none) = true ∧ W x.1 fun d => match d with
  | .int n => (0 ≤ n ∧ n ≤ 1000000000000) ∧ q ⟨γ1.sl, .fz (.int n) :: x.2, γ1.n⟩
  | _ => False
def kEqO (C0 : Addr) (W : Tw) (neg : Bool) (ka kb : KE) : KE := fun γ q => ka γ fun γ1 => kb γ1 fun γ2 => (datN γ2.sl 2 γ2.tm).elim False fun x => (isC C0 (x.1.getD 0 .none) && isC C0 (x.1.getD 1 .none)) = true ∧ W x.1 fun d => match d with
  | .bool b => q ⟨γ2.sl, .fz (.bool (neg ^^ b)) :: x.2, γ2.n⟩
  | _ => False
/-- isinstance(o, C): it is one -/
def kIsC (C0 : Addr) (ko : KE) : KE := fun γ q => ko γ fun γ1 => (datN γ1.sl 1 γ1.tm).elim False fun x => isC C0 (x.1.getD 0 .none) = true ∧ q ⟨γ1.sl, .fz (.bool true) :: x.2, γ1.n⟩
/-- o.m(..), what comes may share lists with the arguments -/
def kMethS (C0 : Addr) (m : Str) (W : Tw) (n : Nat) (ko ka : KE) : KE := fun γ q => ko γ fun γ1 => isOb C0 m γ1 ∧ ka γ1 fun γ2 => (fzA (n + 1) γ2.tm).elim False fun x => W x.1 fun d => q ⟨γ2.sl, .fz d :: x.2, γ2.n⟩
/-- o.m(k = .., ..) -/
def kMethK (C0 : Addr) (m : Str) (W : Tw) (ix : List Nat) (n : Nat) (ko ka : KE) : KE := fun γ q => ko γ fun γ1 => isOb C0 m γ1 ∧ ka γ1 fun γ2 => (datN γ2.sl (n + 1) γ2.tm).elim False fun x => W (ix.filterMap fun i => x.1[i]?) fun d => q ⟨γ2.sl, own d :: x.2, γ2.n⟩
/-- C(k = .., ..) -/
def kMakeK (C0 : Addr) (W : TwI) (ix : List Nat) (n : Nat) (ka : KE) : KE := fun γ q => ka γ fun γ1 => (datN γ1.sl n γ1.tm).elim False fun x => W (objD C0 [] [] :: (ix.filterMap fun i => x.1[i]?)) fun r e => r = .none ∧ q ⟨γ1.sl, own e :: x.2, γ1.n⟩
end
end G
namespace G
open PySem PySem.Spec PyProof.Rows L2
/-- a book, by its rows -/
abbrev bookD (C : Addr) (rs : List D) : D := objD C [("kept" : Str)] [.list rs]
theorem isC_obj {C : Addr} {ns : List Str} {ds : List D} : isC C (objD C ns ds) = true := decide_eq_true rfl
theorem isObj_obj {C : Addr} {ns : List Str} {ds : List D} : isObj (objD C ns ds) = true := rfl
theorem own_obj {C : Addr} {ns : List Str} {ds : List D} : own (objD C ns ds) = .ow true (objD C ns ds) := rfl
theorem cntF_obj {C : Addr} {ns : List Str} {ds : List D} : cntF (objD C ns ds) = ns.length + 1 := by simp [cntF]
theorem fld_kept {C : Addr} {rs : List D} : fldD "kept" (bookD C rs) = some (0, .list rs) := by
  have e : isStr "kept" (.str "kept") = true := by decide +kernel
  simp [fldD, List.findIdx?_cons, e]
theorem nof_book {C : Addr} {rs : List D} {m : Str} (h : (("kept" : Str) == m) = false) : noFld m (bookD C rs) = true := by
  have e : isStr m (.str "kept") = false := h
  simp [noFld, List.findIdx?_cons, e]
theorem nof_book_names {C : Addr} {rs : List D} : noFld "names" (bookD C rs) = true := nof_book (by decide +kernel)
theorem nof_book_words {C : Addr} {rs : List D} : noFld "words" (bookD C rs) = true := nof_book (by decide +kernel)
theorem nof_book_effects_held {C : Addr} {rs : List D} : noFld "effects_held" (bookD C rs) = true := nof_book (by decide +kernel)
theorem nof_book_effect {C : Addr} {rs : List D} : noFld "effect" (bookD C rs) = true := nof_book (by decide +kernel)
theorem nof_book_with_word {C : Addr} {rs : List D} : noFld "with_word" (bookD C rs) = true := nof_book (by decide +kernel)
theorem nof_book_without {C : Addr} {rs : List D} : noFld "without" (bookD C rs) = true := nof_book (by decide +kernel)
theorem put_kept {C : Addr} {x : D} : putOD "kept" x (objD C [] []) = objD C [("kept" : Str)] [x] := rfl
theorem put_kept2 {C : Addr} {x y : D} : putOD "kept" x (objD C [("kept" : Str)] [y]) = objD C [("kept" : Str)] [x] := by
  have e : isStr "kept" (.str "kept") = true := by decide +kernel
  simp [putOD, List.findIdx?_cons, e]
end G
namespace L2
open PySem PySem.Spec PyProof.Rows
end L2
namespace G
open PySem PySem.Spec PyProof.Rows L2
variable {C : Cn} {xc : XC C}
section
variable {t ta tb : TE} {k ka kb : KE} {sl tm : List Sl} {n : Int} {v u : V} {Θ : List V} {σ : L2.St} {H : Hp} {y d x : D}
/-- e[y], e a dict that is frozen -/
def kDGetE (ka kb : KE) : KE := fun γ q => ka γ fun γ1 => kb γ1 fun γ2 => match γ2.tm with
  | .fz y :: .fz d :: tm => (boxM d).elim False fun m => (keyD y).elim False fun ky => ∃ x, valM m ky = some x ∧ q ⟨γ2.sl, .fz x :: tm, γ2.n⟩
  | _ => False
end
end G
namespace G
open PySem PySem.Spec PyProof.Rows L2
/-- the texts of a list, each once, in order -/
def mtStep (σ : List Str) (v : Str) : List Str := if v ∈ σ then σ else σ ++ [v]
def mtS (xs : List Str) : List Str := xs.foldl mtStep []
section
variable {C : Cn} {xc : XC C} {K : PySem.W.Frag} {t : TE} {k : KE} {lo hi : TO} {kl kh : KO}
def kLenSetT (ke : KE) : KE := fun γ q => ke γ fun γ1 => (datN γ1.sl 1 γ1.tm).elim False fun x => match x.1 with
  | [.list es] => (strsOf es).elim False fun xs => xs.length ≤ 4000 ∧ q ⟨γ1.sl, .fz (.int (mtS xs).length) :: x.2, γ1.n⟩
  | _ => False
/-- x[lo:hi] of a text -/
def kSlS (ka : KE) (lo hi : KO) : KE := fun γ q => ka γ fun γ1 => lo γ1 fun a γ2 => hi γ2 fun b γ3 => match γ3.tm with
  | .fz (.str z) :: tm => z.length ≤ 10000000 ∧ q ⟨γ3.sl, .fz (.str (cutS z a b)) :: tm, γ3.n⟩
  | _ => False
end
end G
namespace G
open PySem PySem.Spec PyProof.Rows L2
variable {C : Cn} {xc : XC C}
/-- f(o, [0]) of the def that spoils what it is given: what is left of it -/
def kSpoilK (m o : Nat) : KS := fun γ e => match γ.sl[o]? with
  | some (.ow true d) => (noAl o γ.tm = true ∧ d.depth < m ∧ wd d ≤ 10000000) ∧ e.nx ⟨γ.sl.set o (own (spD d 0).1), γ.tm, γ.n⟩
  | _ => False
end G
namespace G
open PySem PySem.Spec PyProof.Rows L2
variable {C : Cn} {xc : XC C}
/-- [r[0] for r in h] -/
def kFirsts (h r : Nat) : KE := fun γ q => match γ.sl[h]? with
  | some (.ow _ (.list ds)) => r < γ.sl.length ∧ ∃ ps : List (D × List D), ds = ps.map (fun p => PyData.tuple (p.1 :: p.2)) ∧ (∀ p ∈ ps, nolist p.1 = true) ∧ ps.length < 10000000 ∧ q ⟨γ.sl, .ow true (.list (ps.map (·.1))) :: γ.tm, γ.n⟩
  | _ => False
/-- [r[0] for r in h[:s]] -/
def kFirstsTo (h s r : Nat) : KE := fun γ q => match γ.sl[h]?, γ.sl[s]? with
  | some (.ow _ (.list ds)), some (.fz (.int i)) => r < γ.sl.length ∧ ∃ ps : List (D × List D), ds = ps.map (fun p => PyData.tuple (p.1 :: p.2)) ∧ (∀ p ∈ ps, nolist p.1 = true) ∧ ps.length < 10000000 ∧ q ⟨γ.sl, .ow true (.list (cutD (ps.map (·.1)) none (some i))) :: γ.tm, γ.n⟩
  | _, _ => False
end G
namespace G
open PySem PySem.Spec PyProof.Rows L2
variable {C : Cn} {xc : XC C}
section
variable {t ta tb : TE} {ko ka kb : KE}
def kInsD (ko ki ke : KE) : KE := fun γ q => ko γ fun γ1 => isLst γ1 ∧ ki γ1 fun γ2 => ke γ2 fun γ3 => match γ3.tm with
  | s :: .fz (.int k) :: .al i π :: tm => (con s).elim False fun c => noAl i tm = true ∧ wrL γ3.sl i π fun b d es => (((b && c.1) = true ∨ π = []) ∧ ioOk γ3.sl i (b && c.1)) ∧ (es.length < 10000000 ∧ 0 ≤ k ∧ k < 10000000) ∧ q ⟨putS γ3.sl i (b && c.1) (setP d π (.list (es.take k.toNat ++ [c.2] ++ es.drop k.toNat))), .fz .none :: tm, γ3.n⟩
  | _ => False
end
end G
namespace G
open PySem PySem.Spec PyProof.Rows L2
variable {C : Cn} {xc : XC C}
/-- [*e, (x, y)] -/
def kStar2 (i j : Nat) (ke : KE) : KE := fun γ q => ke γ fun γ1 => match γ1.tm with
  | s :: tm => (fzD s).elim False fun d => match d with
    | .list ds => match γ1.sl[i]?, γ1.sl[j]? with
      | some (.fz a), some (.fz b) => ds.length < 10000000 ∧ q ⟨γ1.sl, .fz (.list (ds ++ [.tuple [a, b]])) :: tm, γ1.n⟩
      | _, _ => False
    | _ => False
  | [] => False
end G
namespace G
open PySem PySem.Spec PyProof.Rows L2
variable {C : Cn} {xc : XC C}
def kCallL3 (W : List D → Prop) (ka : KE) : KE := fun γ q => ka γ fun γ1 => match γ1.tm with
  | s4 :: .ow true d3 :: tm => (look γ1.sl s4).elim False fun d4 => nolist d4 = true ∧ (datN γ1.sl 2 tm).elim False fun x => W (x.1 ++ [d3, d4]) ∧ q ⟨γ1.sl, .fz (.bool true) :: x.2, γ1.n⟩
  | _ => False
end G
namespace G
open PySem PySem.Spec PyProof.Rows L2
section
variable {C : Cn} {xc : XC C} {t : TE} {ts tk : TA} {ko ka : KE} {n : Nat} {C0 : Addr} {m : Str} {WX : TwX}
def kMethX (x : XH) (C0 : Addr) (m : Str) (W : TwX) (n : Nat) (ko ka : KE) : KE := fun γ q => ko γ fun γ1 => isOb C0 m γ1 ∧ ka γ1 fun γ2 => (datN γ2.sl (n + 1) γ2.tm).elim False fun y => W y.1 (fun d => q ⟨γ2.sl, own d :: y.2, γ2.n⟩) fun c d => x c d ⟨γ2.sl, y.2, γ2.n⟩
def kMethXK (x : XH) (C0 : Addr) (m : Str) (W : TwX) (ix : List Nat) (n : Nat) (ko ka : KE) : KE := fun γ q => ko γ fun γ1 => isOb C0 m γ1 ∧ ka γ1 fun γ2 => (datN γ2.sl (n + 1) γ2.tm).elim False fun y => W (ix.filterMap fun i => y.1[i]?) (fun d => q ⟨γ2.sl, own d :: y.2, γ2.n⟩) fun c d => x c d ⟨γ2.sl, y.2, γ2.n⟩
end
end G
namespace G
open PySem PySem.Spec PyProof.Rows L2
variable {C : Cn} {xc : XC C}
def kCallI3 (W : TwI) (ka : KE) : KE := fun γ q => ka γ fun γ1 => match γ1.tm with
  | s4 :: .al i [] :: .fz d2 :: .fz d1 :: r => (look γ1.sl s4).elim False fun d4 => (nolist d4 = true ∧ noAl i r = true) ∧ (ownF (γ1.sl[i]?)).elim False fun s => W [d1, d2, s.2, d4] fun d e => q ⟨γ1.sl.set i (reS s.1 true e), own d :: r, γ1.n⟩
  | _ => False
def ioD3 (γ : VSt) (f : D → Prop) : Prop := match γ.sl[2]? with
  | some (Sl.io e) => f e
  | _ => False
def edI3 (G : D → D → Prop) : KEd := ⟨fun γ => ioD3 γ fun e => G .none e, fun s γ => ioD3 γ fun e => rtN (fun d => G d e) s, fun _ => False, fun _ => False⟩
theorem edI3_rt {G : D → D → Prop} {s : Sl} {γ : VSt} : (edI3 G).rt s γ = ioD3 γ fun e => rtN (fun d => G d e) s := rfl
theorem edI3_nx {G : D → D → Prop} {γ : VSt} : (edI3 G).nx γ = ioD3 γ fun e => G .none e := rfl
theorem ioD3_c {s0 s1 : Sl} {e : D} {sl tm : List Sl} {n : Int} {f : D → Prop} : ioD3 ⟨s0 :: s1 :: .io e :: sl, tm, n⟩ f = f e := rfl
end G
namespace G
open PySem PySem.Spec PyProof.Rows L2
variable {C : Cn} {xc : XC C}
/-- a frozen field is put -/
def putFs (f : Str) (d : D) : List (Str × Bool × D) → List (Str × Bool × D)
  | [] => [(f, false, d)]
  | (g, b, x) :: r => if f = g then (f, false, d) :: r else (g, b, x) :: putFs f d r
/-- the items of an owned field -/
def setOs (f : Str) (ds : List D) : List (Str × Bool × D) → List (Str × Bool × D)
  | [] => []
  | (g, b, x) :: r => if f = g then (f, b, .list ds) :: r else (g, b, x) :: setOs f ds r
def getFs (f : Str) : List (Str × Bool × D) → Option (Bool × D)
  | [] => none
  | (g, b, x) :: r => if f = g then some (b, x) else getFs f r
section
variable {Z : Reg} {H : Hp}
theorem Fs.get : ∀ {fs : List (Str × Bool × D)} {S : List Addr} {vs : List V} {f : Str} {b : Bool} {d : D}, Fs H Z S vs fs → getFs f fs = some (b, d) → ∃ v, ((fs.map (·.1)).zip vs).lookup f = some v ∧ (b = false → Tr H Z [] v d) ∧
    (b = true → ∃ l ls ds, v = .ref l ∧ l ∈ S ∧ H l = some (.lst ls) ∧ d = .list ds ∧ Trs H Z [] ls ds)
  | _, _, _, f, b, d, .nil, e => nomatch e
  | (g, _, x) :: r, S, v :: vs, f, b, d, .fz t h, e => by
    unfold getFs at e
    rw [List.map_cons, List.zip_cons_cons]
    by_cases c : f = g
    · subst c
      rw [if_pos rfl] at e
      cases e
      exact ⟨v, by simp, fun _ => t, (fun z => nomatch z)⟩
    · rw [if_neg c] at e
      obtain ⟨w, e1, e2, e3⟩ := Fs.get h e
      exact ⟨w, by rw [List.lookup_cons, show (f == g) = false from by simpa using c]; exact e1, e2, e3⟩
  | (g, _, _) :: r, l :: S, _ :: vs, f, b, d, .ol hl t h, e => by
    unfold getFs at e
    rw [List.map_cons, List.zip_cons_cons]
    by_cases c : f = g
    · subst c
      rw [if_pos rfl] at e
      cases e
      exact ⟨_, by simp, (fun z => nomatch z), fun _ => ⟨l, _, _, rfl, List.mem_cons_self, hl, rfl, t⟩⟩
    · rw [if_neg c] at e
      obtain ⟨w, e1, e2, e3⟩ := Fs.get h e
      refine ⟨w, by rw [List.lookup_cons, show (f == g) = false from by simpa using c]; exact e1, e2, fun z => ?_⟩
      obtain ⟨l', ls', ds', a1, a2, a3⟩ := e3 z
      exact ⟨l', ls', ds', a1, List.mem_cons_of_mem _ a2, a3⟩
/-- a new owned field -/
theorem Fs.snoc {l : Addr} {ls : List V} {ds : List D} (hl : H l = some (.lst ls)) (t : Trs H Z [] ls ds) : ∀ {fs : List (Str × Bool × D)} {S : List Addr} {vs : List V} (f : Str), Fs H Z S vs fs → getFs f fs = none → putF f (.ref l) ((fs.map (·.1)).zip vs) = ((fs ++ [(f, true, PyData.list ds)]).map (·.1)).zip (vs ++ [.ref l]) ∧ Fs H Z (S ++ [l]) (vs ++ [.ref l]) (fs ++ [(f, true, .list ds)])
  | _, _, _, f, .nil, _ => ⟨rfl, .ol hl t .nil⟩
  | (g, _, x) :: r, S, v :: vs, f, .fz t0 h, e => by
    unfold getFs at e
    by_cases c : f = g
    · rw [if_pos c] at e
      cases e
    · rw [if_neg c] at e
      obtain ⟨e1, e2⟩ := Fs.snoc hl t f h e
      refine ⟨?_, .fz t0 e2⟩
      simp only [List.map_cons, List.zip_cons_cons, List.cons_append]
      unfold putF
      rw [e1]
      simp [c, Ne.symm c, eq_comm]
  | (g, _, _) :: r, k :: S, _ :: vs, f, .ol hk t0 h, e => by
    unfold getFs at e
    by_cases c : f = g
    · rw [if_pos c] at e
      cases e
    · rw [if_neg c] at e
      obtain ⟨e1, e2⟩ := Fs.snoc hl t f h e
      refine ⟨?_, .ol hk t0 e2⟩
      simp only [List.map_cons, List.zip_cons_cons, List.cons_append]
      unfold putF
      rw [e1]
      simp [c, Ne.symm c, eq_comm]
/-- the list of an owned field is written -/
theorem Fs.upd {l : Addr} {us : List V} {ds : List D} {H' : Hp} {Z' : Reg} (ht : ∀ t vs, H t = some (.tup vs) → H' t = some (.tup vs)) (hz : ∀ a, Z a → Z' a) (kz : ∀ a, Z a → ∀ o, H a = some o → H' a = some o) (hl : H' l = some (.lst us)) (t : Trs H' Z' [] us ds) : ∀ {fs : List (Str × Bool × D)} {S : List Addr} {vs : List V} {f : Str} {d : D}, Fs H Z S vs fs → getFs f fs = some (true, d) → ((fs.map (·.1)).zip vs).lookup f = some (.ref l) → S.Nodup → (∀ a ∈ S, a ≠ l → ∀ o, H a = some o → H' a = some o) → Fs H' Z' S vs (setOs f ds fs)
  | _, _, _, f, d, .nil, e, _, _, _ => nomatch e
  | (g, _, x) :: r, S, v :: vs, f, d, .fz t0 h, e, lk, nd, k => by
    unfold getFs at e
    unfold setOs
    rw [List.map_cons, List.zip_cons_cons, List.lookup_cons] at lk
    by_cases c : f = g
    · rw [if_pos c] at e
      cases e
    · rw [if_neg c] at e ⊢
      rw [show (f == g) = false from by simpa using c] at lk
      dsimp only at lk
      exact .fz (Tr.mono ht hz kz _ _ _ t0 fun _ m => nomatch m) (Fs.upd ht hz kz hl t h e lk nd k)
  | (g, _, _) :: r, m :: S, _ :: vs, f, d, .ol hm t0 h, e, lk, nd, k => by
    unfold getFs at e
    unfold setOs
    rw [List.map_cons, List.zip_cons_cons, List.lookup_cons] at lk
    have ndc := List.nodup_cons.mp nd
    by_cases c : f = g
    · subst c
      rw [if_pos rfl] at e ⊢
      rw [show (f == f) = true from by simp] at lk
      dsimp only at lk
      cases lk
      exact .ol hl t (h.mono ht hz kz fun a ma o eo => k a (List.mem_cons_of_mem _ ma) (fun z => ndc.1 (z ▸ ma)) o eo)
    · rw [if_neg c] at e ⊢
      rw [show (f == g) = false from by simpa using c] at lk
      dsimp only at lk
      obtain ⟨w, e1, _, e3⟩ := Fs.get h e
      obtain ⟨l', ls', ds', ew, ml, _⟩ := e3 rfl
      rw [lk] at e1
      cases e1
      cases ew
      exact .ol (k _ List.mem_cons_self (fun z => ndc.1 (z ▸ ml)) _ hm) (Trs.mono ht hz kz _ _ _ t0 fun _ m => nomatch m) (Fs.upd ht hz kz hl t h e lk ndc.2 fun a ma => k a (List.mem_cons_of_mem _ ma))
end
theorem Fs.uniq {Z : Reg} {H : Hp} : ∀ {fs : List (Str × Bool × D)} {S T : List Addr} {vs : List V}, Fs H Z S vs fs → Fs H Z T vs fs → S = T
  | _, _, _, _, .nil, .nil => rfl
  | _, _, _, _, .fz _ h, .fz _ k => Fs.uniq h k
  | _, _, _, _, .ol _ _ h, .ol _ _ k => by rw [Fs.uniq h k]
section
variable {Z : Reg} {Sa Sb : List Addr} {sl r tm : List Sl} {j : Int} {Θ : List V} {σ : L2.St} {H1 : Hp} {i : Nat} {q0 : Bool} {C0 : Addr} {fs : List (Str × Bool × D)}
theorem RelX.ob (X : RelX C Z Sa Sb ⟨sl, r, j⟩ Θ σ H1) (e1 : sl[i]? = some (.ob q0 C0 fs)) (na : noAl i r = true) : ∃ a vs T0, σ[i]? = some (some (.ref a)) ∧ Bx H1 a (obT C0 fs) vs ∧ Fs H1 Z T0 vs fs ∧ (a :: T0).Nodup ∧ (q0 = true → C.iov = some (.ref a)) ∧ (∀ x ∈ a :: T0, ¬ C.tz Z x ∧ (∀ p b, C.pu = some (p, b) → x ≠ p) ∧ x ∉ Sb) ∧
    ∀ (H' : Hp) (N : Reg) (j' : Int) (vs' : List V) (fs' : List (Str × Bool × D)) (T' : List Addr), (∀ x o, H1 x = some o → x ∉ a :: T0 → (∀ p b, C.pu = some (p, b) → x ≠ p) → H' x = some o) →
      (∀ x, N x → (H1 x = none ∨ x ∈ T0) ∧ ∃ o, H' x = some o) → (∀ p b, C.pu = some (p, b) → PuAt H' p (b - j')) → Bx H' a (obT C0 fs') vs' → Fs H' (fun x => Z x ∨ N x) T' vs' fs' → (a :: T').Nodup → (∀ x ∈ T', (x ∈ T0 ∨ (x ∉ Sa ++ Sb ∧ ¬ C.tz Z x ∧ ∀ p b, C.pu = some (p, b) → x ≠ p)) ∧ ¬ N x) →
      ∃ S', RelX C (fun x => Z x ∨ N x) S' Sb ⟨sl.set i (.ob q0 C0 fs'), r, j'⟩ Θ σ H' ∧ ∀ x ∈ S', (x ∈ a :: T' ∨ (x ∈ Sa ∧ x ∉ a :: T0)) ∧ ¬ N x := by
  obtain ⟨v1, T0', Rr, ev, ent, pm, kk⟩ := X.es.at e1
  cases ent with
  | @ob _ a _ T0 vs _ bx ff hq =>
  have ndS := pm.nodup_iff.mp (List.nodup_append.mp X.nd).1
  have ndT := (List.nodup_append.mp ndS).1
  have inS : ∀ x ∈ a :: T0, x ∈ Sa := fun x m => pm.mem_iff.mpr (List.mem_append_left _ m)
  have disR : ∀ x ∈ Rr, x ∉ a :: T0 := fun x m m' => (List.nodup_append.mp ndS).2.2 x m' x m rfl
  have disB : ∀ x ∈ Sb, x ∉ a :: T0 := fun x m m' => (List.nodup_append.mp X.nd).2.2 x (inS x m') x m rfl
  have domT : ∀ x ∈ a :: T0, ∃ o, H1 x = some o ∧ NT o := fun x m => by
    rcases List.mem_cons.mp m with rfl | m
    · exact bx.dom
    · exact ff.dom x m
  refine ⟨a, vs, T0, ev, bx, ff, ndT, hq, fun x m => ⟨X.nz x (List.mem_append_left _ (inS x m)), fun p b y z => (X.pu p b y).2.2 (z ▸ List.mem_append_left _ (inS x m)), fun z => disB x z m⟩, fun H' N j' vs' fs' T' fr hN hp bx' ff' nd' new => ?_⟩
  have pN : ∀ p b, C.pu = some (p, b) → ∃ o, H1 p = some o := fun p b y => by
    obtain ⟨x1, x2, x3, e, _⟩ := (X.pu p b y).1
    exact ⟨_, e⟩
  have kt : ∀ t xs, H1 t = some (.tup xs) → H' t = some (.tup xs) := fun t xs et => fr t _ et (fun m => by
    obtain ⟨o, e, nt⟩ := domT t m
    rw [et] at e
    cases e
    exact nt) fun p b y z => by
    obtain ⟨x1, x2, x3, e, _⟩ := (X.pu p b y).1
    rw [← z, et] at e
    cases e
  have kz0 : ∀ x, C.tz Z x → ∀ o, H1 x = some o → H' x = some o := fun x z o eo => fr x o eo (fun m => X.nz x (List.mem_append_left _ (inS x m)) z) fun p b y w => (X.pu p b y).2.1 (w ▸ z)
  have kz : ∀ x, Z x → ∀ o, H1 x = some o → H' x = some o := fun x z => kz0 x (.inl z)
  have kR : ∀ x ∈ Rr, ∀ o, H1 x = some o → H' x = some o := fun x m o eo => fr x o eo (disR x m) fun p b y w => (X.pu p b y).2.2 (w ▸ List.mem_append_left _ (pm.mem_iff.mpr (List.mem_append_right _ m)))
  have kB : ∀ x ∈ Sb, ∀ o, H1 x = some o → H' x = some o := fun x m o eo => fr x o eo (disB x m) fun p b y w => (X.pu p b y).2.2 (w ▸ List.mem_append_right _ m)
  obtain ⟨S', es', pm'⟩ := kk H' (fun x => Z x ∨ N x) (a :: T') (some (.ref a)) (.ob q0 C0 fs') kt (fun _ z => .inl z) kz kR (.ob bx' ff' hq)
  have eσ : σ.set i (some (.ref a)) = σ := by
    refine List.ext_getElem? fun k => ?_
    by_cases hk : i = k
    · subst hk
      rw [List.getElem?_set_self (List.getElem?_eq_some_iff.mp ev).1, ev]
    · rw [List.getElem?_set_ne hk]
  rw [eσ] at es'
  have memS : ∀ x ∈ S', x ∈ a :: T' ∨ x ∈ Rr := fun x m => List.mem_append.mp (pm'.mem_iff.mp m)
  have nN : ∀ x o, H1 x = some o → x ∉ T0 → ¬ N x := fun x o e m z => by
    rcases (hN x z).1 with q | q
    · rw [q] at e
      cases e
    · exact m q
  have naT : a ∉ T0 := (List.nodup_cons.mp ndT).1
  have old : ∀ x ∈ a :: T', (x ∈ a :: T0 ∨ (x ∉ Sa ++ Sb ∧ ¬ C.tz Z x ∧ ∀ p b, C.pu = some (p, b) → x ≠ p)) ∧ ¬ N x := fun x m => by
    rcases List.mem_cons.mp m with rfl | m
    · obtain ⟨o, e, _⟩ := domT x List.mem_cons_self
      exact ⟨.inl List.mem_cons_self, nN x o e naT⟩
    · exact ⟨(new x m).1.imp (List.mem_cons_of_mem _) id, (new x m).2⟩
  have nT : ∀ x ∈ a :: T', ¬ C.tz Z x ∧ ¬ N x ∧ (∀ p b, C.pu = some (p, b) → x ≠ p) ∧ x ∉ Sb ∧ x ∉ Rr := fun x m => by
    obtain ⟨z, zn⟩ := old x m
    rcases z with z | z
    · exact ⟨X.nz x (List.mem_append_left _ (inS x z)), zn, fun p b y w => (X.pu p b y).2.2 (w ▸ List.mem_append_left _ (inS x z)), fun w => disB x w z, fun w => disR x w z⟩
    · exact ⟨z.2.1, zn, z.2.2, fun w => z.1 (List.mem_append_right _ w), fun w => z.1 (List.mem_append_left _ (pm.mem_iff.mpr (List.mem_append_right _ w)))⟩
  have nRB : ∀ x ∈ Rr, x ∉ Sb := fun x m m' => (List.nodup_append.mp X.nd).2.2 x (pm.mem_iff.mpr (List.mem_append_right _ m)) x m' rfl
  have ndS' : S'.Nodup := pm'.nodup_iff.mpr (List.nodup_append.mpr ⟨nd', (List.nodup_append.mp ndS).2.1, fun x m y m' e => (nT x m).2.2.2.2 (e ▸ m')⟩)
  refine ⟨S', ⟨fun x o eo m => ⟨(X.fr x o eo m).1.imp .inl id, kz0 x (X.fr x o eo m).1 o (X.fr x o eo m).2⟩, es', X.et.mono kt (fun _ z => .inl z) kz kB, List.nodup_append.mpr ⟨ndS', (List.nodup_append.mp X.nd).2.1, fun x m y m' e => ?_⟩, fun x m z => ?_, fun p b y => ⟨hp p b y, fun z => ?_, fun m => ?_⟩, fun x z => ?_, fun x z w => ?_, fun k i' π u e' ev' => ?_⟩, fun x m => ?_⟩
  · subst e
    rcases memS x m with m | m
    · exact (nT x m).2.2.2.1 m'
    · exact nRB x m m'
  · rcases List.mem_append.mp m with m | m
    · rcases memS x m with m | m
      · rcases z with (z | z) | z
        · exact (nT x m).1 (.inl z)
        · exact (nT x m).2.1 z
        · exact (nT x m).1 (.inr z)
      · have inSa : x ∈ Sa := pm.mem_iff.mpr (List.mem_append_right _ m)
        obtain ⟨o, e⟩ := X.es.dom x inSa
        rcases z with (z | z) | z
        · exact X.nz x (List.mem_append_left _ inSa) (.inl z)
        · exact nN x o e (fun w => disR x m (List.mem_cons_of_mem _ w)) z
        · exact X.nz x (List.mem_append_left _ inSa) (.inr z)
    · obtain ⟨o, e⟩ := X.et.dom x m
      rcases z with (z | z) | z
      · exact X.nz x (List.mem_append_right _ m) (.inl z)
      · exact nN x o e (fun w => disB x m (List.mem_cons_of_mem _ w)) z
      · exact X.nz x (List.mem_append_right _ m) (.inr z)
  · obtain ⟨o, e⟩ := pN p b y
    rcases z with (z | z) | z
    · exact (X.pu p b y).2.1 (.inl z)
    · exact nN p o e (fun w => (X.pu p b y).2.2 (List.mem_append_left _ (inS p (List.mem_cons_of_mem _ w)))) z
    · exact (X.pu p b y).2.1 (.inr z)
  · rcases List.mem_append.mp m with m | m
    · rcases memS p m with m | m
      · exact (nT p m).2.2.1 p b y rfl
      · exact (X.pu p b y).2.2 (List.mem_append_left _ (pm.mem_iff.mpr (List.mem_append_right _ m)))
    · exact (X.pu p b y).2.2 (List.mem_append_right _ m)
  · rcases z with (z | z) | z
    · obtain ⟨o, eo⟩ := X.ex x (.inl z)
      exact ⟨o, kz0 x (.inl z) o eo⟩
    · exact (hN x z).2
    · obtain ⟨o, eo⟩ := X.ex x (.inr z)
      exact ⟨o, kz0 x (.inr z) o eo⟩
  · rcases z with z | z
    · exact X.dj x z w
    · obtain ⟨o, e⟩ := X.ex x (.inr w)
      exact nN x o e (fun m => X.nz x (List.mem_append_left _ (inS x (List.mem_cons_of_mem _ m))) (.inr w)) z
  · obtain ⟨s2, d2, e3, w2, f1, f2, f3, f4, wk2⟩ := X.al k i' π u e' ev'
    have hj := al_set na e'
    refine ⟨s2, d2, e3, w2, (List.getElem?_set_ne hj).trans f1, f2, f3, f4, ?_⟩
    obtain ⟨vi, Ti, vj, Tj, a1, a2, a3, a4, a5, a6⟩ := Ents.apart X.es e1 f1 hj (List.nodup_append.mp X.nd).1
    rw [ev] at a1
    cases a1
    rw [f4] at a2
    cases a2
    obtain ⟨w3, Tw, ew3, t3, sbw⟩ := a4.tr f2
    cases ew3
    cases a3 with
    | @ob _ _ _ T0b vsb _ bxb ffb hqb =>
    obtain ⟨_, rfl⟩ := bx.uniq bxb
    have eT := Fs.uniq ff ffb
    subst eT
    exact (Tr.part t3 f3 wk2).2 H' kt fun x z => z.elim (kz x) fun m o eo => fr x o eo (fun m' => (a5 x m').2 (sbw x m)) fun p b y w => (X.pu p b y).2.2 (w ▸ List.mem_append_left _ (a6 x (sbw x m)))
  · rcases memS x m with m | m
    · exact ⟨.inl m, (old x m).2⟩
    · have inSa : x ∈ Sa := pm.mem_iff.mpr (List.mem_append_right _ m)
      obtain ⟨o, e⟩ := X.es.dom x inSa
      exact ⟨.inr ⟨inSa, disR x m⟩, nN x o e fun w => disR x m (List.mem_cons_of_mem _ w)⟩
end
end G
namespace G
open PySem PySem.Spec PyProof.Rows L2
variable {C : Cn} {xc : XC C}
section
variable {K : PySem.W.Frag} {C0 : Addr} {i : Nat} {f : Str}
/-- a frozen field, read off an alias -/
def kZ (ke : KE) : KE := fun γ q => ke γ fun γ1 => match γ1.tm with
  | .al i [k] :: tm => (match γ1.sl[i]? with
    | some (.ob _ _ fs) => (match fs[k]? with
      | some (_, false, d) => q ⟨γ1.sl, .fz d :: tm, γ1.n⟩
      | _ => False)
    | _ => False)
  | .fz d :: tm => q ⟨γ1.sl, .fz d :: tm, γ1.n⟩
  | _ => False
/-- self.f = e, a frozen field -/
def kgFld (C0 : Addr) (i : Nat) (f : Str) : KG := fun γ q => match γ.tm with
  | s :: tm => (fzD s).elim False fun d => noAl i tm = true ∧ (match γ.sl[i]? with
    | some (.ob q0 C1 fs) => (C1 = C0 ∧ fs.length < 900) ∧ q ⟨γ.sl.set i (.ob q0 C0 (putFs f d fs)), tm, γ.n⟩
    | _ => False)
  | _ => False
end
end G
namespace G
open PySem PySem.Spec PyProof.Rows L2
variable {C : Cn} {xc : XC C}
section
variable {K : PySem.W.Frag} {C0 : Addr} {i : Nat} {f : Str}
/-- an owned list at an alias -/
def obLst (γ : VSt) (i k : Nat) (g : Bool → Addr → List (Str × Bool × D) → Str → List D → Prop) : Prop := match γ.sl[i]? with
  | some (.ob q0 C1 fs) => (match fs[k]? with
    | some (f, true, .list es) => g q0 C1 fs f es
    | _ => False)
  | _ => False
def kObApp (ko ke : KE) : KE := fun γ q => ko γ fun γ1 => isLst γ1 ∧ ke γ1 fun γ2 => match γ2.tm with
  | s :: .al i [k] :: tm => (fzD s).elim False fun d => noAl i tm = true ∧ obLst γ2 i k fun q0 C1 fs f es => es.length < 10000000 ∧ q ⟨γ2.sl.set i (.ob q0 C1 (fs.set k (f, true, .list (es ++ [d])))), .fz .none :: tm, γ2.n⟩
  | _ => False
def kObPop (ko : KE) : KE := fun γ q => ko γ fun γ1 => isLst γ1 ∧ match γ1.tm with
  | .al i [k] :: tm => noAl i tm = true ∧ obLst γ1 i k fun q0 C1 fs f es => (es ≠ [] ∧ es.length < 10000000) ∧ (es[es.length - 1]?).elim False fun x => q ⟨γ1.sl.set i (.ob q0 C1 (fs.set k (f, true, .list es.dropLast))), .fz x :: tm, γ1.n⟩
  | _ => False
end
end G
namespace G
open PySem PySem.Spec PyProof.Rows L2
variable {C : Cn} {xc : XC C}
section
variable {K : PySem.W.Frag} {C0 : Addr} {i : Nat} {f : Str}
/-- self.f = [], an owned field -/
def kObNew (C0 : Addr) (i : Nat) (f : Str) (kv : KE) : KS := fun γ e => kv γ fun γ1 => match γ1.tm with
  | .ow true (.list []) :: tm => noAl i tm = true ∧ (match γ1.sl[i]? with
    | some (.ob q0 C1 fs) => (C1 = C0 ∧ fs.length < 900 ∧ getFs f fs = none) ∧ e.nx ⟨γ1.sl.set i (.ob q0 C0 (fs ++ [(f, true, .list [])])), tm, γ1.n⟩
    | _ => False)
  | _ => False
end
abbrev TwO := List (Str × Bool × D) → List D → (D → List (Str × Bool × D) → Prop) → (Addr → D → List (Str × Bool × D) → Prop) → Prop
end G
namespace G
open PySem PySem.Spec PyProof.Rows L2
def obAt (k : Nat) (C0 : Addr) (γ : VSt) (f : List (Str × Bool × D) → Prop) : Prop := match γ.sl[k]? with
  | some (.ob true C1 fs) => C1 = C0 ∧ f fs
  | _ => False
def edO (pp : Bool) (C0 : Addr) (G : D → List (Str × Bool × D) → Prop) : KEd := ⟨fun γ => (pp = true → 0 ≤ γ.n) ∧ obAt (if pp then 1 else 0) C0 γ fun fs' => G .none fs', fun s γ => (pp = true → 0 ≤ γ.n) ∧ obAt (if pp then 1 else 0) C0 γ fun fs' => rtS (fun d => G d fs') s, fun _ => False, fun _ => False⟩
end G
namespace G
open PySem PySem.Spec PyProof.Rows L2
variable {C : Cn} {xc : XC C}
/-- an instance of the class stands on the stack, one that may be changed -/
def isObA (C0 : Addr) (γ : VSt) : Prop := match γ.tm with
  | .al i [] :: _ => (match γ.sl[i]? with
    | some (.ob _ C1 _) => C1 = C0
    | _ => False)
  | _ => False
/-- the call behind its arguments: the instance beneath them -/
def cO (x : XH) (pp : Bool) (c : Int) (C0 : Addr) (W : TwO) (n : Nat) (ix : List Nat) (γ : VSt) (q : VSt → Prop) : Prop := (fzA n γ.tm).elim False fun z => match z.2 with
  | .al i [] :: r => (match γ.sl[i]? with
    | some (.ob _ C1 fs) => C1 = C0 ∧ (match pp, r with
      | false, r => noAl i r = true ∧ W fs (ix.filterMap fun i => z.1[i]?) (fun d fs' => q ⟨putO' γ.sl i fs', .fz d :: r, γ.n⟩) (fun k d fs' => x k d ⟨putO' γ.sl i fs', r, γ.n⟩)
      | true, .pu :: r => noAl i r = true ∧ (0 ≤ c ∧ c ≤ γ.n) ∧ W fs (ix.filterMap fun i => z.1[i]?) (fun d fs' => q ⟨putO' γ.sl i fs', .fz d :: r, γ.n - c⟩) (fun k d fs' => x k d ⟨putO' γ.sl i fs', r, γ.n - c⟩)
      | _, _ => False)
    | _ => False)
  | _ => False
where putO' (sl : List Sl) (i : Nat) (fs' : List (Str × Bool × D)) : List Sl := match sl[i]? with
  | some (.ob q0 C1 _) => sl.set i (.ob q0 C1 fs')
  | _ => sl
end G
namespace G
open PySem PySem.Spec PyProof.Rows L2
variable {C : Cn} {xc : XC C}
section
variable {K : PySem.W.Frag} {C0 : Addr} {m : Str} {W : TwO} {n : Nat} {t : TE} {ts : TA} {ko ka : KE}
/-- o(e, ..) -/
def kCallO (x : XH) (C0 : Addr) (W : TwO) (n : Nat) (ko ka : KE) : KE := fun γ q => ko γ fun γ1 => isObA C0 γ1 ∧ ka γ1 fun γ2 => cO x false 0 C0 W n (List.range n) γ2 q
def noXH : XH := fun _ _ _ => False
/-- o.m(..) -/
def kMethO (x : XH) (C0 : Addr) (m : Str) (W : TwO) (n : Nat) (ko ka : KE) : KE := fun γ q => ko γ fun γ1 => isOb C0 m γ1 ∧ ka γ1 fun γ2 => cO x false 0 C0 W n (List.range n) γ2 q
/-- C(e, ..) -/
def kMakeO (C0 : Addr) (W : TwO) (n : Nat) (ka : KE) : KE := fun γ q => ka γ fun γ1 => (fzA n γ1.tm).elim False fun z => W [] z.1 (fun d fs' => d = .none ∧ q ⟨γ1.sl, .ob false C0 fs' :: z.2, γ1.n⟩) (fun _ _ _ => False)
end
/-- a pile, by what stands in it -/
def pileF (b n o l p : D) : List (Str × Bool × D) := [(("book" : Str), false, b), ("now", false, n), ("origins", false, o), ("led", true, l), ("past", true, p)]
def pile2 (b n : D) : List (Str × Bool × D) := [(("book" : Str), false, b), ("now", false, n)]
abbrev pileD (C : Addr) (b n o l p : D) : D := objD C [("book" : Str), ("now" : Str), ("origins" : Str), ("led" : Str), ("past" : Str)] [b, n, o, l, p]
theorem datS_pile {q : Bool} {C : Addr} {b n o l p : D} : datS (.ob q C (pileF b n o l p)) = some (pileD C b n o l p) := rfl
theorem datS_pile2 {q : Bool} {C : Addr} {b n : D} : datS (.ob q C (pile2 b n)) = some (objD C [("book" : Str), ("now" : Str)] [b, n]) := rfl
theorem obD_pile {C : Addr} {b n o l p : D} : obD C (pileF b n o l p) = pileD C b n o l p := rfl
theorem pile_0 {b n o l p : D} : (pileF b n o l p)[0]? = some (("book" : Str), false, b) := rfl
theorem pile_1 {b n o l p : D} : (pileF b n o l p)[1]? = some (("now" : Str), false, n) := rfl
theorem pile_2 {b n o l p : D} : (pileF b n o l p)[2]? = some (("origins" : Str), false, o) := rfl
theorem pile_3 {b n o l p : D} : (pileF b n o l p)[3]? = some (("led" : Str), true, l) := rfl
theorem pile_4 {b n o l p : D} : (pileF b n o l p)[4]? = some (("past" : Str), true, p) := rfl
theorem pile2_1 {b n : D} : (pile2 b n)[1]? = some (("now" : Str), false, n) := rfl
theorem pile_set3 {b n o l p x : D} : (pileF b n o l p).set 3 (("led" : Str), true, x) = pileF b n o x p := rfl
theorem pile_set4 {b n o l p x : D} : (pileF b n o l p).set 4 (("past" : Str), true, x) = pileF b n o l x := rfl
theorem pile_len {b n o l p : D} : (pileF b n o l p).length = 5 := rfl
theorem pile2_len {b n : D} : (pile2 b n).length = 2 := rfl
theorem put_now {b n o l p x : D} : putFs "now" x (pileF b n o l p) = pileF b x o l p := by
  simp only [pileF, putFs, show ¬ (("now" : Str) = ("book" : Str)) by decide +kernel, if_false, if_true]
theorem put_origins {b n o l p x : D} : putFs "origins" x (pileF b n o l p) = pileF b n x l p := by
  simp only [pileF, putFs, show ¬ (("origins" : Str) = ("book" : Str)) by decide +kernel, show ¬ (("origins" : Str) = ("now" : Str)) by decide +kernel, if_false, if_true]
theorem put_p1 {x : D} : putFs "book" x [] = [(("book" : Str), false, x)] := rfl
theorem put_p2 {b x : D} : putFs "now" x [(("book" : Str), false, b)] = pile2 b x := by
  simp only [pile2, putFs, show ¬ (("now" : Str) = ("book" : Str)) by decide +kernel, if_false]
theorem put_p3 {b n x : D} : putFs "origins" x (pile2 b n) = [(("book" : Str), false, b), ("now", false, n), ("origins", false, x)] := by
  simp only [pile2, putFs, show ¬ (("origins" : Str) = ("book" : Str)) by decide +kernel, show ¬ (("origins" : Str) = ("now" : Str)) by decide +kernel, if_false]
theorem get_p4 {b n o : D} : getFs "led" [(("book" : Str), false, b), ("now", false, n), ("origins", false, o)] = none := by
  simp only [getFs, show ¬ (("led" : Str) = ("book" : Str)) by decide +kernel, show ¬ (("led" : Str) = ("now" : Str)) by decide +kernel, show ¬ (("led" : Str) = ("origins" : Str)) by decide +kernel, if_false]
theorem get_p5 {b n o l : D} : getFs "past" [(("book" : Str), false, b), ("now", false, n), ("origins", false, o), ("led", true, l)] = none := by
  simp only [getFs, show ¬ (("past" : Str) = ("book" : Str)) by decide +kernel, show ¬ (("past" : Str) = ("now" : Str)) by decide +kernel, show ¬ (("past" : Str) = ("origins" : Str)) by decide +kernel, show ¬ (("past" : Str) = ("led" : Str)) by decide +kernel, if_false]
theorem app_p4 {b n o : D} {x : Str × Bool × D} : [(("book" : Str), false, b), ("now", false, n), ("origins", false, o)] ++ [x] = [(("book" : Str), false, b), ("now", false, n), ("origins", false, o), x] := rfl
theorem app_p5 {b n o l p : D} : [(("book" : Str), false, b), ("now", false, n), ("origins", false, o), ("led", true, l)] ++ [(("past" : Str), true, p)] = pileF b n o l p := rfl
theorem fld_book {C : Addr} {b n o l p : D} : fldD "book" (pileD C b n o l p) = some (0, b) := by
  simp only [fldD, objD, findIdx_str, show ([("book" : Str), ("now" : Str), ("origins" : Str), ("led" : Str), ("past" : Str)] : List Str).idxOf? ("book" : Str) = some 0 by decide +kernel]
  rfl
theorem fld_now {C : Addr} {b n o l p : D} : fldD "now" (pileD C b n o l p) = some (1, n) := by
  simp only [fldD, objD, findIdx_str, show ([("book" : Str), ("now" : Str), ("origins" : Str), ("led" : Str), ("past" : Str)] : List Str).idxOf? ("now" : Str) = some 1 by decide +kernel]
  rfl
theorem fld_origins {C : Addr} {b n o l p : D} : fldD "origins" (pileD C b n o l p) = some (2, o) := by
  simp only [fldD, objD, findIdx_str, show ([("book" : Str), ("now" : Str), ("origins" : Str), ("led" : Str), ("past" : Str)] : List Str).idxOf? ("origins" : Str) = some 2 by decide +kernel]
  rfl
theorem fld_led {C : Addr} {b n o l p : D} : fldD "led" (pileD C b n o l p) = some (3, l) := by
  simp only [fldD, objD, findIdx_str, show ([("book" : Str), ("now" : Str), ("origins" : Str), ("led" : Str), ("past" : Str)] : List Str).idxOf? ("led" : Str) = some 3 by decide +kernel]
  rfl
theorem fld_past {C : Addr} {b n o l p : D} : fldD "past" (pileD C b n o l p) = some (4, p) := by
  simp only [fldD, objD, findIdx_str, show ([("book" : Str), ("now" : Str), ("origins" : Str), ("led" : Str), ("past" : Str)] : List Str).idxOf? ("past" : Str) = some 4 by decide +kernel]
  rfl
theorem fld_now2 {C : Addr} {b n : D} : fldD "now" (objD C [("book" : Str), ("now" : Str)] [b, n]) = some (1, n) := by
  simp only [fldD, objD, findIdx_str, show ([("book" : Str), ("now" : Str)] : List Str).idxOf? ("now" : Str) = some 1 by decide +kernel]
  rfl
theorem nof_pile {C : Addr} {b n o l p : D} {m : Str} (h : [("book" : Str), ("now" : Str), ("origins" : Str), ("led" : Str), ("past" : Str)].idxOf? m = none) : noFld m (pileD C b n o l p) = true := by
  simp only [noFld, objD, findIdx_str, h]
  rfl
theorem nof_pile_things {C : Addr} {b n o l p : D} : noFld "things" (pileD C b n o l p) = true := nof_pile (by decide +kernel)
theorem nof_pile_sources {C : Addr} {b n o l p : D} : noFld "sources" (pileD C b n o l p) = true := nof_pile (by decide +kernel)
theorem nof_pile_effect {C : Addr} {b n o l p : D} : noFld "effect" (pileD C b n o l p) = true := nof_pile (by decide +kernel)
theorem nof_pile_words_done {C : Addr} {b n o l p : D} : noFld "words_done" (pileD C b n o l p) = true := nof_pile (by decide +kernel)
theorem nof_pile_can {C : Addr} {b n o l p : D} : noFld "can" (pileD C b n o l p) = true := nof_pile (by decide +kernel)
theorem nof_pile_undo {C : Addr} {b n o l p : D} : noFld "undo" (pileD C b n o l p) = true := nof_pile (by decide +kernel)
theorem okS_ob {q : Bool} {C : Addr} {fs : List (Str × Bool × D)} : okS (.ob q C fs) = true := rfl
theorem noAl_ob {q : Bool} {C : Addr} {fs : List (Str × Bool × D)} {i : Nat} {tm : List Sl} : noAl i (.ob q C fs :: tm) = noAl i tm := by
  unfold noAl
  simp
theorem look_ob {q : Bool} {C : Addr} {fs : List (Str × Bool × D)} {sl : List Sl} : look sl (.ob q C fs) = none := rfl
theorem edO_nx {C0 : Addr} {G : D → List (Str × Bool × D) → Prop} {γ : VSt} : (edO false C0 G).nx γ = obAt 0 C0 γ fun fs' => G .none fs' := propext ⟨fun h => h.2, fun h => ⟨(fun z => nomatch z), h⟩⟩
theorem edO_rt {C0 : Addr} {G : D → List (Str × Bool × D) → Prop} {s : Sl} {γ : VSt} : (edO false C0 G).rt s γ = obAt 0 C0 γ fun fs' => rtS (fun d => G d fs') s := propext ⟨fun h => h.2, fun h => ⟨(fun z => nomatch z), h⟩⟩
theorem edO_nxP {C0 : Addr} {G : D → List (Str × Bool × D) → Prop} {γ : VSt} : (edO true C0 G).nx γ = (0 ≤ γ.n ∧ obAt 1 C0 γ fun fs' => G .none fs') := propext ⟨fun h => ⟨h.1 rfl, h.2⟩, fun h => ⟨fun _ => h.1, h.2⟩⟩
theorem edO_rtP {C0 : Addr} {G : D → List (Str × Bool × D) → Prop} {s : Sl} {γ : VSt} : (edO true C0 G).rt s γ = (0 ≤ γ.n ∧ obAt 1 C0 γ fun fs' => rtS (fun d => G d fs') s) := propext ⟨fun h => ⟨h.1 rfl, h.2⟩, fun h => ⟨fun _ => h.1, h.2⟩⟩
theorem rtS_fz {G : D → Prop} {d : D} : rtS G (.fz d) = G d := rfl
theorem rtS_ow {G : D → Prop} {b : Bool} {d : D} : rtS G (.ow b d) = G d := rfl
theorem rtS_own {G : D → Prop} {d : D} : rtS G (own d) = G d := by
  unfold own
  split <;> rfl
end G
namespace G
open PySem PySem.Spec PyProof.Rows L2
section
variable {C : Cn} {xc : XC C} {C0 : Addr} {W : TwO} {n : Nat} {t : TE} {ts tk : TA} {ko ka : KE}
/-- o(k = e, ..) -/
def kCallOK (x : XH) (C0 : Addr) (W : TwO) (ix : List Nat) (n : Nat) (ko ka : KE) : KE := fun γ q => ko γ fun γ1 => isObA C0 γ1 ∧ ka γ1 fun γ2 => cO x false 0 C0 W n ix γ2 q
/-- f(o, ..) of a def that changes the instance -/
def kCallOD (x : XH) (C0 : Addr) (W : TwO) (n : Nat) (ka : KE) : KE := fun γ q => ka γ fun γ1 => cO x false 0 C0 W n (List.range n) γ1 q
/-- f(purse, o, ..) -/
def kCallOP (x : XH) (c : Int) (C0 : Addr) (W : TwO) (n : Nat) (ka : KE) : KE := fun γ q => ka γ fun γ1 => cO x true c C0 W n (List.range n) γ1 q
end
end G
namespace G
open PySem PySem.Spec PyProof.Rows L2
section
variable {C : Cn} {xc : XC C} {K : PySem.W.Frag} {t ta tb : TE} {ts : TA} {k ka kb ko : KE} {n : Nat} {C0 C1 : Addr} {m : Str} {W W1 : Tw}
/-- things that are no instances -/
def isBase : D → Bool
  | .none => true
  | .int _ => true
  | .str _ => true
  | .list _ => true
  | .tuple _ => true
  | _ => false
theorem isBase_obj {C : Addr} {ns : List Str} {ds : List D} : isBase (objD C ns ds) = false := rfl
/-- x == y, x != y: y is of another sort -/
def kEqS (C0 C1 : Addr) (W : Tw) (neg : Bool) (ka kb : KE) : KE := fun γ q => ka γ fun γ1 => kb γ1 fun γ2 => (datN γ2.sl 2 γ2.tm).elim False fun x => (isC C0 (x.1.getD 0 .none) && (isBase (x.1.getD 1 .none) || isC C1 (x.1.getD 1 .none))) = true ∧ W x.1 fun d => match d with
  | .bool b => q ⟨γ2.sl, .fz (.bool (neg ^^ b)) :: x.2, γ2.n⟩
  | _ => False
/-- x == y: x is of another sort -/
def kEqR (C0 C1 : Addr) (W W1 : Tw) (ka kb : KE) : KE := fun γ q => ka γ fun γ1 => kb γ1 fun γ2 => (datN γ2.sl 2 γ2.tm).elim False fun x => isC C0 (x.1.getD 1 .none) = true ∧ (if isBase (x.1.getD 0 .none) then W [x.1.getD 1 .none, x.1.getD 0 .none] else fun p => isC C1 (x.1.getD 0 .none) = true ∧ W1 x.1 p) fun d => match d with
  | .bool b => q ⟨γ2.sl, .fz (.bool b) :: x.2, γ2.n⟩
  | _ => False
/-- isinstance(x, C): it may be of another sort -/
def kIsC2 (C0 C1 : Addr) (ko : KE) : KE := fun γ q => ko γ fun γ1 => (datN γ1.sl 1 γ1.tm).elim False fun x => if isC C0 (x.1.getD 0 .none) then q ⟨γ1.sl, .fz (.bool true) :: x.2, γ1.n⟩ else (isBase (x.1.getD 0 .none) || isC C1 (x.1.getD 0 .none)) = true ∧ q ⟨γ1.sl, .fz (.bool false) :: x.2, γ1.n⟩
end
end G
namespace G
open PySem PySem.Spec PyProof.Rows L2
abbrev TwIX := List D → (D → D → Prop) → (Addr → D → Prop) → Prop
section
variable {C : Cn} {xc : XC C} {ts tk : TA} {ka : KE} {n : Nat} {C0 : Addr} {W : TwIX} {ix : List Nat}
/-- C(e, ..) -/
def kMakeX (x : XH) (C0 : Addr) (W : TwIX) (n : Nat) (ka : KE) : KE := fun γ q => ka γ fun γ1 => (datN γ1.sl n γ1.tm).elim False fun y => W (objD C0 [] [] :: y.1) (fun r e => r = .none ∧ q ⟨γ1.sl, own e :: y.2, γ1.n⟩) fun c d => x c d ⟨γ1.sl, y.2, γ1.n⟩
/-- C(k = e, ..) -/
def kMakeXK (x : XH) (C0 : Addr) (W : TwIX) (ix : List Nat) (n : Nat) (ka : KE) : KE := fun γ q => ka γ fun γ1 => (datN γ1.sl n γ1.tm).elim False fun y => W (objD C0 [] [] :: (ix.filterMap fun i => y.1[i]?)) (fun r e => r = .none ∧ q ⟨γ1.sl, own e :: y.2, γ1.n⟩) fun c d => x c d ⟨γ1.sl, y.2, γ1.n⟩
end
end G
namespace G
open PySem PySem.Spec PyProof.Rows L2
section
variable {K : PySem.W.Frag} {C : Cn} {xc : XC C} {ka kb : KE} {ta tb : TE}
/-- the signs of a text -/
def sgns (x : Str) : List Str := x.cps.toList.map fun c => ⟨#[c]⟩
/-- list(text) -/
def kListT (ka : KE) : KE := fun γ q => ka γ fun γ1 => match γ1.tm with
  | .fz (.str x) :: tm => x.length ≤ 1000 ∧ q ⟨γ1.sl, .ow true (.list ((sgns x).map PyData.str)) :: tm, γ1.n⟩
  | _ => False
def vUpper : D → (D → Prop) → Prop := fun d q => match d with | .str a => a.length ≤ 5592405 ∧ q (.str (Txt.upper a)) | _ => False
/-- a list of texts, some times -/
def kRepS (ka kb : KE) : KE := fun γ q => ka γ fun γ1 => kb γ1 fun γ2 => match γ2.tm with
  | .fz (.int j) :: s :: tm => (shr γ2.sl s true).elim False fun ds => (strsOf ds).elim False fun ns => (-1000000 ≤ j ∧ j ≤ 1000 ∧ ns.length ≤ 1000) ∧ q ⟨γ2.sl, .ow true (.list ((List.replicate j.toNat ns).flatten.map PyData.str)) :: tm, γ2.n⟩
  | _ => False
end
end G
namespace G
open PySem PySem.Spec PyProof.Rows L2
section
variable {K : PySem.W.Frag} {C : Cn} {xc : XC C}
/-- xs[e] of a name whose spine is owned: a frozen item -/
def kIxFd (r : Nat) (ke : KE) : KE := fun γ q => match γ.sl[r]? with
  | some (.ow false (.list _)) => ke γ fun γ1 => match γ1.tm with
    | .fz (.int i) :: tm => match γ1.sl[r]? with
      | some (.ow false (.list ds)) => ixD ds i fun _ d => q ⟨γ1.sl, .fz d :: tm, γ1.n⟩
      | _ => False
    | _ => False
  | _ => False
end
end G
namespace G
open PySem PySem.Spec PyProof.Rows L2
end G
namespace PySem
namespace HandSPX
open Builtin Builtin.ObjectAttr
section
variable {M : Model} {A : Around} {E : Value → Shared → Prop} {h : Heap} {g : Array GenState} {d : Drawn} {t : Nat} {os : OsState}
variable {nm q : Str} {C N : Addr} {bs bm bmB : List Value} {hdct : Bool} {sn : List Str} {sub : List Value} {ab : Bool} {col : Option Bool} {dd : Option Addr} {k0 k1 k2 k3 k5 : Option Value} {B newId initId : String}
theorem check_new_kw (F : ExcBaseFacts B newId initId bmB) (hT : ∀ X : String, bm.contains (.type X) = bmB.contains (.type X)) {v : Value} {Q : Unit → Shared → Prop}
    (hC : h.get? C = some (excClassObj nm q C N bs bm hdct sn sub ab col dd k0 k1 k2 k3 k5 newId)) (hq : Q () ⟨h, g, d, t, os⟩) : wpAny M A (checkBuiltinCall newId ⟨[.ref C], [("value", v)]⟩) Q E ⟨h, g, d, t, os⟩ := by
  have hcont : (Value.ref C :: bm).contains (.type B) = true := by rw [List.contains_cons, hT, F.hasB, Bool.or_true]
  have hstar := F.noStar
  simp only [checkBuiltinCall, F.newKind, F.newSplit, F.newRow]
  repeat (first | refine wpAny_loadPart_at hC ?_ | (refine wpAny_isSubtype_exc hC ?_; rw [hcont]) | refine wpAny_staticBase_exc hC ?_ | refine wpAny_madeBy_exc hC ?_ | simp only [bne_self_eq_false, Bool.false_eq_true, if_false] | wp_step)
  exact hq
end
section
variable {prog : Program} {w : World} {A : Around} {E : Value → Shared → Prop} {R : Result → Shared → Prop} {h : Heap} {g : Array GenState} {d : Drawn} {t : Nat} {os : OsState}
variable {nm q : Str} {C N : Addr} {bs bm bmB : List Value} {hdct : Bool} {sn : List Str} {sub : List Value} {ab : Bool} {col : Option Bool} {dd : Option Addr} {k0 k1 k2 k3 k5 : Option Value} {B newId initId : String}
theorem new_kw (F : ExcBaseFacts B newId initId bmB) (hT : ∀ X : String, bm.contains (.type X) = bmB.contains (.type X)) {v : Value}
    (hC : h.get? C = some (excClassObj nm q C N bs bm hdct sn sub ab col dd k0 k1 k2 k3 k5 newId))
    (hq : R (.ok (.ret (.ref (h.objs.size + 1)))) ⟨(h.push { cls := .type "tuple", data := .seq #[] }).push
      { cls := .ref C, data := .fields #[.ref h.objs.size, .none, .none, .none, .bool false, .none] }, g, d, t, os⟩) :
    codeAny (model prog w) A (.builtin newId ⟨[.ref C], [("value", v)]⟩) R ⟨h, g, d, t, os⟩ := by
  have hends := F.ends
  have hcB : (Value.ref C :: bm).contains (.type B) = true := by rw [List.contains_cons, hT, F.hasB, Bool.or_true]
  have hcA : (Value.ref C :: bm).contains (.type "AttributeError") = false := by rw [List.contains_cons, hT, F.noAttr]; rfl
  have hcN : (Value.ref C :: bm).contains (.type "NameError") = false := by rw [List.contains_cons, hT, F.noName]; rfl
  refine codeAny_builtinAt F.entry ?_
  unfold Builtin.«BaseException.__new__»
  refine wpAt_bind ?_
  show wpAt _ _ _ (stack >>= _) _ _ _
  refine wpAt_bind (wpAt_stack fun p below => wpAt_of_wpAny ?_)
  wp_walk
  refine wpAt_of_wpAny ?_
  rw [F.owner]
  repeat (first | with_reducible refine wpAny_madeHere_exc F.canon hC ?_ | with_reducible refine wpAny_loadPart_at hC ?_ | (with_reducible refine wpAny_isSubtype_exc hC ?_; first | rw [hcB] | rw [hcA] | rw [hcN]) | wp_step)
  show R _ _
  rw [Heap.size_push]
  exact hq
theorem type_call_kw (F : ExcBaseFacts B newId initId bmB) (hT : ∀ X : String, bm.contains (.type X) = bmB.contains (.type X)) {v : Value} {fI : Addr} {Q : Fin → Shared → Prop}
    (hC : h.get? C = some (excClassObj nm q C N bs bm hdct sn sub ab col dd k0 k1 k2 k3 k5 newId))
    (hi : W.Looks (model prog w) h (typeLookup (.ref C) "__init__") (some (.ref fI))) (hb : ∀ self, W.Looks (model prog w) h (bindSpecial (.ref fI) self) (.ref fI, [self]))
    (hq : codeAny (model prog w) A (.call (.ref fI) ⟨[.ref (h.objs.size + 1)], [("value", v)]⟩)
      (fun r s' => match r with | .ok (.ret v) => v = .none ∧ Q (.done (.ret (.ref (h.objs.size + 1)))) s' | .ok _ => False | .error e => E e s')
      ⟨(h.push (W.kdv_tup [])).push (excO C h.objs.size), g, d, t, os⟩) :
    wpAny (model prog w) A (Builtin.«type.__call__» ⟨[.ref C], [("value", v)]⟩) Q E ⟨h, g, d, t, os⟩ := by
  repeat (first | with_reducible refine wpAny_loadPart_at hC ?_ | with_reducible refine wpAny_madeBy_exc hC ?_ | wp_step)
  refine codeAny_call_builtin_code (Code.quiet_builtin _ F.quiet) (check_new_kw F hT hC ?_)
  refine new_kw F hT hC ?_
  show wpAny _ _ _ _ _ _
  have k : ∀ b o, h.get? b = some o → ((h.push (W.kdv_tup [])).push (excO C h.objs.size)).get? b = some o := fun b o e => Heap.get?_push_of_some _ (Heap.get?_push_of_some _ e)
  have hC₁ := k _ _ hC
  have hget : ((h.push (W.kdv_tup [])).push (excO C h.objs.size)).get? (h.objs.size + 1) = some (excO C h.objs.size) := by heap_get
  have hcC : (Value.ref C :: bm).contains (.ref C) = true := by simp
  have i1 := hi.keeps k
  have b1 := (hb (.ref (h.objs.size + 1))).keeps k
  unfold isInstance
  repeat (first | with_reducible refine wpAny_loadPart_at hget ?_ | (with_reducible refine wpAny_isSubtype_exc hC₁ ?_; rw [hcC]) | wp_step)
  show wpAny _ _ (typeLookup (.ref C) _) _ _ _
  refine i1.at ?_
  refine wpAny_holding (wpAny_bind (b1.at ?_))
  refine wpAny_bind (wpAny_call (codeAny_mono hq fun r s' z => ?_))
  rcases r with e | (v | _ | _ | _) <;> first | exact z | exact z.elim | skip
  obtain ⟨rfl, z⟩ := z
  first
    | exact wpAny_pure (wpAny_pure z)
    | (wp_walk; exact z)
theorem check_type_call_kw {M : Model} {E : Value → Shared → Prop} {v : Value} {Q : Unit → Shared → Prop} (hC : h.get? C = some (excClassObj nm q C N bs bm hdct sn sub ab col dd k0 k1 k2 k3 k5 newId))
    (hq : Q () ⟨h, g, d, t, os⟩) : wpAny M A (checkBuiltinCall "type.__call__" ⟨[.ref C], [("value", v)]⟩) Q E ⟨h, g, d, t, os⟩ := by
  have f3 := tc_sub
  have hT : (⟨h, g, d, t, os⟩ : Shared).TypeIs (.ref C) "type" := ⟨_, hC, rfl⟩
  simp only [checkBuiltinCall, tc_kind, tc_split]
  repeat (any_goals (first | assumption | with_reducible refine wpAny_loadPart_at hC ?_ | with_reducible refine wpAny_onRaise ?_ | with_reducible refine wpAny_map ?_ | wp_step))
theorem call_kw (F : ExcBaseFacts B newId initId bmB) (hT : ∀ X : String, bm.contains (.type X) = bmB.contains (.type X)) {v : Value} {fI : Addr}
    (hC : h.get? C = some (excClassObj nm q C N bs bm hdct sn sub ab col dd k0 k1 k2 k3 k5 newId))
    (hi : W.Looks (model prog w) h (typeLookup (.ref C) "__init__") (some (.ref fI))) (hb : ∀ self, W.Looks (model prog w) h (bindSpecial (.ref fI) self) (.ref fI, [self]))
    (hq : codeAny (model prog w) (A.under (.builtin "type.__call__" ⟨[.ref C], [("value", v)]⟩)) (.call (.ref fI) ⟨[.ref (h.objs.size + 1)], [("value", v)]⟩) (W.InitBack (h.objs.size + 1) R)
      ⟨(h.push (W.kdv_tup [])).push (excO C h.objs.size), g, d, t, os⟩) :
    codeAny (model prog w) A (.call (.ref C) ⟨[], [("value", v)]⟩) R ⟨h, g, d, t, os⟩ := by
  have f1 := tc_lookup
  have f2 := tc_bind (.ref C)
  have hTy : (⟨h, g, d, t, os⟩ : Shared).TypeIs (.ref C) "type" := ⟨_, hC, rfl⟩
  refine codeAny_of_tree ?_
  show wpAny _ _ (callAny (.ref C) _) _ _ _
  repeat (any_goals (first | assumption | with_reducible refine wpAny_loadPart_at hC ?_ | wp_step))
  refine ⟨rfl, ?_⟩
  refine codeAny_call_builtin_at (Code.quiet_builtin _ (by decide +kernel)) entry_typeCall (check_type_call_kw hC (type_call_kw F hT hC hi hb ?_))
  refine codeAny_mono hq fun r s' z => ?_
  rcases r with e | (v | _ | _ | _) <;> exact z
end
end HandSPX
end PySem
namespace G
open PySem PySem.Spec PyProof.Rows L2
/-- an error that is made and kept -/
def tMkE (C : Addr) (ta : TA) : TE := fun σ H Q => ta σ H fun vs H1 => ∃ v, vs = [v] ∧ ∀ a dx, H1 a = none → H1 dx = none → dx ≠ a → Q (.ref a) (upd (upd (upd H1 a (exo a C none)) dx (exd dx [("value", v)])) a (exo a C (some dx)))
section
variable {X : Cx} {x : Str} {C fI : Addr} {fd : FuncData} {st : Stmt} {p pos : Pos} {e : Expr} {ta tk : TA} {kws : List Keyword} {g : List Value → List Value → List Value}
theorem mkE_hq {H1 : Hp} {Q : VK} {a : Addr} {v : V} (hn : H1 a = none) (q1 : ∀ a dx, H1 a = none → H1 dx = none → dx ≠ a → Q (.ref a) (upd (upd (upd H1 a (exo a C none)) dx (exd dx [("value", v)])) a (exo a C (some dx)))) :
    spVE C [V.ref a, v] (upd H1 a (exo a C none)) (fun u H2 => u = .non ∧ Q (.ref a) H2) (fun _ _ _ => False) :=
  ⟨a, v, rfl, upd_same, fun dx h1 h2 => ⟨rfl, q1 a dx hn (by rw [upd_ne h2] at h1; exact h1) h2⟩⟩
theorem pe_oexG (T : ErrAt X.K X.mg x st C fI fd) (F1 : FnOk X.prog X.w X.K X.mg X.base CX0 1 fI fd ["self", "value"] (spVE C)) (hr : Room 2 X.A) (hx : Passes CX0 X (fun _ _ _ => False)) (hg : Gl X x) (ha : PA X [e] ta)
    (hdb : (x == ("__debug__" : Str)) = false := by decide) (he : starEach [e] X.env = (false, eval e X.env) :: starEach [] X.env := by rfl) (hpl : (backTo pos (starEach [] X.env)).any (·.1) = false := by rfl) :
    PE X (.Call (.Name x p) [e] [] pos) (tMkE C ta) := by
  refine ⟨fun pins s σ H Q I h => ?_⟩
  obtain ⟨nm, q, N, bs, bm, sn, sub, ab, col, dd, k0, k1, k2, k3, k5, hC, hbm⟩ := T.T.cls
  refine wpAny_Call_Name_kw (ld_glob I hg T.gl ?_ hdb)
  refine PySem.W.callWith_K (h₀ := X.base) I.ok.mod.kin T.T.kC (thn (ha.run pos pins s σ H _ I h) fun us s1 ⟨vs, H1, I1, r1, v, ev, q1⟩ => ⟨I1.kIn, ?_⟩) he hpl
  subst ev
  show wpAny _ _ (call (.ref C) us) _ _ _
  obtain ⟨hp, g, dr, tk, os⟩ := s1
  have hsz : hp.objs.size ≤ hp.objs.size + 1 := Nat.le_succ _
  have hn : H1 (hp.objs.size + 1) = none := I1.hok.fresh hsz
  have hq := mkE_hq (C := C) hn q1
  have kk : ∀ b o, hp.get? b = some o → ((hp.push (PySem.W.kdv_tup us)).push (PySem.HandSPX.excO C hp.objs.size)).get? b = some o := fun b o e => Heap.get?_push_of_some _ (Heap.get?_push_of_some _ e)
  have hget : ((hp.push (PySem.W.kdv_tup us)).push (PySem.HandSPX.excO C hp.objs.size)).get? (hp.objs.size + 1) = some (PySem.HandSPX.excO C hp.objs.size) := by heap_get
  have I2 : Inv X pins σ (upd H1 (hp.objs.size + 1) (exo (hp.objs.size + 1) C none)) ⟨(hp.push (PySem.W.kdv_tup us)).push (PySem.HandSPX.excO C hp.objs.size), g, dr, tk, os⟩ :=
    I1.laid (t' := tk) (a := hp.objs.size + 1) (o := exo (hp.objs.size + 1) C none) (h' := (hp.push (PySem.W.kdv_tup us)).push (PySem.HandSPX.excO C hp.objs.size)) kk hsz (exo_ok hget)
  have r2 : Vals [V.ref (hp.objs.size + 1), v] ((Value.ref (hp.objs.size + 1) :: us) ++ []) := by
    rw [List.append_nil]
    exact .cons rfl r1
  have hl : ((Value.ref (hp.objs.size + 1) :: us) ++ []).length = ["self", "value"].length := r2.length.symm
  have hus : us.length ≤ sizeLine := by
    rw [← Paired.length r1, sizeLine_eq]
    show 1 ≤ 16777216
    decide
  refine wpAny_call (PySem.HandSPX.call_own F.excBase_ValueError (fun Y => PySem.HandSPX.refsVE_contains Y bm hbm) (I1.kIn _ _ hC) (PySem.W.looks_findIn I1.kIn T.iC) (fun self => PySem.W.bind_fn I1.kIn self T.tI) hus
    (codeAny_mono (F1.run _ X.stack _ _ ⟨Value.ref (hp.objs.size + 1) :: us, []⟩ ((Value.ref (hp.objs.size + 1) :: us) ++ []) _ _ (fun _ _ _ => False) (hr.make C us []) (I2.env0.make C us []) (T.bd _ (Value.ref (hp.objs.size + 1) :: us) I2.kIn hl) r2 hq) fun r s' hq' => ?_))
  match r, hq' with
  | .error er, hq' => exact hx pins σ _ _ er s' I2 hq'
  | .ok (.ret u), hq' =>
    obtain ⟨v', H', I3, rv, ev, q3⟩ := I2.after hq'
    subst ev
    exact ⟨rv, V.ref (hp.objs.size + 1), H', I3, rfl, q3⟩
/-- C(value = e) -/
theorem pe_oexKG (T : ErrAt X.K X.mg x st C fI fd) (F1 : FnOk X.prog X.w X.K X.mg X.base CX0 1 fI fd ["self", "value"] (spVE C)) (hr : Room 2 X.A) (hx : Passes CX0 X (fun _ _ _ => False)) (hg : Gl X x)
    (hb : KBinds X.K fd [("self" : String), ("value" : String)] [("value" : String)] g (gKwMV 1 [0, 1])) (hkw : PK X kws tk) (hall : (backToKw pos (keywordEach kws X.env)).all (·.1.isSome) = true := by rfl) (hks : (backToKw pos (keywordEach kws X.env)).filterMap (·.1) = [(("value" : String) : Str)] := by rfl) (hdb : (x == ("__debug__" : Str)) = false := by decide)
    (hpl : ((backTo pos (starEach [] X.env)).any (·.1) || (backToKw pos (keywordEach kws X.env)).any (·.1.isNone)) = false := by rfl) : PE X (.Call (.Name x p) [] kws pos) (tMkE C tk) := by
  refine ⟨fun pins s σ H Q I h => ?_⟩
  obtain ⟨nm, q, N, bs, bm, sn, sub, ab, col, dd, k0, k1, k2, k3, k5, hC, hbm⟩ := T.T.cls
  refine wpAny_Call_Name_kw (ld_glob I hg T.gl (PySem.W.callWith_KW0 (h₀ := X.base) I.ok.mod.kin T.T.kC hall (thn (hkw.run pos pins s σ H _ I h) fun ws s1 ⟨zs, H1, I1, rz, v, ev, q1⟩ => ⟨I1.kIn, ?_⟩) hpl) hdb)
  rw [hks]
  subst ev
  obtain ⟨w0, rfl⟩ : ∃ w0, ws = [w0] := by
    cases rz with
    | cons r0 rr =>
      cases rr
      exact ⟨_, rfl⟩
  show wpAny _ _ (call (.ref C) [] [("value", w0)]) _ _ _
  obtain ⟨hp, gg, dr, tk, os⟩ := s1
  have hsz : hp.objs.size ≤ hp.objs.size + 1 := Nat.le_succ _
  have hn : H1 (hp.objs.size + 1) = none := I1.hok.fresh hsz
  have hq := mkE_hq (C := C) hn q1
  have kk : ∀ b o, hp.get? b = some o → ((hp.push (PySem.W.kdv_tup [])).push (PySem.HandSPX.excO C hp.objs.size)).get? b = some o := fun b o e => Heap.get?_push_of_some _ (Heap.get?_push_of_some _ e)
  have hget : ((hp.push (PySem.W.kdv_tup [])).push (PySem.HandSPX.excO C hp.objs.size)).get? (hp.objs.size + 1) = some (PySem.HandSPX.excO C hp.objs.size) := by heap_get
  have I2 : Inv X pins σ (upd H1 (hp.objs.size + 1) (exo (hp.objs.size + 1) C none)) ⟨(hp.push (PySem.W.kdv_tup [])).push (PySem.HandSPX.excO C hp.objs.size), gg, dr, tk, os⟩ :=
    I1.laid (t' := tk) (a := hp.objs.size + 1) (o := exo (hp.objs.size + 1) C none) (h' := (hp.push (PySem.W.kdv_tup [])).push (PySem.HandSPX.excO C hp.objs.size)) kk hsz (exo_ok hget)
  have r1 : Vals [V.ref (hp.objs.size + 1)] [Value.ref (hp.objs.size + 1)] := .cons rfl .nil
  have r2 := hb.rel r1 rz
  have e2 : gKwMV 1 [0, 1] [V.ref (hp.objs.size + 1)] [v] = [V.ref (hp.objs.size + 1), v] := rfl
  rw [e2] at r2
  refine wpAny_call (PySem.HandSPX.call_kw F.excBase_ValueError (fun Y => PySem.HandSPX.refsVE_contains Y bm hbm) (I1.kIn _ _ hC) (PySem.W.looks_findIn I1.kIn T.iC) (fun self => PySem.W.bind_fn I1.kIn self T.tI)
    (codeAny_mono (F1.run _ X.stack _ _ ⟨[Value.ref (hp.objs.size + 1)], [(("value" : String) : Str)].zip [w0]⟩ (g [Value.ref (hp.objs.size + 1)] [w0]) _ _ (fun _ _ _ => False) (hr.make C [] ([(("value" : String) : Str)].zip [w0])) (I2.env0.make C [] ([(("value" : String) : Str)].zip [w0]))
      (hb.to _ [Value.ref (hp.objs.size + 1)] [w0] I2.kIn (r2.length.symm)) r2 hq) fun r s' hq' => ?_))
  match r, hq' with
  | .error er, hq' => exact hx pins σ _ _ er s' I2 hq'
  | .ok (.ret u), hq' =>
    obtain ⟨v', H', I3, rv, ev, q3⟩ := I2.after hq'
    subst ev
    exact ⟨rv, V.ref (hp.objs.size + 1), H', I3, rfl, q3⟩
end
/-- an error with its value -/
def ErA (H : Hp) (a C : Addr) (v : V) : Prop := ∃ dx, H a = some (exo a C (some dx)) ∧ H dx = some (exd dx [("value", v)])
theorem ErA.same {H H' : Hp} {a C : Addr} {v : V} (h : ErA H a C v) (s : ∀ b o, H b = some o → (∃ dx, o = exo a C (some dx)) ∨ (∃ dx, o = exd dx [("value", v)]) → H' b = some o) : ErA H' a C v := by
  obtain ⟨dx, e1, e2⟩ := h
  exact ⟨dx, s _ _ e1 (.inl ⟨dx, rfl⟩), s _ _ e2 (.inr ⟨dx, rfl⟩)⟩
theorem ErA.inst {P : Program} {w : World} {H : Hp} {h : Heap} {a C : Addr} {v : V} (e : ErA H a C v) (hok : HOk P w H h) : ∃ oe od u, PySem.W.InstAt h a oe C (some od) ∧ PySem.W.lookIn "value" od = some (some u) ∧ RelV v u := by
  obtain ⟨dx, e1, e2⟩ := e
  obtain ⟨t1, ho⟩ := exo_at hok e1
  obtain ⟨mA, hns, hr⟩ := exd_at hok e2
  obtain ⟨od, hd, hl⟩ := lookIn_ns hns
  obtain ⟨u, hu, ru⟩ := RelO.some_of (v := v) (o := mA "value") (hr "value")
  exact ⟨_, od, u, ⟨ho, rfl, rfl, hd⟩, by rw [hl, hu], ru⟩
/-- e.value -/
def tErV (K : PySem.W.Frag) (te : TE) : TE := fun σ H Q => te σ H fun x H1 => ∃ a C v, x = .ref a ∧ XfC K C ∧ PySem.W.findIn K (.ref C) "value" = some none ∧ ErA H1 a C v ∧ Q v H1
theorem pe_erV {X : Cx} {e : Expr} {te : TE} {pos : Pos} (he : PE X e te) (hb : attributeBase e "value" X.env (eval e X.env) = eval e X.env := by rfl) : PE X (.Attribute e "value" pos) (tErV X.K te) := by
  refine ⟨fun pins s σ H Q I h => ?_⟩
  refine attr_of hb (thn (he.run pins s σ H _ I h) fun u s1 ⟨x, H1, I1, rx, a, C, v, ex, T, hno, er, q⟩ => ?_)
  subst ex
  obtain rfl : u = Value.ref a := rx
  obtain ⟨oe, od, u, J, hl, ru⟩ := er.inst I1.hok
  exact HandSPX.exc_get I1.kIn J T.ga T.gg T.exC (PySem.W.findObj_own T.hdC hno rfl hl) (handed_of ru) ⟨v, H1, I1.tok _, ru, q⟩
/-- isinstance(e, C) -/
def rIsV (K : PySem.W.Frag) : List V → Hp → VK → Prop := fun xs H Q => ∃ (a D : Addr) (v c : V) (cv : Value) (b : Bool), xs = [.ref a, c] ∧ (∀ u, RelV c u → u = cv) ∧ ExcC K D ∧ ErA H a D v ∧ PySem.W.kitOne K (.ref D) cv = some b ∧ Q (.bl b) H
theorem call_isV {X : Cx} : CallR X (.builtin "isinstance") (rIsV X.K) := by
  intro pins s σ H xs us Q I r ⟨a, D, v, c, cv, b, exs, hcv, T, er, e, q⟩
  subst exs
  cases r with
  | cons rx rr =>
    cases rr with
    | cons rt rr =>
      cases rr
      cases rx
      have ec := hcv _ rt
      subst ec
      obtain ⟨oe, od, u, J, _, _⟩ := er.inst I.hok
      obtain ⟨cd, hc, _⟩ := PySem.W.any_some T.hd
      exact PySem.W.kia_one (PySem.W.kitx_exc (by rw [hc]; rfl) T.hg T.hk T.hs T.ha T.hn T.ht T.hm) I.kIn J e (fun z => nomatch z) fun tk => ⟨.bl b, H, I.kept (t' := tk) fun _ _ z => z, rfl, q⟩
end G
local macro_rules | `(tactic| walk_at "mem") => `(tactic| (repeat (first | exact List.Mem.head _ | apply List.Mem.tail)))
local macro_rules | `(tactic| walk_at "pick") => `(tactic| (repeat (first | exact G.Pick.hd | apply G.Pick.tl)))
local macro_rules | `(tactic| walk_at "lit") => `(tactic| (repeat (first | exact G.lit_int | exact G.litA_nil | exact G.lit_bool | exact G.lit_none | exact G.lit_str | refine G.lit_tup ?_ | refine G.lit_lst ?_ | refine G.litA_cons ?_ ?_)))
local macro_rules | `(tactic| walk_at "up") => `(tactic| (repeat (first | assumption | exact G.Rdb.int _ | apply G.Rdb.upO | apply G.Rdb.upT | apply G.Rdb.upF)))
local macro_rules | `(tactic| walk_at "memu") => `(tactic| (repeat (first | exact List.Mem.head _ | assumption | apply List.Mem.tail)))
local macro_rules | `(tactic| walk_at "picku") => `(tactic| (repeat (first | exact G.Pick.hd | assumption | apply G.Pick.tl)))
local macro_rules | `(tactic| walk_at "ev") => `(tactic| try simp (config := { maxSteps := 2000000 }) only [G.kZ, G.kgFld, G.kObApp, G.kObPop, G.kObNew, G.obLst, G.isObA, G.cO, G.cO.putO', G.kCallO, G.kCallOK, G.kCallOD, G.kCallOP, G.kMethO, G.kMakeO, G.obAt, G.edO_nx, G.edO_rt, G.edO_nxP, G.edO_rtP, G.rtS_fz, G.rtS_ow, G.rtS_own, G.datS_pile, G.datS_pile2, G.obD_pile, G.pile_0, G.pile_1, G.pile_2, G.pile_3, G.pile_4, G.pile2_1, G.pile_set3, G.pile_set4, G.pile_len, G.pile2_len, G.put_now, G.put_origins, G.put_p1, G.put_p2, G.put_p3, G.get_p4, G.get_p5, G.app_p4, G.app_p5, G.fld_book, G.fld_now, G.fld_origins, G.fld_led, G.fld_past, G.fld_now2, G.nof_pile_things, G.nof_pile_sources, G.nof_pile_effect, G.nof_pile_words_done, G.nof_pile_can, G.nof_pile_undo, G.okS_ob, G.noAl_ob, G.look_ob, G.kCallI3, G.edI3_rt, G.edI3_nx, G.ioD3_c, G.kMethX, G.kMethXK, G.kCallL3, G.kStar2, G.fzD, G.kInsD, G.kFirsts, G.kFirstsTo, G.kSpoilK, G.kIs, G.kJoin, G.strsOf_map, G.kLenSetT, G.kSlS, G.vCatS, G.kDGetE, G.isC_obj, G.isObj_obj, G.own_obj, G.cntF_obj, G.fld_kept, G.put_kept, G.put_kept2, G.nof_book_names, G.nof_book_words, G.nof_book_effects_held, G.nof_book_effect, G.nof_book_with_word, G.nof_book_without, G.vLenS, G.ty_str_tuple, G.ty_str_list, G.ty_tuple_str, G.ty_tuple_list, G.ty_list_str, G.ty_list_tuple, G.ty_int_str, G.ty_int_tuple, G.ty_int_list, G.ty_bool_str, G.ty_bool_tuple, G.ty_bool_list, G.ty_NoneType_str, G.ty_NoneType_tuple, G.ty_NoneType_list, G.ty_dict_str, G.ty_dict_tuple, G.ty_dict_list, G.kRev, G.kExt, G.kItS, G.vInS, G.kDc, G.dcL, G.kLenO, G.kEqO, G.kEqS, G.kEqR, G.kIsC2, G.isBase, G.isBase_obj, G.kIsC, G.kMethS, G.kMethK, G.kMakeK, G.kMakeX, G.kMakeXK, G.noXH, G.kFld, G.kMeth, G.kProp, G.kMake, G.kFldPut, G.isOb, G.notOw, G.boxM_dictD, G.datS_dc, G.look_dc, G.tyN, G.isObj, G.kC, G.kCallS, G.kCallSK, G.kCallPS, G.fzA, G.fzD, G.v4I, G.kSortD, G.kIxF, G.kIxFd, G.kRepM, G.kListT, G.vUpper, G.kRepS, G.kgSubN, G.kCallE, G.kEz, G.kIns, G.kClear, G.kReverse, G.kCallX, G.kCallXK, G.kRaise, G.kTry, G.hdX, G.hdE, G.kXval, G.kFz, G.kCallW, G.kCallIA, G.kgUnl, G.itL, G.kThr, G.datS_sh, G.chg_sh, G.chg_tup, G.chg_lst, G.kSink, G.kLenD, G.kLenSet, G.kRepN, G.kCallTM, G.kDivmod, G.kMaxDef, G.kReprL, G.kLc2, G.vInD, G.vIdxD, G.kTupOf, G.kTupV, G.kIxTake, G.kgFill, G.kListMv, G.kDNew, G.kDNewT, G.topK, G.kDGet, G.kDIn, G.kDPut, G.dgS, G.dpS, G.dlS, G.isDc, G.keyD, G.keysD, G.valM_nil, Option.map_some, Option.isSome_none, Option.isSome_some, G.okS_dc, G.okS_dt, G.noAl_dc, G.noAl_dt, G.kVar, G.kFrz, G.kMov, G.kNil, G.kCons, G.kOp, G.vI, G.vB, G.noC, G.vEq, G.vIn, G.vIsN, G.vEqD, G.kChain, G.kUn, G.vNeg, G.kF, G.vLen, G.v2I, G.v1I, G.v3I, G.vInt, G.vAll, G.vSum, G.vSumT, G.vMaxL, G.vRepr, G.kTest, G.kTAnd, G.kTOr, G.kTNot, G.kYes, G.popB, G.pushB, G.kAndV, G.kOrV, G.kNotV, G.kIf, G.popC, G.kMk, G.look_mkL, G.okS_mkL, G.mkS_lt, G.mkS_lf, G.mkS_tt, G.mkS_tf, G.own_int, G.own_bool, G.own_str, G.own_none, G.own_list, G.own_tup, G.con_own, G.okS_own, G.look_own, G.dq, G.kIx, G.seqD, G.subS_fz, G.subS_ow, G.subS_of, G.subS_al, G.kListOf, G.shr, G.kNo, G.popI, G.kPart, G.kSl, G.kSlT, G.kCat, G.kRg2, G.kRg1, G.kListRg, G.kCallT, G.kCallTK, G.kCallP, G.isLst, G.kM, G.vCnt, G.vIdx, G.kApp, G.wrL, G.atP, G.setP, G.kPop, G.kPopAt, G.popK, G.kgSub, G.frzSeq, G.kIt, G.kRng1, G.kRng2, G.kgName, G.okS_fz, G.okS_ow, G.okS_pu, G.okS_al, G.noAl_nil, G.noAl_fz, G.noAl_ow, G.noAl_pu, G.noAl_al, G.noAl_own, G.con_fz, G.con_ow, G.kgNil, G.kgCons, G.kgTup, G.itS, G.kAsg, G.kPar, G.kPar3, G.kAug, G.kDrop, G.kRet, G.kRetN, G.kNever, G.kNext, G.kBreak, G.kCont, G.kSeq, G.kIfS, G.kFor, G.kLc, G.kEnum, G.kZip, G.look_fz, G.look_ow, G.look_al, G.datS_fz, G.datS_ow, G.datS_own, G.datN, G.nolist, G.nolists, G.nolists_ints, G.kLit, G.kRngD, G.kCallI, G.kCallV, G.vBits, G.reS_io, G.reS_ow, G.putS_set, G.datS_io, G.ownF_ow, G.ownF_io, G.edI_rt, G.edI_nx, G.ioD_c, G.giv_ow, G.giv_fz, G.giv_own, G.ioOk, G.cutD_lastI, G.cutD_initI, G.inV_intsD, G.allflat_ints, Option.getD_some, G.edT_rt, G.edP_rt, G.edT_nx, G.edP_nx, G.rtN_fz, G.rtN_ow, G.rtN_own, G.ixD_0, G.ixD_1, G.ixD_2, G.intsOf_map, G.boolsOf_map, G.newL, G.nolists_app, G.flatD, G.vOf,
  List.map_cons, List.map_nil, List.cons_append, List.nil_append, List.append_nil, List.getElem?_cons_zero, List.getElem?_cons_succ, List.getElem?_nil, List.set_cons_zero, List.set_cons_succ, List.getD_cons_zero, List.getD_cons_succ, List.length_cons, List.length_nil, List.length_map, List.all_cons, List.all_nil, List.tail_cons, List.filterMap_cons_some, List.filterMap_nil, Option.elim, Option.bind_some, Option.bind_none, Option.orElse, Option.map_some, Bool.and_true, Bool.true_and, Bool.and_false, Bool.false_and, Bool.not_true, decide_true, Bool.not_false, Bool.false_xor, Bool.true_xor, if_true, if_false, true_and, and_true, true_or, or_true, eq_self, reduceIte, ite_true, ite_false, Bool.false_eq_true, Nat.zero_add, Nat.reduceAdd, implies_true, bne_self_eq_false])
local macro_rules | `(tactic| walk_at "ev0") => `(tactic| try simp (config := { maxSteps := 2000000 }) only [G.kZ, G.kgFld, G.kObApp, G.kObPop, G.kObNew, G.obLst, G.isObA, G.cO, G.cO.putO', G.kCallO, G.kCallOK, G.kCallOD, G.kCallOP, G.kMethO, G.kMakeO, G.obAt, G.edO_nx, G.edO_rt, G.edO_nxP, G.edO_rtP, G.rtS_fz, G.rtS_ow, G.rtS_own, G.datS_pile, G.datS_pile2, G.obD_pile, G.pile_0, G.pile_1, G.pile_2, G.pile_3, G.pile_4, G.pile2_1, G.pile_set3, G.pile_set4, G.pile_len, G.pile2_len, G.put_now, G.put_origins, G.put_p1, G.put_p2, G.put_p3, G.get_p4, G.get_p5, G.app_p4, G.app_p5, G.fld_book, G.fld_now, G.fld_origins, G.fld_led, G.fld_past, G.fld_now2, G.nof_pile_things, G.nof_pile_sources, G.nof_pile_effect, G.nof_pile_words_done, G.nof_pile_can, G.nof_pile_undo, G.okS_ob, G.noAl_ob, G.look_ob, G.kCallI3, G.edI3_rt, G.edI3_nx, G.ioD3_c, G.kMethX, G.kMethXK, G.kCallL3, G.kStar2, G.fzD, G.kInsD, G.kFirsts, G.kFirstsTo, G.kSpoilK, G.kIs, G.kJoin, G.strsOf_map, G.kLenSetT, G.kSlS, G.vCatS, G.kDGetE, G.isC_obj, G.isObj_obj, G.own_obj, G.cntF_obj, G.fld_kept, G.put_kept, G.put_kept2, G.nof_book_names, G.nof_book_words, G.nof_book_effects_held, G.nof_book_effect, G.nof_book_with_word, G.nof_book_without, G.vLenS, G.ty_str_tuple, G.ty_str_list, G.ty_tuple_str, G.ty_tuple_list, G.ty_list_str, G.ty_list_tuple, G.ty_int_str, G.ty_int_tuple, G.ty_int_list, G.ty_bool_str, G.ty_bool_tuple, G.ty_bool_list, G.ty_NoneType_str, G.ty_NoneType_tuple, G.ty_NoneType_list, G.ty_dict_str, G.ty_dict_tuple, G.ty_dict_list, G.kRev, G.kExt, G.kItS, G.vInS, G.kDc, G.dcL, G.kLenO, G.kEqO, G.kEqS, G.kEqR, G.kIsC2, G.isBase, G.isBase_obj, G.kIsC, G.kMethS, G.kMethK, G.kMakeK, G.kMakeX, G.kMakeXK, G.noXH, G.kFld, G.kMeth, G.kProp, G.kMake, G.kFldPut, G.isOb, G.notOw, G.boxM_dictD, G.datS_dc, G.look_dc, G.tyN, G.isObj, G.kC, G.kCallS, G.kCallSK, G.kCallPS, G.fzA, G.fzD, G.v4I, G.kSortD, G.kIxF, G.kIxFd, G.kRepM, G.kListT, G.vUpper, G.kRepS, G.kgSubN, G.kCallE, G.kEz, G.kIns, G.kClear, G.kReverse, G.kCallX, G.kCallXK, G.kRaise, G.kTry, G.hdX, G.hdE, G.kXval, G.kFz, G.kCallW, G.kCallIA, G.kgUnl, G.itL, G.kThr, G.datS_sh, G.chg_sh, G.chg_tup, G.chg_lst, G.kSink, G.kLenD, G.kLenSet, G.kRepN, G.kCallTM, G.kDivmod, G.kMaxDef, G.kReprL, G.kLc2, G.vInD, G.vIdxD, G.kTupOf, G.kTupV, G.kIxTake, G.kgFill, G.kListMv, G.kDNew, G.kDNewT, G.topK, G.kDGet, G.kDIn, G.kDPut, G.dgS, G.dpS, G.dlS, G.isDc, G.keyD, G.keysD, G.valM_nil, Option.map_some, Option.isSome_none, Option.isSome_some, G.okS_dc, G.okS_dt, G.noAl_dc, G.noAl_dt, G.kVar, G.kFrz, G.kMov, G.kNil, G.kCons, G.kOp, G.vI, G.vB, G.noC, G.vEq, G.vIn, G.vIsN, G.vEqD, G.kChain, G.kUn, G.vNeg, G.kF, G.vLen, G.v2I, G.v1I, G.v3I, G.vInt, G.vAll, G.vSum, G.vSumT, G.vMaxL, G.vRepr, G.kTest, G.kTAnd, G.kTOr, G.kTNot, G.kYes, G.popB, G.pushB, G.kAndV, G.kOrV, G.kNotV, G.kIf, G.popC, G.kMk, G.look_mkL, G.okS_mkL, G.mkS_lt, G.mkS_lf, G.mkS_tt, G.mkS_tf, G.own_int, G.own_bool, G.own_str, G.own_none, G.own_list, G.own_tup, G.con_own, G.okS_own, G.look_own, G.dq, G.kIx, G.seqD, G.subS_fz, G.subS_ow, G.subS_of, G.subS_al, G.kListOf, G.shr, G.kNo, G.popI, G.kPart, G.kSl, G.kSlT, G.kCat, G.kRg2, G.kRg1, G.kListRg, G.kCallT, G.kCallTK, G.kCallP, G.isLst, G.kM, G.vCnt, G.vIdx, G.kApp, G.wrL, G.atP, G.setP, G.kPop, G.kPopAt, G.popK, G.kgSub, G.frzSeq, G.kIt, G.kRng1, G.kRng2, G.kgName, G.okS_fz, G.okS_ow, G.okS_pu, G.okS_al, G.noAl_nil, G.noAl_fz, G.noAl_ow, G.noAl_pu, G.noAl_al, G.noAl_own, G.con_fz, G.con_ow, G.kgNil, G.kgCons, G.kgTup, G.itS, G.kPar, G.kPar3, G.kAug, G.kDrop, G.kRet, G.kRetN, G.kNever, G.kNext, G.kBreak, G.kCont, G.kSeq, G.kIfS, G.kFor, G.kLc, G.kEnum, G.kZip, G.look_fz, G.look_ow, G.look_al, G.datS_fz, G.datS_ow, G.datS_own, G.datN, G.nolist, G.nolists, G.nolists_ints, G.kLit, G.kRngD, G.kCallI, G.kCallV, G.vBits, G.reS_io, G.reS_ow, G.putS_set, G.datS_io, G.ownF_ow, G.ownF_io, G.edI_rt, G.edI_nx, G.ioD_c, G.giv_ow, G.giv_fz, G.giv_own, G.ioOk, G.cutD_lastI, G.cutD_initI, G.inV_intsD, G.allflat_ints, Option.getD_some, G.edT_rt, G.edP_rt, G.edT_nx, G.edP_nx, G.rtN_fz, G.rtN_ow, G.rtN_own, G.ixD_0, G.ixD_1, G.ixD_2, G.intsOf_map, G.boolsOf_map, G.newL, G.nolists_app, G.flatD, G.vOf,
  List.map_cons, List.map_nil, List.cons_append, List.nil_append, List.append_nil, List.getElem?_cons_zero, List.getElem?_cons_succ, List.getElem?_nil, List.set_cons_zero, List.set_cons_succ, List.getD_cons_zero, List.getD_cons_succ, List.length_cons, List.length_nil, List.length_map, List.all_cons, List.all_nil, List.tail_cons, List.filterMap_cons_some, List.filterMap_nil, Option.elim, Option.bind_some, Option.bind_none, Option.orElse, Option.map_some, Bool.and_true, Bool.true_and, Bool.and_false, Bool.false_and, Bool.not_true, decide_true, Bool.not_false, Bool.false_xor, Bool.true_xor, if_true, if_false, true_and, and_true, true_or, or_true, eq_self, reduceIte, ite_true, ite_false, Bool.false_eq_true, Nat.zero_add, Nat.reduceAdd, implies_true, bne_self_eq_false])
namespace My
open PySem PySem.Spec PyProof.Rows L2 G
theorem bits_of {i : Int} {n : Nat} (h0 : 0 < n) (h : i.natAbs < 2 ^ n) : Builtin.Int.intBits i ≤ n := by
  have := PySem.Flt.log2_lt_of h0 h
  unfold Builtin.Int.intBits
  split <;> omega
/-- how many places are left, and how many things are needed, if straight places at the end are cut -/
def trim (gs : List Int) : Nat → Int → Nat × Int
  | 0, n => (0, n)
  | k + 1, n => if gs[k]? = some n ∧ (∀ x ∈ gs.take k, x < n) then trim gs k (n - 1) else (k + 1, n)
def leastE (n : Int) (gs : List Int) : Int × List Int := ((trim gs gs.length n).2, gs.take (trim gs gs.length n).1)
theorem trim_le (gs : List Int) : ∀ (k : Nat) (n : Int), (trim gs k n).1 ≤ k
  | 0, _ => Nat.le_refl _
  | k + 1, n => by
    unfold trim
    split
    · exact Nat.le_succ_of_le (trim_le gs k _)
    · exact Nat.le_refl _
/-- an effect, told in its least way or not -/
structure Eff (e : Int × List Int) : Prop where
  nn : 0 ≤ e.1
  ge : ∀ x ∈ e.2, 1 ≤ x
  le : ∀ x ∈ e.2, x ≤ e.1
/-- told in its least way -/
def Lst (e : Int × List Int) : Prop := leastE e.1 e.2 = e
def fromE (e : Int × List Int) (r : Int) : Int := if r ≤ (e.2.length : Nat) then e.2.getD (r - 1).toNat 0 else r + e.1 - (e.2.length : Nat)
/-- two least ways of the same shift are one -/
theorem canon_lt {e f : Int × List Int} (he : Eff e) (hf : Eff f) (lf : Lst f) (h : ∀ r, 1 ≤ r → fromE e r = fromE f r) : f.2.length ≤ e.2.length := by
  by_cases c : f.2.length ≤ e.2.length
  · exact c
  exfalso
  have big := h (e.2.length + f.2.length + 1) (by omega)
  unfold fromE at big
  rw [if_neg (by omega), if_neg (by omega)] at big
  have at_ : ∀ j : Nat, j < f.2.length → e.2.length ≤ j → f.2[j]? = some ((j : Int) + 1 + e.1 - (e.2.length : Nat)) := fun j hj hk => by
    have q := h (j + 1) (by omega)
    unfold fromE at q
    have e1 : ((j : Int) + 1 - 1).toNat = j := by omega
    rw [if_neg (by omega), if_pos (by omega), e1, List.getD_eq_getElem?_getD] at q
    have em : f.2[j]? = some f.2[j] := List.getElem?_eq_getElem hj
    rw [em] at q ⊢
    have q2 : _ = f.2[j] := q
    rw [← q2]
  obtain ⟨k, ek⟩ : ∃ k, f.2.length = k + 1 := ⟨f.2.length - 1, by omega⟩
  have cut : trim f.2 (k + 1) f.1 = trim f.2 k (f.1 - 1) := by
    conv => lhs; unfold trim
    rw [if_pos]
    refine ⟨?_, fun x hx => ?_⟩
    · rw [at_ k (by omega) (by omega)]
      congr 1
      omega
    · obtain ⟨j, hj, rfl⟩ := List.getElem_of_mem hx
      rw [List.length_take] at hj
      rw [List.getElem_take]
      have em : f.2[j]? = some f.2[j] := List.getElem?_eq_getElem (by omega)
      by_cases hk : e.2.length ≤ j
      · have q := at_ j (by omega) hk
        rw [em] at q
        have q2 := Option.some.inj q
        omega
      · have q := h (j + 1) (by omega)
        unfold fromE at q
        have e1 : ((j : Int) + 1 - 1).toNat = j := by omega
        have em2 : e.2[j]? = some e.2[j] := List.getElem?_eq_getElem (by omega)
        rw [if_pos (by omega), if_pos (by omega), e1, List.getD_eq_getElem?_getD, List.getD_eq_getElem?_getD, em, em2] at q
        have q2 : e.2[j] = f.2[j] := q
        have := he.le _ (List.mem_of_getElem? em2)
        omega
  have l1 := trim_le f.2 k (f.1 - 1)
  have l2 : (leastE f.1 f.2).2.length = f.2.length := by rw [show leastE f.1 f.2 = f from lf]
  unfold leastE at l2
  dsimp only at l2
  rw [List.length_take, ek, cut] at l2
  omega
theorem canon {e f : Int × List Int} (he : Eff e) (hf : Eff f) (le : Lst e) (lf : Lst f) (h : ∀ r, 1 ≤ r → fromE e r = fromE f r) : e = f := by
  have a1 := canon_lt he hf lf h
  have a2 := canon_lt hf he le fun r hr => (h r hr).symm
  have big := h (e.2.length + f.2.length + 1) (by omega)
  unfold fromE at big
  rw [if_neg (by omega), if_neg (by omega)] at big
  obtain ⟨n, gs⟩ := e
  obtain ⟨d, ls⟩ := f
  dsimp only at *
  have en : n = d := by omega
  subst en
  congr 1
  refine List.ext_getElem? fun j => ?_
  by_cases hj : j < gs.length
  · have q := h (j + 1) (by omega)
    unfold fromE at q
    dsimp only at q
    have e1 : ((j : Int) + 1 - 1).toNat = j := by omega
    have em : gs[j]? = some gs[j] := List.getElem?_eq_getElem hj
    have em2 : ls[j]? = some ls[j] := List.getElem?_eq_getElem (by omega)
    rw [if_pos (by omega), if_pos (by omega), e1, List.getD_eq_getElem?_getD, List.getD_eq_getElem?_getD, em, em2] at q
    rw [em, em2]
    exact congrArg some q
  · rw [List.getElem?_eq_none (by omega), List.getElem?_eq_none (by omega)]
def topS (i : Nat) : Stmt := PySem.Challenge.pw_pileshifts_k01_errors_hold_values.main.body.getD i (.Pass ⟨0, 0, 0, 0⟩)
abbrev s__law_coin : Stmt := topS 14
abbrev N__law_coin : List Str := ["_law_purse", "_law_many", "_law_drawn", "_law_stirred"]
theorem sc__law_coin : FnScope N__law_coin ["_law_purse", "_law_many"] (defScope s__law_coin) := ⟨rfl, rfl, rfl, by decide +kernel, rfl, by decide +kernel, by decide +kernel⟩
abbrev s__law_ps_sack : Stmt := topS 15
abbrev N__law_ps_sack : List Str := ["_law_script", "_law_rank", "_law_cell"]
theorem sc__law_ps_sack : FnScope N__law_ps_sack ["_law_script", "_law_rank"] (defScope s__law_ps_sack) := ⟨rfl, rfl, rfl, by decide +kernel, rfl, by decide +kernel, by decide +kernel⟩
abbrev s__law_ps_same : Stmt := topS 16
abbrev N__law_ps_same : List Str := ["_law_told", "_law_due"]
theorem sc__law_ps_same : FnScope N__law_ps_same ["_law_told", "_law_due"] (defScope s__law_ps_same) := ⟨rfl, rfl, rfl, by decide +kernel, rfl, by decide +kernel, by decide +kernel⟩
abbrev s__law_ps_spoil : Stmt := topS 17
abbrev N__law_ps_spoil : List Str := ["_law_thing", "_law_tally", "_law_inner"]
theorem sc__law_ps_spoil : FnScope N__law_ps_spoil ["_law_thing", "_law_tally"] (defScope s__law_ps_spoil) := ⟨rfl, rfl, rfl, by decide +kernel, rfl, by decide +kernel, by decide +kernel⟩
abbrev s__law_ps_text : Stmt := topS 18
abbrev N__law_ps_text : List Str := ["_law_sack", "_law_signs", "_law_turn"]
theorem sc__law_ps_text : FnScope N__law_ps_text ["_law_sack"] (defScope s__law_ps_text) := ⟨rfl, rfl, rfl, by decide +kernel, rfl, by decide +kernel, by decide +kernel⟩
abbrev s__law_ps_later_error : Stmt := topS 20
abbrev N__law_ps_later_error : List Str := ["_law_rank", "_law_thing", "_law_named"]
theorem sc__law_ps_later_error : FnScope N__law_ps_later_error ["_law_rank", "_law_thing", "_law_named"] (defScope s__law_ps_later_error) := ⟨rfl, rfl, rfl, by decide +kernel, rfl, by decide +kernel, by decide +kernel⟩
abbrev s__law_ps_error : Stmt := topS 19
abbrev N__law_ps_error : List Str := ["_law_rank", "_law_thing", "_law_named"]
theorem sc__law_ps_error : FnScope N__law_ps_error ["_law_rank", "_law_thing", "_law_named"] (defScope s__law_ps_error) := ⟨rfl, rfl, rfl, by decide +kernel, rfl, by decide +kernel, by decide +kernel⟩
abbrev s__law_ps_kinds : Stmt := topS 21
abbrev N__law_ps_kinds : List Str := ["_law_made", "_law_found"]
theorem sc__law_ps_kinds : FnScope N__law_ps_kinds ["_law_made"] (defScope s__law_ps_kinds) := ⟨rfl, rfl, rfl, by decide +kernel, rfl, by decide +kernel, by decide +kernel⟩
abbrev s__law_ps_value : Stmt := topS 22
abbrev N__law_ps_value : List Str := ["_law_sack", "_law_sort_here"]
theorem sc__law_ps_value : FnScope N__law_ps_value ["_law_sack"] (defScope s__law_ps_value) := ⟨rfl, rfl, rfl, by decide +kernel, rfl, by decide +kernel, by decide +kernel⟩
abbrev s__law_ps_right : Stmt := topS 23
abbrev N__law_ps_right : List Str := ["_law_sack", "_law_rank", "_law_thing", "_law_rival", "_law_made", "_law_beside", "_law_due", "_law_sort_here"]
theorem sc__law_ps_right : FnScope N__law_ps_right ["_law_sack"] (defScope s__law_ps_right) := ⟨rfl, rfl, rfl, by decide +kernel, rfl, by decide +kernel, by decide +kernel⟩
abbrev s_law : Stmt := topS 24
abbrev N_law : List Str := ["_law_script", "_law_rank"]
theorem sc_law : FnScope N_law ["_law_script"] (defScope s_law) := ⟨rfl, rfl, rfl, by decide +kernel, rfl, by decide +kernel, by decide +kernel⟩
abbrev s_VE : Stmt := inClass (topS 1) 0
theorem sc_VE : FnScope ["self", "value"] ["self", "value"] (defScope s_VE) := ⟨rfl, rfl, rfl, by decide +kernel, rfl, by decide +kernel, by decide +kernel⟩
theorem ok_VE {P : Program} {w : World} {K : PySem.W.Frag} {mg : Str → Option Value} {base : Heap} {x : Str} {C fI : Addr} {fd : FuncData} (T : ErrAt K mg x s_VE C fI fd) : FnOk P w K mg base CX0 1 fI fd ["self", "value"] (spVE C) := by
  refine T.F.ok sc_VE (fun vs H Q E h => ?_) (fun cdv A outer s H vs Q E hr h => ⟨tVE K, ?_, run_VE T h⟩)
  · obtain ⟨a, v, rfl, _⟩ := h
    rfl
  · exact pss_cons (ps_expr (pe_veinit (by rfl) T.gV T.vV (pa_cons (pv 0) (pa_cons (pv 1) pa_nil)))) (pss_one (ps_ost (pv 0) (pv 1)))
theorem kb_VE {K : PySem.W.Frag} {mg : Str → Option Value} {x : Str} {C fI : Addr} {fd : FuncData} (T : ErrAt K mg x s_VE C fI fd) : KBinds K fd ["self", "value"] ["value"] (gKwM 1 [0, 1]) (gKwMV 1 [0, 1]) := by
  obtain ⟨oc, od, kV, doc, pm, an, cdv, ct, osl, e, lk, hcd⟩ := T.F.ex
  rw [e]
  refine kb_ofM (by decide) fun us ws hu hl => ?_
  match us, hu, ws, hl with
  | [u0], _, [], h => simp at h
  | [u0], _, x0 :: r, _ => rfl
structure Prog (K : PySem.W.Frag) (mg : Str → Option Value) where
  blt : Blt mg
  f__law_coin : Addr
  fd__law_coin : FuncData
  d__law_coin : DefAt K mg "_law_coin" s__law_coin f__law_coin fd__law_coin ["_law_purse", "_law_many"]
  f__law_ps_sack : Addr
  fd__law_ps_sack : FuncData
  d__law_ps_sack : DefAt K mg "_law_ps_sack" s__law_ps_sack f__law_ps_sack fd__law_ps_sack ["_law_script", "_law_rank"]
  f__law_ps_same : Addr
  fd__law_ps_same : FuncData
  d__law_ps_same : DefAt K mg "_law_ps_same" s__law_ps_same f__law_ps_same fd__law_ps_same ["_law_told", "_law_due"]
  f__law_ps_spoil : Addr
  fd__law_ps_spoil : FuncData
  d__law_ps_spoil : DefAt K mg "_law_ps_spoil" s__law_ps_spoil f__law_ps_spoil fd__law_ps_spoil ["_law_thing", "_law_tally"]
  f__law_ps_text : Addr
  fd__law_ps_text : FuncData
  d__law_ps_text : DefAt K mg "_law_ps_text" s__law_ps_text f__law_ps_text fd__law_ps_text ["_law_sack"]
  f__law_ps_later_error : Addr
  fd__law_ps_later_error : FuncData
  d__law_ps_later_error : DefAt K mg "_law_ps_later_error" s__law_ps_later_error f__law_ps_later_error fd__law_ps_later_error ["_law_rank", "_law_thing", "_law_named"]
  f__law_ps_error : Addr
  fd__law_ps_error : FuncData
  d__law_ps_error : DefAt K mg "_law_ps_error" s__law_ps_error f__law_ps_error fd__law_ps_error ["_law_rank", "_law_thing", "_law_named"]
  f__law_ps_kinds : Addr
  fd__law_ps_kinds : FuncData
  d__law_ps_kinds : DefAt K mg "_law_ps_kinds" s__law_ps_kinds f__law_ps_kinds fd__law_ps_kinds ["_law_made"]
  f__law_ps_value : Addr
  fd__law_ps_value : FuncData
  d__law_ps_value : DefAt K mg "_law_ps_value" s__law_ps_value f__law_ps_value fd__law_ps_value ["_law_sack"]
  f__law_ps_right : Addr
  fd__law_ps_right : FuncData
  d__law_ps_right : DefAt K mg "_law_ps_right" s__law_ps_right f__law_ps_right fd__law_ps_right ["_law_sack"]
  f_law : Addr
  fd_law : FuncData
  d_law : DefAt K mg "law" s_law f_law fd_law ["_law_script"]
  C_DoubleName : Addr
  fI_DoubleName : Addr
  fdI_DoubleName : FuncData
  e_DoubleName : ErrAt K mg "DoubleName" s_VE C_DoubleName fI_DoubleName fdI_DoubleName
  C_InvalidEffect : Addr
  fI_InvalidEffect : Addr
  fdI_InvalidEffect : FuncData
  e_InvalidEffect : ErrAt K mg "InvalidEffect" s_VE C_InvalidEffect fI_InvalidEffect fdI_InvalidEffect
  C_InvalidName : Addr
  fI_InvalidName : Addr
  fdI_InvalidName : FuncData
  e_InvalidName : ErrAt K mg "InvalidName" s_VE C_InvalidName fI_InvalidName fdI_InvalidName
  C_InvalidNumber : Addr
  fI_InvalidNumber : Addr
  fdI_InvalidNumber : FuncData
  e_InvalidNumber : ErrAt K mg "InvalidNumber" s_VE C_InvalidNumber fI_InvalidNumber fdI_InvalidNumber
  C_InvalidPlace : Addr
  fI_InvalidPlace : Addr
  fdI_InvalidPlace : FuncData
  e_InvalidPlace : ErrAt K mg "InvalidPlace" s_VE C_InvalidPlace fI_InvalidPlace fdI_InvalidPlace
  C_InvalidStep : Addr
  fI_InvalidStep : Addr
  fdI_InvalidStep : FuncData
  e_InvalidStep : ErrAt K mg "InvalidStep" s_VE C_InvalidStep fI_InvalidStep fdI_InvalidStep
  C_MixedBook : Addr
  fI_MixedBook : Addr
  fdI_MixedBook : FuncData
  e_MixedBook : ErrAt K mg "MixedBook" s_VE C_MixedBook fI_MixedBook fdI_MixedBook
  C_NothingToUndo : Addr
  fI_NothingToUndo : Addr
  fdI_NothingToUndo : FuncData
  e_NothingToUndo : ErrAt K mg "NothingToUndo" s_VE C_NothingToUndo fI_NothingToUndo fdI_NothingToUndo
  C_PileError : Addr
  fI_PileError : Addr
  fdI_PileError : FuncData
  e_PileError : ErrAt K mg "PileError" s_VE C_PileError fI_PileError fdI_PileError
  C_TooShallow : Addr
  fI_TooShallow : Addr
  fdI_TooShallow : FuncData
  e_TooShallow : ErrAt K mg "TooShallow" s_VE C_TooShallow fI_TooShallow fdI_TooShallow
  C_UnknownWord : Addr
  fI_UnknownWord : Addr
  fdI_UnknownWord : FuncData
  e_UnknownWord : ErrAt K mg "UnknownWord" s_VE C_UnknownWord fI_UnknownWord fdI_UnknownWord
  C_Unreadable : Addr
  fI_Unreadable : Addr
  fdI_Unreadable : FuncData
  e_Unreadable : ErrAt K mg "Unreadable" s_VE C_Unreadable fI_Unreadable fdI_Unreadable
  i_DoubleName : ExcC K C_DoubleName
  i_InvalidEffect : ExcC K C_InvalidEffect
  i_InvalidName : ExcC K C_InvalidName
  i_InvalidNumber : ExcC K C_InvalidNumber
  i_InvalidPlace : ExcC K C_InvalidPlace
  i_InvalidStep : ExcC K C_InvalidStep
  i_MixedBook : ExcC K C_MixedBook
  i_NothingToUndo : ExcC K C_NothingToUndo
  i_PileError : ExcC K C_PileError
  i_TooShallow : ExcC K C_TooShallow
  i_UnknownWord : ExcC K C_UnknownWord
  i_Unreadable : ExcC K C_Unreadable
  ki_DoubleName_DoubleName : PySem.W.kitOne K (.ref C_DoubleName) (.ref C_DoubleName) = some true
  ki_DoubleName_InvalidEffect : PySem.W.kitOne K (.ref C_DoubleName) (.ref C_InvalidEffect) = some false
  ki_DoubleName_InvalidName : PySem.W.kitOne K (.ref C_DoubleName) (.ref C_InvalidName) = some false
  ki_DoubleName_InvalidNumber : PySem.W.kitOne K (.ref C_DoubleName) (.ref C_InvalidNumber) = some false
  ki_DoubleName_InvalidPlace : PySem.W.kitOne K (.ref C_DoubleName) (.ref C_InvalidPlace) = some false
  ki_DoubleName_InvalidStep : PySem.W.kitOne K (.ref C_DoubleName) (.ref C_InvalidStep) = some false
  ki_DoubleName_MixedBook : PySem.W.kitOne K (.ref C_DoubleName) (.ref C_MixedBook) = some false
  ki_DoubleName_NothingToUndo : PySem.W.kitOne K (.ref C_DoubleName) (.ref C_NothingToUndo) = some false
  ki_DoubleName_PileError : PySem.W.kitOne K (.ref C_DoubleName) (.ref C_PileError) = some true
  ki_DoubleName_TooShallow : PySem.W.kitOne K (.ref C_DoubleName) (.ref C_TooShallow) = some false
  ki_DoubleName_UnknownWord : PySem.W.kitOne K (.ref C_DoubleName) (.ref C_UnknownWord) = some false
  ki_DoubleName_Unreadable : PySem.W.kitOne K (.ref C_DoubleName) (.ref C_Unreadable) = some false
  ki_DoubleName_ValueError : PySem.W.kitOne K (.ref C_DoubleName) (.type "ValueError") = some true
  ki_InvalidEffect_DoubleName : PySem.W.kitOne K (.ref C_InvalidEffect) (.ref C_DoubleName) = some false
  ki_InvalidEffect_InvalidEffect : PySem.W.kitOne K (.ref C_InvalidEffect) (.ref C_InvalidEffect) = some true
  ki_InvalidEffect_InvalidName : PySem.W.kitOne K (.ref C_InvalidEffect) (.ref C_InvalidName) = some false
  ki_InvalidEffect_InvalidNumber : PySem.W.kitOne K (.ref C_InvalidEffect) (.ref C_InvalidNumber) = some false
  ki_InvalidEffect_InvalidPlace : PySem.W.kitOne K (.ref C_InvalidEffect) (.ref C_InvalidPlace) = some false
  ki_InvalidEffect_InvalidStep : PySem.W.kitOne K (.ref C_InvalidEffect) (.ref C_InvalidStep) = some false
  ki_InvalidEffect_MixedBook : PySem.W.kitOne K (.ref C_InvalidEffect) (.ref C_MixedBook) = some false
  ki_InvalidEffect_NothingToUndo : PySem.W.kitOne K (.ref C_InvalidEffect) (.ref C_NothingToUndo) = some false
  ki_InvalidEffect_PileError : PySem.W.kitOne K (.ref C_InvalidEffect) (.ref C_PileError) = some true
  ki_InvalidEffect_TooShallow : PySem.W.kitOne K (.ref C_InvalidEffect) (.ref C_TooShallow) = some false
  ki_InvalidEffect_UnknownWord : PySem.W.kitOne K (.ref C_InvalidEffect) (.ref C_UnknownWord) = some false
  ki_InvalidEffect_Unreadable : PySem.W.kitOne K (.ref C_InvalidEffect) (.ref C_Unreadable) = some false
  ki_InvalidEffect_ValueError : PySem.W.kitOne K (.ref C_InvalidEffect) (.type "ValueError") = some true
  ki_InvalidName_DoubleName : PySem.W.kitOne K (.ref C_InvalidName) (.ref C_DoubleName) = some false
  ki_InvalidName_InvalidEffect : PySem.W.kitOne K (.ref C_InvalidName) (.ref C_InvalidEffect) = some false
  ki_InvalidName_InvalidName : PySem.W.kitOne K (.ref C_InvalidName) (.ref C_InvalidName) = some true
  ki_InvalidName_InvalidNumber : PySem.W.kitOne K (.ref C_InvalidName) (.ref C_InvalidNumber) = some false
  ki_InvalidName_InvalidPlace : PySem.W.kitOne K (.ref C_InvalidName) (.ref C_InvalidPlace) = some false
  ki_InvalidName_InvalidStep : PySem.W.kitOne K (.ref C_InvalidName) (.ref C_InvalidStep) = some false
  ki_InvalidName_MixedBook : PySem.W.kitOne K (.ref C_InvalidName) (.ref C_MixedBook) = some false
  ki_InvalidName_NothingToUndo : PySem.W.kitOne K (.ref C_InvalidName) (.ref C_NothingToUndo) = some false
  ki_InvalidName_PileError : PySem.W.kitOne K (.ref C_InvalidName) (.ref C_PileError) = some true
  ki_InvalidName_TooShallow : PySem.W.kitOne K (.ref C_InvalidName) (.ref C_TooShallow) = some false
  ki_InvalidName_UnknownWord : PySem.W.kitOne K (.ref C_InvalidName) (.ref C_UnknownWord) = some false
  ki_InvalidName_Unreadable : PySem.W.kitOne K (.ref C_InvalidName) (.ref C_Unreadable) = some false
  ki_InvalidName_ValueError : PySem.W.kitOne K (.ref C_InvalidName) (.type "ValueError") = some true
  ki_InvalidNumber_DoubleName : PySem.W.kitOne K (.ref C_InvalidNumber) (.ref C_DoubleName) = some false
  ki_InvalidNumber_InvalidEffect : PySem.W.kitOne K (.ref C_InvalidNumber) (.ref C_InvalidEffect) = some false
  ki_InvalidNumber_InvalidName : PySem.W.kitOne K (.ref C_InvalidNumber) (.ref C_InvalidName) = some false
  ki_InvalidNumber_InvalidNumber : PySem.W.kitOne K (.ref C_InvalidNumber) (.ref C_InvalidNumber) = some true
  ki_InvalidNumber_InvalidPlace : PySem.W.kitOne K (.ref C_InvalidNumber) (.ref C_InvalidPlace) = some false
  ki_InvalidNumber_InvalidStep : PySem.W.kitOne K (.ref C_InvalidNumber) (.ref C_InvalidStep) = some false
  ki_InvalidNumber_MixedBook : PySem.W.kitOne K (.ref C_InvalidNumber) (.ref C_MixedBook) = some false
  ki_InvalidNumber_NothingToUndo : PySem.W.kitOne K (.ref C_InvalidNumber) (.ref C_NothingToUndo) = some false
  ki_InvalidNumber_PileError : PySem.W.kitOne K (.ref C_InvalidNumber) (.ref C_PileError) = some true
  ki_InvalidNumber_TooShallow : PySem.W.kitOne K (.ref C_InvalidNumber) (.ref C_TooShallow) = some false
  ki_InvalidNumber_UnknownWord : PySem.W.kitOne K (.ref C_InvalidNumber) (.ref C_UnknownWord) = some false
  ki_InvalidNumber_Unreadable : PySem.W.kitOne K (.ref C_InvalidNumber) (.ref C_Unreadable) = some false
  ki_InvalidNumber_ValueError : PySem.W.kitOne K (.ref C_InvalidNumber) (.type "ValueError") = some true
  ki_InvalidPlace_DoubleName : PySem.W.kitOne K (.ref C_InvalidPlace) (.ref C_DoubleName) = some false
  ki_InvalidPlace_InvalidEffect : PySem.W.kitOne K (.ref C_InvalidPlace) (.ref C_InvalidEffect) = some false
  ki_InvalidPlace_InvalidName : PySem.W.kitOne K (.ref C_InvalidPlace) (.ref C_InvalidName) = some false
  ki_InvalidPlace_InvalidNumber : PySem.W.kitOne K (.ref C_InvalidPlace) (.ref C_InvalidNumber) = some false
  ki_InvalidPlace_InvalidPlace : PySem.W.kitOne K (.ref C_InvalidPlace) (.ref C_InvalidPlace) = some true
  ki_InvalidPlace_InvalidStep : PySem.W.kitOne K (.ref C_InvalidPlace) (.ref C_InvalidStep) = some false
  ki_InvalidPlace_MixedBook : PySem.W.kitOne K (.ref C_InvalidPlace) (.ref C_MixedBook) = some false
  ki_InvalidPlace_NothingToUndo : PySem.W.kitOne K (.ref C_InvalidPlace) (.ref C_NothingToUndo) = some false
  ki_InvalidPlace_PileError : PySem.W.kitOne K (.ref C_InvalidPlace) (.ref C_PileError) = some true
  ki_InvalidPlace_TooShallow : PySem.W.kitOne K (.ref C_InvalidPlace) (.ref C_TooShallow) = some false
  ki_InvalidPlace_UnknownWord : PySem.W.kitOne K (.ref C_InvalidPlace) (.ref C_UnknownWord) = some false
  ki_InvalidPlace_Unreadable : PySem.W.kitOne K (.ref C_InvalidPlace) (.ref C_Unreadable) = some false
  ki_InvalidPlace_ValueError : PySem.W.kitOne K (.ref C_InvalidPlace) (.type "ValueError") = some true
  ki_InvalidStep_DoubleName : PySem.W.kitOne K (.ref C_InvalidStep) (.ref C_DoubleName) = some false
  ki_InvalidStep_InvalidEffect : PySem.W.kitOne K (.ref C_InvalidStep) (.ref C_InvalidEffect) = some false
  ki_InvalidStep_InvalidName : PySem.W.kitOne K (.ref C_InvalidStep) (.ref C_InvalidName) = some false
  ki_InvalidStep_InvalidNumber : PySem.W.kitOne K (.ref C_InvalidStep) (.ref C_InvalidNumber) = some false
  ki_InvalidStep_InvalidPlace : PySem.W.kitOne K (.ref C_InvalidStep) (.ref C_InvalidPlace) = some false
  ki_InvalidStep_InvalidStep : PySem.W.kitOne K (.ref C_InvalidStep) (.ref C_InvalidStep) = some true
  ki_InvalidStep_MixedBook : PySem.W.kitOne K (.ref C_InvalidStep) (.ref C_MixedBook) = some false
  ki_InvalidStep_NothingToUndo : PySem.W.kitOne K (.ref C_InvalidStep) (.ref C_NothingToUndo) = some false
  ki_InvalidStep_PileError : PySem.W.kitOne K (.ref C_InvalidStep) (.ref C_PileError) = some true
  ki_InvalidStep_TooShallow : PySem.W.kitOne K (.ref C_InvalidStep) (.ref C_TooShallow) = some false
  ki_InvalidStep_UnknownWord : PySem.W.kitOne K (.ref C_InvalidStep) (.ref C_UnknownWord) = some false
  ki_InvalidStep_Unreadable : PySem.W.kitOne K (.ref C_InvalidStep) (.ref C_Unreadable) = some false
  ki_InvalidStep_ValueError : PySem.W.kitOne K (.ref C_InvalidStep) (.type "ValueError") = some true
  ki_MixedBook_DoubleName : PySem.W.kitOne K (.ref C_MixedBook) (.ref C_DoubleName) = some false
  ki_MixedBook_InvalidEffect : PySem.W.kitOne K (.ref C_MixedBook) (.ref C_InvalidEffect) = some false
  ki_MixedBook_InvalidName : PySem.W.kitOne K (.ref C_MixedBook) (.ref C_InvalidName) = some false
  ki_MixedBook_InvalidNumber : PySem.W.kitOne K (.ref C_MixedBook) (.ref C_InvalidNumber) = some false
  ki_MixedBook_InvalidPlace : PySem.W.kitOne K (.ref C_MixedBook) (.ref C_InvalidPlace) = some false
  ki_MixedBook_InvalidStep : PySem.W.kitOne K (.ref C_MixedBook) (.ref C_InvalidStep) = some false
  ki_MixedBook_MixedBook : PySem.W.kitOne K (.ref C_MixedBook) (.ref C_MixedBook) = some true
  ki_MixedBook_NothingToUndo : PySem.W.kitOne K (.ref C_MixedBook) (.ref C_NothingToUndo) = some false
  ki_MixedBook_PileError : PySem.W.kitOne K (.ref C_MixedBook) (.ref C_PileError) = some true
  ki_MixedBook_TooShallow : PySem.W.kitOne K (.ref C_MixedBook) (.ref C_TooShallow) = some false
  ki_MixedBook_UnknownWord : PySem.W.kitOne K (.ref C_MixedBook) (.ref C_UnknownWord) = some false
  ki_MixedBook_Unreadable : PySem.W.kitOne K (.ref C_MixedBook) (.ref C_Unreadable) = some false
  ki_MixedBook_ValueError : PySem.W.kitOne K (.ref C_MixedBook) (.type "ValueError") = some true
  ki_NothingToUndo_DoubleName : PySem.W.kitOne K (.ref C_NothingToUndo) (.ref C_DoubleName) = some false
  ki_NothingToUndo_InvalidEffect : PySem.W.kitOne K (.ref C_NothingToUndo) (.ref C_InvalidEffect) = some false
  ki_NothingToUndo_InvalidName : PySem.W.kitOne K (.ref C_NothingToUndo) (.ref C_InvalidName) = some false
  ki_NothingToUndo_InvalidNumber : PySem.W.kitOne K (.ref C_NothingToUndo) (.ref C_InvalidNumber) = some false
  ki_NothingToUndo_InvalidPlace : PySem.W.kitOne K (.ref C_NothingToUndo) (.ref C_InvalidPlace) = some false
  ki_NothingToUndo_InvalidStep : PySem.W.kitOne K (.ref C_NothingToUndo) (.ref C_InvalidStep) = some false
  ki_NothingToUndo_MixedBook : PySem.W.kitOne K (.ref C_NothingToUndo) (.ref C_MixedBook) = some false
  ki_NothingToUndo_NothingToUndo : PySem.W.kitOne K (.ref C_NothingToUndo) (.ref C_NothingToUndo) = some true
  ki_NothingToUndo_PileError : PySem.W.kitOne K (.ref C_NothingToUndo) (.ref C_PileError) = some true
  ki_NothingToUndo_TooShallow : PySem.W.kitOne K (.ref C_NothingToUndo) (.ref C_TooShallow) = some false
  ki_NothingToUndo_UnknownWord : PySem.W.kitOne K (.ref C_NothingToUndo) (.ref C_UnknownWord) = some false
  ki_NothingToUndo_Unreadable : PySem.W.kitOne K (.ref C_NothingToUndo) (.ref C_Unreadable) = some false
  ki_NothingToUndo_ValueError : PySem.W.kitOne K (.ref C_NothingToUndo) (.type "ValueError") = some true
  ki_PileError_DoubleName : PySem.W.kitOne K (.ref C_PileError) (.ref C_DoubleName) = some false
  ki_PileError_InvalidEffect : PySem.W.kitOne K (.ref C_PileError) (.ref C_InvalidEffect) = some false
  ki_PileError_InvalidName : PySem.W.kitOne K (.ref C_PileError) (.ref C_InvalidName) = some false
  ki_PileError_InvalidNumber : PySem.W.kitOne K (.ref C_PileError) (.ref C_InvalidNumber) = some false
  ki_PileError_InvalidPlace : PySem.W.kitOne K (.ref C_PileError) (.ref C_InvalidPlace) = some false
  ki_PileError_InvalidStep : PySem.W.kitOne K (.ref C_PileError) (.ref C_InvalidStep) = some false
  ki_PileError_MixedBook : PySem.W.kitOne K (.ref C_PileError) (.ref C_MixedBook) = some false
  ki_PileError_NothingToUndo : PySem.W.kitOne K (.ref C_PileError) (.ref C_NothingToUndo) = some false
  ki_PileError_PileError : PySem.W.kitOne K (.ref C_PileError) (.ref C_PileError) = some true
  ki_PileError_TooShallow : PySem.W.kitOne K (.ref C_PileError) (.ref C_TooShallow) = some false
  ki_PileError_UnknownWord : PySem.W.kitOne K (.ref C_PileError) (.ref C_UnknownWord) = some false
  ki_PileError_Unreadable : PySem.W.kitOne K (.ref C_PileError) (.ref C_Unreadable) = some false
  ki_PileError_ValueError : PySem.W.kitOne K (.ref C_PileError) (.type "ValueError") = some true
  ki_TooShallow_DoubleName : PySem.W.kitOne K (.ref C_TooShallow) (.ref C_DoubleName) = some false
  ki_TooShallow_InvalidEffect : PySem.W.kitOne K (.ref C_TooShallow) (.ref C_InvalidEffect) = some false
  ki_TooShallow_InvalidName : PySem.W.kitOne K (.ref C_TooShallow) (.ref C_InvalidName) = some false
  ki_TooShallow_InvalidNumber : PySem.W.kitOne K (.ref C_TooShallow) (.ref C_InvalidNumber) = some false
  ki_TooShallow_InvalidPlace : PySem.W.kitOne K (.ref C_TooShallow) (.ref C_InvalidPlace) = some false
  ki_TooShallow_InvalidStep : PySem.W.kitOne K (.ref C_TooShallow) (.ref C_InvalidStep) = some false
  ki_TooShallow_MixedBook : PySem.W.kitOne K (.ref C_TooShallow) (.ref C_MixedBook) = some false
  ki_TooShallow_NothingToUndo : PySem.W.kitOne K (.ref C_TooShallow) (.ref C_NothingToUndo) = some false
  ki_TooShallow_PileError : PySem.W.kitOne K (.ref C_TooShallow) (.ref C_PileError) = some true
  ki_TooShallow_TooShallow : PySem.W.kitOne K (.ref C_TooShallow) (.ref C_TooShallow) = some true
  ki_TooShallow_UnknownWord : PySem.W.kitOne K (.ref C_TooShallow) (.ref C_UnknownWord) = some false
  ki_TooShallow_Unreadable : PySem.W.kitOne K (.ref C_TooShallow) (.ref C_Unreadable) = some false
  ki_TooShallow_ValueError : PySem.W.kitOne K (.ref C_TooShallow) (.type "ValueError") = some true
  ki_UnknownWord_DoubleName : PySem.W.kitOne K (.ref C_UnknownWord) (.ref C_DoubleName) = some false
  ki_UnknownWord_InvalidEffect : PySem.W.kitOne K (.ref C_UnknownWord) (.ref C_InvalidEffect) = some false
  ki_UnknownWord_InvalidName : PySem.W.kitOne K (.ref C_UnknownWord) (.ref C_InvalidName) = some false
  ki_UnknownWord_InvalidNumber : PySem.W.kitOne K (.ref C_UnknownWord) (.ref C_InvalidNumber) = some false
  ki_UnknownWord_InvalidPlace : PySem.W.kitOne K (.ref C_UnknownWord) (.ref C_InvalidPlace) = some false
  ki_UnknownWord_InvalidStep : PySem.W.kitOne K (.ref C_UnknownWord) (.ref C_InvalidStep) = some false
  ki_UnknownWord_MixedBook : PySem.W.kitOne K (.ref C_UnknownWord) (.ref C_MixedBook) = some false
  ki_UnknownWord_NothingToUndo : PySem.W.kitOne K (.ref C_UnknownWord) (.ref C_NothingToUndo) = some false
  ki_UnknownWord_PileError : PySem.W.kitOne K (.ref C_UnknownWord) (.ref C_PileError) = some true
  ki_UnknownWord_TooShallow : PySem.W.kitOne K (.ref C_UnknownWord) (.ref C_TooShallow) = some false
  ki_UnknownWord_UnknownWord : PySem.W.kitOne K (.ref C_UnknownWord) (.ref C_UnknownWord) = some true
  ki_UnknownWord_Unreadable : PySem.W.kitOne K (.ref C_UnknownWord) (.ref C_Unreadable) = some false
  ki_UnknownWord_ValueError : PySem.W.kitOne K (.ref C_UnknownWord) (.type "ValueError") = some true
  ki_Unreadable_DoubleName : PySem.W.kitOne K (.ref C_Unreadable) (.ref C_DoubleName) = some false
  ki_Unreadable_InvalidEffect : PySem.W.kitOne K (.ref C_Unreadable) (.ref C_InvalidEffect) = some false
  ki_Unreadable_InvalidName : PySem.W.kitOne K (.ref C_Unreadable) (.ref C_InvalidName) = some false
  ki_Unreadable_InvalidNumber : PySem.W.kitOne K (.ref C_Unreadable) (.ref C_InvalidNumber) = some false
  ki_Unreadable_InvalidPlace : PySem.W.kitOne K (.ref C_Unreadable) (.ref C_InvalidPlace) = some false
  ki_Unreadable_InvalidStep : PySem.W.kitOne K (.ref C_Unreadable) (.ref C_InvalidStep) = some false
  ki_Unreadable_MixedBook : PySem.W.kitOne K (.ref C_Unreadable) (.ref C_MixedBook) = some false
  ki_Unreadable_NothingToUndo : PySem.W.kitOne K (.ref C_Unreadable) (.ref C_NothingToUndo) = some false
  ki_Unreadable_PileError : PySem.W.kitOne K (.ref C_Unreadable) (.ref C_PileError) = some true
  ki_Unreadable_TooShallow : PySem.W.kitOne K (.ref C_Unreadable) (.ref C_TooShallow) = some false
  ki_Unreadable_UnknownWord : PySem.W.kitOne K (.ref C_Unreadable) (.ref C_UnknownWord) = some false
  ki_Unreadable_Unreadable : PySem.W.kitOne K (.ref C_Unreadable) (.ref C_Unreadable) = some true
  ki_Unreadable_ValueError : PySem.W.kitOne K (.ref C_Unreadable) (.type "ValueError") = some true
section
variable {P : Program} {w : World} {K : PySem.W.Frag} {mg : Str → Option Value} {base : Heap}
/-- any number below the bound -/
def w__law_coin : Tw := fun ds Q => ∃ m : Int, ds = [.int m] ∧ 0 < m ∧ m < 2 ^ 200 ∧ ∀ r : Int, 0 ≤ r → r < m → Q (.int r)
theorem ok__law_coin (p : Prog K mg) : FnG P w K mg base CX0 1 p.f__law_coin p.fd__law_coin ["_law_purse", "_law_many"] (spP 1 w__law_coin) := by
  refine okG p.d__law_coin.F sc__law_coin (fun vs H Q E h => ?_) (fun cdv A outer s H vs Q E hg hr h => ?_)
  · obtain ⟨p, b, vs', S, ds, G, rfl, _, _, r, _, ⟨m, rfl, _⟩, _⟩ := h
    exact congrArg Nat.succ r.length
  · obtain ⟨u, b, vs', S, ds, G, rfl, hp, hb, r, np, ⟨m, rfl, m0, m1, q⟩, k⟩ := h
    obtain ⟨x, y, z, e, y0, y1, z0, z1⟩ := hp
    cases r with
    | cons r r' =>
      cases r'
      cases r
      have hu : SqL K H u [.int x, .int y, .int z] := SqL.of e
      have ml : m.natAbs.log2 < 9000 := (wide_div (i := 0) (b := 200) m0 (by omega) (by decide) (by decide)).2
      have zb : z.natAbs < 2 ^ 100 := by omega
      refine ⟨_, (pss_cons (ps_if (pt_cmpR op_gt (pe_ix ix_list (pv 0) pe_int (fun _ _ => rfl)) pe_int (nomark _))
      (pss_cons (ps_set (i := 2) sc__law_coin.nd rfl (Or.inl rfl) (pe_op op_mod (pe_callTy call_int1 (by rfl) p.blt.int (by decide +kernel) (pa_cons (pe_ix ix_list (pv 0) pe_int (fun _ _ => rfl)) pa_nil)) (pv 1)))
      (pss_cons (ps_asg (pe_op op_fdivW (pe_ix ix_list (pv 0) pe_int (fun _ _ => rfl)) (pv 1)) (pg_sub (pv 0) pe_int set_list))
      (pss_one (ps_ret (pv 2))))) pss_nil)
      (pss_cons (ps_asg (pe_op op_add (pe_ix ix_list (pv 0) pe_int (fun _ _ => rfl)) pe_int) (pg_sub (pv 0) pe_int set_list))
      (pss_cons (ps_set (i := 3) sc__law_coin.nd rfl (Or.inl rfl) (pe_op op_mod (pe_op op_powW (pe_callTy call_int1 (by rfl) p.blt.int (by decide +kernel) (pa_cons (pe_op op_add (pe_ix ix_list (pv 0) pe_int (fun _ _ => rfl)) (pe_op op_mulB pe_int (pe_ix ix_list (pv 0) pe_int (fun _ _ => rfl)))) pa_nil)) pe_int) (pe_op op_add (pe_op op_powW pe_int pe_int) pe_int)))
      (pss_cons (ps_set (i := 3) sc__law_coin.nd rfl (Or.inl rfl) (pe_op op_mod (pe_op op_powW (pe_callTy call_int1 (by rfl) p.blt.int (by decide +kernel) (pa_cons (pe_op op_add (pv 3) (pe_op op_mulB pe_int (pe_ix ix_list (pv 0) pe_int (fun _ _ => rfl)))) pa_nil)) pe_int) (pe_op op_add (pe_op op_powW pe_int pe_int) pe_int)))
      (pss_one (ps_ret (pe_op op_mod (pe_callTy call_int1 (by rfl) p.blt.int (by decide +kernel) (pa_cons (pe_op op_fdivW (pv 3) pe_int) pa_nil)) (pv 1)))))))), ?_⟩
      -- if purse[0] > 0
      refine ⟨_, rfl, _, _, _, _, rfl, rfl, hu, atI_nat (j := 0) rfl, _, _, rfl, rfl, _, rfl, ?_⟩
      refine iteB (fun _ => ?_) (fun _ => ?_)
      · refine ⟨_, rfl, _, _, _, _, rfl, rfl, hu, atI_nat (j := 0) rfl, .inl ⟨_, rfl, _, rfl, _, _, rfl, rfl, m0, ?_⟩⟩
        refine ⟨_, rfl, _, _, _, _, rfl, rfl, hu, atI_nat (j := 0) rfl, _, rfl, _, _, rfl, rfl, ⟨m0, ml⟩, _, rfl, _, _, _, 0, rfl, rfl, e, rfl, _, rfl, ?_⟩
        refine k _ _ _ (q (x % m) (Int.emod_nonneg _ (by omega)) (Int.emod_lt_of_pos _ m0)) (fun a o eo na => ?_) ⟨x / m, y, z, upd_same, y0, y1, z0, by omega⟩ ⟨[], .int _, by simp, by simp⟩
        rw [upd_ne na]
        exact eo
      · -- purse[2] = purse[2] + 1
        refine ⟨_, rfl, _, _, _, _, rfl, rfl, hu, atI_nat (j := 2) rfl, _, _, rfl, rfl, _, rfl, _, _, _, 2, rfl, rfl, e, rfl, ?_⟩
        have hu2 : SqL K (upd H u (.lst [.int x, .int y, .int (z + 1)])) u [.int x, .int y, .int (z + 1)] := SqL.of upd_same
        have c1 : CMulB 2038074743 (z + 1) := by
          have h1 := bits_of (i := 2038074743) (n := 40) (by decide) (by decide)
          have h2 := bits_of (i := z + 1) (n := 200) (by decide) (by omega)
          show _ < _
          omega
        have c2 : CPowW (y + 2038074743 * (z + 1)) 3 := by
          have h2 := bits_of (i := y + 2038074743 * (z + 1)) (n := 200) (by decide) (by omega)
          refine ⟨by decide, ?_⟩
          omega
        have c3 : CMulB 982451653 (z + 1) := by
          have h1 := bits_of (i := 982451653) (n := 40) (by decide) (by decide)
          have h2 := bits_of (i := z + 1) (n := 200) (by decide) (by omega)
          show _ < _
          omega
        have M1 : (0 : Int) < 10 ^ (25 : Int).toNat + 13 := by decide
        have M2 : (0 : Int) < 10 ^ (24 : Int).toNat + 7 := by decide
        have c4 : ∀ t : Int, CPowW (t % (10 ^ (25 : Int).toNat + 13) + 982451653 * (z + 1)) 2 := fun t => by
          have l1 := Int.emod_nonneg t (show (10 : Int) ^ (25 : Int).toNat + 13 ≠ 0 by decide)
          have l2 := Int.emod_lt_of_pos t M1
          have l3 : (10 : Int) ^ (25 : Int).toNat + 13 < 2 ^ 100 := by decide
          have h2 := bits_of (i := t % (10 ^ (25 : Int).toNat + 13) + 982451653 * (z + 1)) (n := 200) (by decide) (by omega)
          refine ⟨by decide, ?_⟩
          omega
        refine ⟨_, rfl, _, _, _, _, rfl, rfl, hu2, atI_nat (j := 1) rfl, _, rfl, _, _, _, _, rfl, rfl, hu2, atI_nat (j := 2) rfl, _, _, rfl, rfl, c1, _, _, rfl, rfl, .inl ⟨_, rfl, _, _, rfl, rfl, c2, _, _, rfl, rfl, ⟨by decide, by decide⟩, _, _, rfl, rfl, _, _, rfl, rfl, M1, ?_⟩⟩
        refine ⟨_, rfl, _, rfl, _, _, _, _, rfl, rfl, hu2, atI_nat (j := 2) rfl, _, _, rfl, rfl, c3, _, _, rfl, rfl, .inl ⟨_, rfl, _, _, rfl, rfl, c4 _, _, _, rfl, rfl, ⟨by decide, by decide⟩, _, _, rfl, rfl, _, _, rfl, rfl, M2, ?_⟩⟩
        refine ⟨_, rfl, _, _, rfl, rfl, ⟨by decide, by decide +kernel⟩, .inl ⟨_, rfl, _, rfl, _, _, rfl, rfl, m0, ?_⟩⟩
        refine k _ _ _ (q _ (Int.emod_nonneg _ (by omega)) (Int.emod_lt_of_pos _ m0)) (fun a o eo na => ?_) ⟨x, y, z + 1, upd_same, y0, y1, by omega, by omega⟩ ⟨[], .int _, by simp, by simp⟩
        rw [upd_ne na]
        exact eo
/-- a purse, out of a cell of the script -/
def spSack (K : PySem.W.Frag) : Sp := fun vs H Q _ => ∃ (a : Addr) (ns : List Int) (i : Int), vs = [.ref a, .int i] ∧ SqL K H a (ns.map V.int) ∧ ns.length ≤ 63 ∧ (∀ z ∈ ns, Builtin.Int.intBits z ≤ 1048576) ∧ 0 ≤ i ∧ i ≤ 1000 ∧ ∀ H' q, Same H H' → H q = none → PuAt H' q 0 → Q (.ref q) H'
theorem ok__law_ps_sack (p : Prog K mg) : FnG P w K mg base CX0 1 p.f__law_ps_sack p.fd__law_ps_sack ["_law_script", "_law_rank"] (spSack K) := by
  refine okG p.d__law_ps_sack.F sc__law_ps_sack (fun vs H Q E h => ?_) (fun cdv A outer s H vs Q E hg hr h => ?_)
  · obtain ⟨a, ns, i, rfl, _⟩ := h
    rfl
  · obtain ⟨a, ns, i, rfl, hs, hl, hb, i0, i1, k⟩ := h
    refine ⟨_, (pss_cons (ps_set (i := 2) sc__law_ps_sack.nd rfl (Or.inl rfl) (pe_ifExp (pt_cmpR op_lt (pv 1) (pe_callB call_len_seq (by rfl) p.blt.len PySem.boot_len (pa_cons (pv 0) pa_nil)) (nomark _)) (pe_ix ix_list (pv 0) (pv 1) (fun _ _ => rfl)) pe_int))
      (pss_one (ps_ret (pe_lst (pa_cons (pe_callB (call_max2 rfl) (by rfl) p.blt.max (by decide +kernel) (pa_cons pe_int (pa_cons (pe_op op_sub (pe_callB call_abs (by rfl) p.blt.abs (by decide +kernel) (pa_cons (pv 2) pa_nil)) (pe_op op_powW pe_int pe_int)) pa_nil))) (pa_cons (pe_op op_mod (pe_callTy call_int1 (by rfl) p.blt.int (by decide +kernel) (pa_cons (pe_op op_add (pe_op op_add (pe_op op_mulB (pv 2) pe_int) (pe_op op_mulB (pv 1) pe_int)) pe_int) pa_nil)) (pe_op op_add (pe_op op_powW pe_int pe_int) pe_int)) (pa_cons pe_int pa_nil))))))), ?_⟩
    -- the rest, for any cell of so many bits
    have rest : ∀ c : Int, Builtin.Int.intBits c ≤ 1048576 → ∀ y : List (Option V), y = [some (.ref a), some (.int i), some (.int c)] → tRet (tLst (tCons (tCB (fun xs H Q => ∃ i j, xs = [.int i, .int j] ∧ Q (.int (if j > i then j else i)) H) (tCons (tC (.int 0)) (tCons (tOp (rI0 fun i j => .int (i - j)) (tCB (fun xs H Q => ∃ i, xs = [.int i] ∧ Q (.int (if i < 0 then -i else i)) H) (tCons (tVar 2) tNil)) (tOp (rI CPowW fun i j => .int (i ^ j.toNat)) (tC (.int 10)) (tC (.int 18)))) tNil)))
        (tCons (tOp (rI (fun _ j => 0 < j) fun i j => .int (i % j)) (tCB (fun xs H Q => (∃ i, xs = [.int i] ∧ Q (.int i) H) ∨ ∃ k, xs = [.bl k] ∧ Q (.int (if k then 1 else 0)) H) (tCons (tOp (rI0 fun i j => .int (i + j)) (tOp (rI0 fun i j => .int (i + j)) (tOp (rI CMulB fun i j => .int (i * j)) (tVar 2) (tC (.int 40503))) (tOp (rI CMulB fun i j => .int (i * j)) (tVar 1) (tC (.int 9176741)))) (tC (.int 65537))) tNil)) (tOp (rI0 fun i j => .int (i + j)) (tOp (rI CPowW fun i j => .int (i ^ j.toNat)) (tC (.int 10)) (tC (.int 24))) (tC (.int 7))))
        (tCons (tC (.int 0)) tNil)))) ⟨fun _ H' => Q .non H', Q, fun _ _ => False, fun _ _ => False⟩ y H := fun c hc y ey => by
      subst ey
      have b1 := bits_of (i := 40503) (n := 40) (by decide) (by decide)
      have b2 := bits_of (i := 9176741) (n := 40) (by decide) (by decide)
      have b3 := bits_of (i := i) (n := 100) (by decide) (by omega)
      have M2 : (0 : Int) < 10 ^ (24 : Int).toNat + 7 := by decide
      refine ⟨_, rfl, _, rfl, _, _, rfl, rfl, ⟨by decide, by decide⟩, _, _, rfl, rfl, _, _, rfl, ?_⟩
      refine ⟨_, rfl, _, _, rfl, rfl, (show _ < _ by omega), _, rfl, _, _, rfl, rfl, (show _ < _ by omega), _, _, rfl, rfl, _, _, rfl, rfl, .inl ⟨_, rfl, _, _, rfl, rfl, ⟨by decide, by decide⟩, _, _, rfl, rfl, _, _, rfl, rfl, M2, szle (by simp), fun q hq => ?_⟩⟩
      refine k _ q (same_upd hq) hq ⟨_, _, _, upd_same, Int.emod_nonneg _ (by omega), ?_, by omega, by omega⟩
      exact Int.lt_trans (Int.emod_lt_of_pos _ M2) (by decide)
    refine ⟨_, rfl, _, rfl, a, _, rfl, .inl hs, _, _, rfl, rfl, _, rfl, ?_⟩
    rw [ints_len]
    refine iteB (fun c => ?_) (fun c => ?_)
    · have hi : i < (ns.length : Int) := of_decide_eq_true c
      obtain ⟨z, hz⟩ : ∃ z, ns[i.toNat]? = some z := ⟨_, List.getElem?_eq_getElem (show i.toNat < ns.length by omega)⟩
      exact ⟨_, rfl, _, rfl, a, _, i, _, rfl, rfl, hs, at_nat (k := i.toNat) (by omega) (ints_at hz), rest z (hb z (List.mem_of_getElem? hz)) _ rfl⟩
    · exact rest 0 (by decide) _ rfl
def w__law_ps_same : Tw := fun ds Q => ∃ d e : D, ds = [d, e] ∧ d = e ∧ Sh 60 10000000 d ∧ Q (.bool true)
theorem ok__law_ps_same (p : Prog K mg) : FnG P w K mg base CX0 1 p.f__law_ps_same p.fd__law_ps_same ["_law_told", "_law_due"] (spT w__law_ps_same) := by
  refine okG p.d__law_ps_same.F sc__law_ps_same (fun vs H Q E h => ?_) (fun cdv A outer s H vs Q E hg hr h => ?_)
  · obtain ⟨S, ds, G, r, ⟨d, e, rfl, _⟩, _⟩ := h
    exact r.length
  · obtain ⟨S, ds, G, r, ⟨d, e, rfl, rfl, sh, q⟩, k⟩ := h
    cases r with
    | cons r1 r =>
      cases r with
      | cons r2 r =>
        cases r
        refine ⟨_, (pss_one (ps_ret (pe_cmpR op_eq (pe_callB (cr_repr hg hr.units) (by rfl) p.blt.repr (by decide +kernel) (pa_cons (pv 0) pa_nil)) (pe_callB (cr_repr hg hr.units) (by rfl) p.blt.repr (by decide +kernel) (pa_cons (pv 1) pa_nil)) (nomark _)))), ?_⟩
        have nd : d.hasDict = false := nd_wd d (by have := sh.wd; omega)
        have D1 := Rep.dp K _ _ _ r1 nd
        have D2 := Rep.dp K _ _ _ r2 nd
        have sz : d.shown.length ≤ sizeLine := Nat.le_trans (shown_wd d nd) (szle sh.wd)
        refine ⟨_, rfl, _, d, rfl, D1, sh.sh, sh.dp, sz, _, rfl, _, d, rfl, D2, sh.sh, sh.dp, sz, rfl, ?_⟩
        rw [decide_eq_true rfl]
        exact k _ _ _ q (Same.refl _) ⟨[], .bl true, by simp, by simp⟩
theorem ok__law_ps_spoil (p : Prog K mg) : ∀ n : Nat, FnG P w K mg base CX0 n p.f__law_ps_spoil p.fd__law_ps_spoil ["_law_thing", "_law_tally"] (spSpoil n) := by
  intro n
  induction n with
  | zero =>
    refine ⟨fun vs H Q E h => ?_, fun A outer s H args us vs Q E hg hr e0 bt r h => ?_⟩
    · obtain ⟨v, l, d, k, S, _, _, _, _, _, h, _⟩ := h
      exact absurd h (Nat.not_lt_zero _)
    · obtain ⟨v, l, d, k, S, _, _, _, _, _, h, _⟩ := h
      exact absurd h (Nat.not_lt_zero _)
  | succ n ih =>
    refine okG p.d__law_ps_spoil.F sc__law_ps_spoil (fun vs H Q E h => ?_) (fun cdv A outer s H vs Q E hg hr h => ?_)
    · obtain ⟨v, l, d, k, S, rfl, _⟩ := h
      rfl
    · obtain ⟨v, l, d, k, S, rfl, rep, nd, nl, hl, dp, sz, q⟩ := h
      refine ⟨_, (C8.pss_cut (ps_if (pt_val (pe_callB call_isiT (by rfl) p.blt.isinstance (by decide +kernel) (pa_cons (pv 0) (pa_cons (pe_tup (pa_cons (pe_bltn (v := .ty "list") (by rfl) p.blt.list (by decide +kernel) rfl) (pa_cons (pe_bltn (v := .ty "tuple") (by rfl) p.blt.tuple (by decide +kernel) rfl) pa_nil))) pa_nil))))
      (pss_one (ps_for PassesOwn.never rfl (pi_or (pi_list (pv 0)) (pi_tup (pv 0))) (pg_name (i := 2) sc__law_ps_spoil.nd rfl (Or.inl rfl))
      (pss_one (ps_expr (pe_callG ih hg hr (by rfl) p.d__law_ps_spoil.gl p.d__law_ps_spoil.kp p.d__law_ps_spoil.bd pass0 (pa_cons (pv 2) (pa_cons (pv 1) pa_nil))))))) pss_nil)
      (pss_one (ps_if (pt_val (pe_callB call_isi (by rfl) p.blt.isinstance (by decide +kernel) (pa_cons (pv 0) (pa_cons (pe_bltn (v := .ty "list") (by rfl) p.blt.list (by decide +kernel) rfl) pa_nil))))
      (pss_cons (ps_asg (pe_op op_add (pe_ix ix_list (pv 1) pe_int (fun _ _ => rfl)) pe_int) (pg_sub (pv 1) pe_int set_list))
      (pss_one (ps_expr (pe_bm PySem.F.plainAttrs_list PySem.F.slot_list_append PySem.F.type_list_append mt_append (pv 0) (pa_cons (pe_un un_neg (pe_ix ix_list (pv 1) pe_int (fun _ _ => rfl))) pa_nil))))) pss_nil))), ?_⟩
      cases d with
      | list ds =>
        cases rep with
        | @lst a vs S' _ ha rs =>
          have len := rs.length
          simp only [PyData.depth] at dp
          simp only [G.wd] at sz
          have ala : a ≠ l := fun z => nl (z ▸ List.mem_cons_self)
          have nds : S'.Nodup := (List.nodup_cons.mp nd).2
          have nls : l ∉ S' := fun z => nl (List.mem_cons_of_mem _ z)
          have nas : a ∉ S' := (List.nodup_cons.mp nd).1
          have rep : Rep H (a :: S') (.ref a) (.list ds) := .lst ha rs
          refine ⟨fun σ H1 => ∃ y, σ = [some (.ref a), some (.ref l), y] ∧ Reps H1 S' vs (spDs ds k).1 ∧ H1 l = some (.lst [.int (spDs ds k).2]) ∧ ∀ b o, H b = some o → b ∉ S' → b ≠ l → H1 b = some o, ?_, fun σ H1 hI => ?_⟩
          · refine ⟨_, rfl, szle (by simp), fun t ht => ⟨_, t, _, _, [.type "list", .type "tuple"], _, rfl, upd_same, .cons (.ty _) (.cons (.ty _) .nil), tyx (rep.same (same_upd ht)) rfl, kit_seq rep, ?_⟩⟩
            refine ⟨_, rfl, iteT ?_⟩
            refine .inl ⟨_, rfl, a, rfl, ⟨_, SqL.of (same_upd ht _ _ ha)⟩, ?_⟩
            refine for_list (xs := vs) (fun i σ H1 => i ≤ ds.length ∧ (∃ y, σ = [some (.ref a), some (.ref l), y]) ∧ SpI H l k S' vs ds i H1) ⟨Nat.zero_le _, ⟨_, rfl⟩, SpI.zero (Reps.mono (fun t' xs e => same_upd ht _ _ e) _ _ _ rs fun b m o e => same_upd ht _ _ e) (same_upd ht _ _ hl) fun b o e _ _ => same_upd ht _ _ e⟩ (fun i σ H1 _ hI => ?_) (fun i x σ H1 hx hI => ?_) (fun σ H1 hI => ?_)
            · obtain ⟨_, _, _, _, _, _, _, _, fr⟩ := hI
              exact SqL.of (fr _ _ ha nas ala)
            · obtain ⟨hi, ⟨y, rfl⟩, hJ⟩ := hI
              have hil : i < vs.length := (List.getElem?_eq_some_iff.mp hx).1
              obtain ⟨di, hdi⟩ : ∃ e, ds[i]? = some e := ⟨_, List.getElem?_eq_getElem (show i < ds.length by omega)⟩
              have mi := List.mem_of_getElem? hdi
              have z1 := depth_mem mi
              have z2 := wd_mem mi
              obtain ⟨Sx, rx, ndx, nlx, hlx, kx⟩ := hJ.step nds nls hx hdi
              refine ⟨_, rfl, _, rfl, x, l, di, _, Sx, rfl, rx, ndx, nlx, hlx, by omega, by omega, fun H2 fr2 r2 hl2 => ?_⟩
              exact ⟨by omega, ⟨_, rfl⟩, kx H2 fr2 r2 hl2⟩
            · obtain ⟨_, ⟨y, rfl⟩, hJ⟩ := hI
              obtain ⟨a1, a2, a3⟩ := hJ.fin len
              exact ⟨_, rfl, a1, a2, a3⟩
          · obtain ⟨y, rfl, r1, hl1, fr⟩ := hI
            have ha1 := fr _ _ ha nas ala
            have rep1 : Rep H1 (a :: S') (.ref a) (.list (spDs ds k).1) := .lst ha1 r1
            refine ⟨_, rfl, .ref a, _, _, _, _, rfl, .ty _, tyx rep1 rfl, kit_list rep1, ?_⟩
            refine ⟨_, rfl, iteT ?_⟩
            refine ⟨_, rfl, _, _, _, _, rfl, rfl, SqL.of hl1, atI_nat (j := 0) rfl, _, _, rfl, rfl, _, rfl, _, _, _, 0, rfl, rfl, hl1, rfl, ?_⟩
            have ha2 : upd H1 l (.lst [.int ((spDs ds k).2 + 1)]) a = some (.lst vs) := by rw [upd_ne ala]; exact ha1
            have lv := wds_len ds
            refine ⟨_, rfl, tyL ha2, _, rfl, _, _, _, _, rfl, rfl, SqL.of upd_same, atI_nat (j := 0) rfl, _, rfl, a, _, _, rfl, rfl, ha2, szlt (by omega), ?_⟩
            have nt : ∀ t xs, H1 t = some (.tup xs) → upd (upd H1 l (.lst [.int ((spDs ds k).2 + 1)])) a (.lst (vs ++ [.int (-((spDs ds k).2 + 1))])) t = some (.tup xs) := fun t xs e => by
              have e1 : t ≠ a := fun z => by rw [z, ha1] at e; cases e
              have e2 : t ≠ l := fun z => by rw [z, hl1] at e; cases e
              rw [upd_ne e1, upd_ne e2]
              exact e
            refine q _ (fun b o e m1 m2 => ?_) ?_ ?_
            · have e1 : b ≠ a := fun z => m1 (z ▸ List.mem_cons_self)
              rw [upd_ne e1, upd_ne m2]
              exact fr b o e (fun z => m1 (List.mem_cons_of_mem _ z)) m2
            · simp only [spD]
              refine .lst upd_same ?_
              have q := Reps.append (Reps.mono nt _ _ _ r1 fun b m o e => by
                have e1 : b ≠ a := fun z => nas (z ▸ m)
                have e2 : b ≠ l := fun z => nls (z ▸ m)
                rw [upd_ne e1, upd_ne e2]
                exact e) (Reps.cons (.int (-((spDs ds k).2 + 1))) .nil)
              rw [List.append_nil, List.append_nil] at q
              exact q
            · rw [upd_ne (Ne.symm ala)]
              exact upd_same
      | tuple ds =>
        cases rep with
        | @tup a vs S _ ha rs =>
          have len := rs.length
          simp only [PyData.depth] at dp
          simp only [G.wd] at sz
          have ala : a ≠ l := fun z => by rw [z, hl] at ha; cases ha
          have nds : S.Nodup := nd
          have nls : l ∉ S := nl
          have nas : a ∉ S := fun z => by
            obtain ⟨o, e, nt⟩ := Reps.domN _ _ _ rs a z
            rw [ha] at e
            cases e
            exact nt
          have rep : Rep H S (.ref a) (.tuple ds) := .tup ha rs
          refine ⟨fun σ H1 => ∃ y, σ = [some (.ref a), some (.ref l), y] ∧ Reps H1 S vs (spDs ds k).1 ∧ H1 l = some (.lst [.int (spDs ds k).2]) ∧ ∀ b o, H b = some o → b ∉ S → b ≠ l → H1 b = some o, ?_, fun σ H1 hI => ?_⟩
          · refine ⟨_, rfl, szle (by simp), fun t ht => ⟨_, t, _, _, [.type "list", .type "tuple"], _, rfl, upd_same, .cons (.ty _) (.cons (.ty _) .nil), tyx (rep.same (same_upd ht)) rfl, kit_seq rep, ?_⟩⟩
            refine ⟨_, rfl, iteT ?_⟩
            refine .inr ⟨_, rfl, a, rfl, ⟨_, SqT.of (same_upd ht _ _ ha)⟩, ?_⟩
            refine for_tup (xs := vs) (fun i σ H1 => i ≤ ds.length ∧ (∃ y, σ = [some (.ref a), some (.ref l), y]) ∧ SpI H l k S vs ds i H1) ⟨Nat.zero_le _, ⟨_, rfl⟩, SpI.zero (Reps.mono (fun t' xs e => same_upd ht _ _ e) _ _ _ rs fun b m o e => same_upd ht _ _ e) (same_upd ht _ _ hl) fun b o e _ _ => same_upd ht _ _ e⟩ (fun i σ H1 _ hI => ?_) (fun i x σ H1 hx hI => ?_) (fun σ H1 hI => ?_)
            · obtain ⟨_, _, _, _, _, _, _, _, fr⟩ := hI
              exact SqT.of (fr _ _ ha nas ala)
            · obtain ⟨hi, ⟨y, rfl⟩, hJ⟩ := hI
              have hil : i < vs.length := (List.getElem?_eq_some_iff.mp hx).1
              obtain ⟨di, hdi⟩ : ∃ e, ds[i]? = some e := ⟨_, List.getElem?_eq_getElem (show i < ds.length by omega)⟩
              have mi := List.mem_of_getElem? hdi
              have z1 := depth_mem mi
              have z2 := wd_mem mi
              obtain ⟨Sx, rx, ndx, nlx, hlx, kx⟩ := hJ.step nds nls hx hdi
              refine ⟨_, rfl, _, rfl, x, l, di, _, Sx, rfl, rx, ndx, nlx, hlx, by omega, by omega, fun H2 fr2 r2 hl2 => ?_⟩
              exact ⟨by omega, ⟨_, rfl⟩, kx H2 fr2 r2 hl2⟩
            · obtain ⟨_, ⟨y, rfl⟩, hJ⟩ := hI
              obtain ⟨a1, a2, a3⟩ := hJ.fin len
              exact ⟨_, rfl, a1, a2, a3⟩
          · obtain ⟨y, rfl, r1, hl1, fr⟩ := hI
            have ha1 := fr _ _ ha nas ala
            have rep1 : Rep H1 S (.ref a) (.tuple (spDs ds k).1) := .tup ha1 r1
            refine ⟨_, rfl, .ref a, _, _, _, _, rfl, .ty _, tyx rep1 rfl, kit_list rep1, ?_⟩
            refine ⟨_, rfl, iteF ?_⟩
            refine q _ fr ?_ ?_
            · simp only [spD]
              exact .tup ha1 r1
            · simp only [spD]
              exact hl1
      | none =>
        refine ⟨fun σ H1 => ∃ y, σ = [some v, some (.ref l), y] ∧ Same H H1, ?_, fun σ H1 hI => ?_⟩
        · refine ⟨_, rfl, szle (by simp), fun t ht => ⟨_, t, _, _, [.type "list", .type "tuple"], _, rfl, upd_same, .cons (.ty _) (.cons (.ty _) .nil), tyx (rep.same (same_upd ht)) rfl, kit_seq rep, ?_⟩⟩
          exact ⟨_, rfl, iteF ⟨_, rfl, same_upd ht⟩⟩
        · obtain ⟨y, rfl, sm⟩ := hI
          refine ⟨_, rfl, v, _, _, _, _, rfl, .ty _, tyx (rep.same sm) rfl, kit_list rep, ?_⟩
          refine ⟨_, rfl, iteF ?_⟩
          exact q _ (fun a o e _ _ => sm a o e) (Rep.mono (fun t vs e => sm _ _ e) _ _ _ rep fun a m o e => sm a o e) (sm _ _ hl)
      | bool b =>
        refine ⟨fun σ H1 => ∃ y, σ = [some v, some (.ref l), y] ∧ Same H H1, ?_, fun σ H1 hI => ?_⟩
        · refine ⟨_, rfl, szle (by simp), fun t ht => ⟨_, t, _, _, [.type "list", .type "tuple"], _, rfl, upd_same, .cons (.ty _) (.cons (.ty _) .nil), tyx (rep.same (same_upd ht)) rfl, kit_seq rep, ?_⟩⟩
          exact ⟨_, rfl, iteF ⟨_, rfl, same_upd ht⟩⟩
        · obtain ⟨y, rfl, sm⟩ := hI
          refine ⟨_, rfl, v, _, _, _, _, rfl, .ty _, tyx (rep.same sm) rfl, kit_list rep, ?_⟩
          refine ⟨_, rfl, iteF ?_⟩
          exact q _ (fun a o e _ _ => sm a o e) (Rep.mono (fun t vs e => sm _ _ e) _ _ _ rep fun a m o e => sm a o e) (sm _ _ hl)
      | int i =>
        refine ⟨fun σ H1 => ∃ y, σ = [some v, some (.ref l), y] ∧ Same H H1, ?_, fun σ H1 hI => ?_⟩
        · refine ⟨_, rfl, szle (by simp), fun t ht => ⟨_, t, _, _, [.type "list", .type "tuple"], _, rfl, upd_same, .cons (.ty _) (.cons (.ty _) .nil), tyx (rep.same (same_upd ht)) rfl, kit_seq rep, ?_⟩⟩
          exact ⟨_, rfl, iteF ⟨_, rfl, same_upd ht⟩⟩
        · obtain ⟨y, rfl, sm⟩ := hI
          refine ⟨_, rfl, v, _, _, _, _, rfl, .ty _, tyx (rep.same sm) rfl, kit_list rep, ?_⟩
          refine ⟨_, rfl, iteF ?_⟩
          exact q _ (fun a o e _ _ => sm a o e) (Rep.mono (fun t vs e => sm _ _ e) _ _ _ rep fun a m o e => sm a o e) (sm _ _ hl)
      | str x =>
        refine ⟨fun σ H1 => ∃ y, σ = [some v, some (.ref l), y] ∧ Same H H1, ?_, fun σ H1 hI => ?_⟩
        · refine ⟨_, rfl, szle (by simp), fun t ht => ⟨_, t, _, _, [.type "list", .type "tuple"], _, rfl, upd_same, .cons (.ty _) (.cons (.ty _) .nil), tyx (rep.same (same_upd ht)) rfl, kit_seq rep, ?_⟩⟩
          exact ⟨_, rfl, iteF ⟨_, rfl, same_upd ht⟩⟩
        · obtain ⟨y, rfl, sm⟩ := hI
          refine ⟨_, rfl, v, _, _, _, _, rfl, .ty _, tyx (rep.same sm) rfl, kit_list rep, ?_⟩
          refine ⟨_, rfl, iteF ?_⟩
          exact q _ (fun a o e _ _ => sm a o e) (Rep.mono (fun t vs e => sm _ _ e) _ _ _ rep fun a m o e => sm a o e) (sm _ _ hl)
      | dict _ =>
        simp only [G.wd] at sz
        omega
def w__law_ps_text : Tw := fun ds Q => ds = [] ∧ ∀ s : Str, TxOk s → Q (.str s)
theorem ar__law_ps_text : ∀ ds G, w__law_ps_text ds G → ds.length + 1 = 1 := by
  rintro ds G ⟨rfl, _⟩
  rfl
def kr__law_ps_text_1 : KS := (kRet (kJoin ("" : String) (kLc (kRng1 (kCallP 1 w__law_coin 1 (kCons (kVar 0) (kCons (kC (.int 4)) kNil)))) 2 kYes (kOp vIxS (kVar 1) (kCallP 1 w__law_coin 1 (kCons (kVar 0) (kCons (kF 1 vLenS (kCons (kVar 1) kNil)) kNil)))))))
def k__law_ps_text : KS := (kSeq (kAsg (kC (.str ("abcxyzABZ 0189!#&'()*+,-./:;<=>?\x40[]^_{|}~" : String))) (kgName 1))
  kr__law_ps_text_1)
local macro_rules | `(tactic| walk_at "go") => `(tactic| ((first | unfold kr__law_ps_text_1); walk_at "ev"))
theorem txt_one {c : Nat} (h : c < 0x110000) : PyData.strOk ⟨#[c]⟩ = true := by
  rw [strOk_iff]
  intro x hx
  simp at hx
  omega
theorem val__law_ps_text : ∀ ds G, w__law_ps_text ds G → k__law_ps_text ⟨.pu :: (ds.map Sl.fz ++ [.jk, .jk]), [], 4⟩ (edP G) := by
  rintro ds Gq ⟨rfl, q⟩
  unfold k__law_ps_text
  walk_at "ev"
  walk_at "go"
  refine ⟨⟨by decide, by decide⟩, 4, rfl, by decide, by decide, fun n n0 n1 => ?_⟩
  walk_at "ev"
  refine ⟨by omega, ?_⟩
  have lr := rg_length 0 n
  obtain ⟨z, hz⟩ : ∃ z : Str, (("abcxyzABZ 0189!#&'()*+,-./:;<=>?\x40[]^_{|}~" : String) : Str) = z := ⟨_, rfl⟩
  have zl : z.length = 41 := by rw [← hz]; decide +kernel
  have zc : ∀ c ∈ z.cps.toList, c < 0x110000 := strOk_iff.mp (by rw [← hz]; decide +kernel)
  rw [hz]
  refine lc_inv true (rg 0 n) PyData.int (fun pre acc m => ∃ ss : List Str, acc = ss.map PyData.str ∧ ss.length = pre.length ∧ m = 3 - pre.length ∧ pre.length ≤ n.toNat ∧ ∀ s ∈ ss, s.length = 1 ∧ PyData.strOk s = true) rfl rfl (fun pre acc m hp => ?_) (fun pre x post acc m Y X hl hp hY hX => ?_) (fun acc m hp => ?_) [] _ ⟨[], rfl, rfl, by simp, by simp, by simp⟩
  · obtain ⟨ss, rfl, h1, h2, h3, h4⟩ := hp
    rw [List.length_map]
    omega
  · obtain ⟨ss, rfl, h1, h2, h3, h4⟩ := hp
    have hlen := congrArg List.length hl
    rw [lr, List.length_append, List.length_cons] at hlen
    walk_at "ev"
    refine ⟨by rw [zl]; decide, ?_⟩
    rw [zl]
    refine ⟨⟨by decide, by omega⟩, 41, rfl, by decide, by decide, fun g g0 g1 => ?_⟩
    walk_at "ev"
    refine vIxS_any g0 (by rw [zl]; exact g1) (by rw [zl]; decide) fun c hc => ?_
    walk_at "ev"
    refine hY _ true (.str ⟨#[c]⟩) _ rfl rfl ⟨ss ++ [⟨#[c]⟩], by simp, by simp [h1], by rw [List.length_append, List.length_singleton]; omega, by rw [List.length_append, List.length_singleton]; omega, fun y hy => ?_⟩
    rcases List.mem_append.mp hy with hy | hy
    · exact h4 y hy
    · simp only [List.mem_singleton] at hy
      subst hy
      exact ⟨rfl, txt_one (zc c hc)⟩
  · obtain ⟨ss, rfl, h1, h2, h3, h4⟩ := hp
    rw [lr] at h1 h2 h3
    walk_at "ev"
    try rw [strsOf_map]
    have sm : ∀ l : List Str, (∀ s ∈ l, s.length = 1 ∧ PyData.strOk s = true) → (l.map (·.length)).sum = l.length := fun l => by
      induction l with
      | nil => intro _; rfl
      | cons s l ih =>
        intro h
        rw [List.map_cons, List.sum_cons, ih fun x hx => h x (List.mem_cons_of_mem _ hx), (h s List.mem_cons_self).1, List.length_cons]
        omega
    have q1 := sm ss h4
    obtain ⟨t1, t2⟩ := txt_join (a := ("" : String)) (by decide +kernel) (ys := ss) fun y hy => (h4 y hy).2
    have e0 : (("" : String) : Str).length = 0 := by decide +kernel
    rw [q1, e0, Nat.mul_zero] at t2
    walk_at "ev"
    exact ⟨by rw [q1, e0]; omega, by omega, q _ ⟨by omega, t1⟩⟩
theorem ok__law_ps_text (p : Prog K mg) : FnG P w K mg base CX0 2 p.f__law_ps_text p.fd__law_ps_text ["_law_sack"] (spP 4 w__law_ps_text) :=
  okP p.d__law_ps_text.F sc__law_ps_text (by decide) ar__law_ps_text (by decide) (fun cdv A outer s H E hg hr => ⟨_, (pss_cons (ps_set (i := 1) sc__law_ps_text.nd rfl (Or.inr rfl) pe_str)
      (pss_one (ps_ret (pe_join pe_str (pe_lc (own := [("_law_turn", 2)]) (g := gName 2) (tt := tYes) rfl sc__law_ps_text.nd (pi_range1 (by rfl) p.blt.range (pa_cons (pe_callG ((ok__law_coin p).mono (by decide)) hg hr (by rfl) p.d__law_coin.gl p.d__law_coin.kp p.d__law_coin.bd pass0 (pa_cons (pv 0) (pa_cons pe_int pa_nil))) pa_nil)) (blkOk_by (N := N__law_ps_text) (sc := defScope s__law_ps_text) (by decide +kernel)) (fun _ _ _ _ _ => pg_name (i := 2) sc__law_ps_text.nd rfl (Or.inl rfl)) (fun _ _ _ _ _ => pts_nil) (fun _ _ _ _ _ => (pe_ix ix_str (pv 1) (pe_callG ((ok__law_coin p).mono (by decide)) hg hr (by rfl) p.d__law_coin.gl p.d__law_coin.kp p.d__law_coin.bd pass0 (pa_cons (pv 0) (pa_cons (pe_callB call_len_str (by rfl) p.blt.len PySem.boot_len (pa_cons (pv 1) pa_nil)) pa_nil))) (fun _ _ => rfl)))))))),
    fun C xc => (so_seq (so_asg (so_c (sca_str _)) (so_gname (i := 1)))
      (so_ret (so_join (so_lc (so_rng1 (so_callP (so_cons (so_var (i := 0)) (so_cons (so_c (sca_int _)) so_nil)))) so_yes (so_op sr_ixS (so_var (i := 1)) (so_callP (so_cons (so_var (i := 0)) (so_cons (so_f sc_lenS (so_cons (so_var (i := 1)) so_nil)) so_nil))))))))⟩) val__law_ps_text
/-- the classes of the errors, as the law ranks them -/
def ErC (p : Prog K mg) : Nat → Addr
  | 0 => p.C_PileError
  | 1 => p.C_InvalidEffect
  | 2 => p.C_InvalidName
  | 3 => p.C_DoubleName
  | 4 => p.C_MixedBook
  | 5 => p.C_UnknownWord
  | 6 => p.C_InvalidStep
  | 7 => p.C_InvalidNumber
  | 8 => p.C_InvalidPlace
  | 9 => p.C_TooShallow
  | 10 => p.C_NothingToUndo
  | _ => p.C_Unreadable
def spErr (p : Prog K mg) (lo : Nat) : Sp := fun vs H Q _ => ∃ (r : Nat) (v : V) (b : Bool), vs = [.int r, v, .bl b] ∧ lo ≤ r ∧ r < 12 ∧ ∀ a H', Same H H' → H a = none → ErA H' a (ErC p r) v → Q (.ref a) H'
theorem ok__law_ps_later_error (p : Prog K mg) : FnG P w K mg base CX0 3 p.f__law_ps_later_error p.fd__law_ps_later_error ["_law_rank", "_law_thing", "_law_named"] (spErr p 5) := by
  refine okG p.d__law_ps_later_error.F sc__law_ps_later_error (fun vs H Q E h => ?_) (fun cdv A outer s H vs Q E hg hr h => ?_)
  · obtain ⟨r, v, b, rfl, _⟩ := h
    rfl
  · obtain ⟨r, v, b, rfl, r5, r12, q⟩ := h
    have mk : ∀ (a dx : Addr), H a = none → H dx = none → dx ≠ a → Q (.ref a) (upd (upd (upd H a (exo a (ErC p r) none)) dx (exd dx [("value", v)])) a (exo a (ErC p r) (some dx))) := fun a dx h1 h2 h3 => by
      refine q a _ (fun b o e => ?_) h1 ⟨dx, upd_same, by rw [upd_ne h3, upd_same]⟩
      have n1 : b ≠ a := fun z => by rw [z, h1] at e; cases e
      have n2 : b ≠ dx := fun z => by rw [z, h2] at e; cases e
      rw [upd_ne n1, upd_ne n2, upd_ne n1]
      exact e
    refine ⟨_, (pss_cons (ps_if (pt_cmpR op_eq (pv 0) pe_int (nomark _))
      (pss_one (ps_ret (pe_ifExp (pt_val (pv 2)) (pe_oexKG p.e_UnknownWord (ok_VE p.e_UnknownWord) (hr.mono (by decide)) pass0 (by rfl) (kb_VE p.e_UnknownWord) (pk_cons (pv 1) pk_nil)) (pe_oexG p.e_UnknownWord (ok_VE p.e_UnknownWord) (hr.mono (by decide)) pass0 (by rfl) (pa_cons (pv 1) pa_nil))))) pss_nil)
      (pss_cons (ps_if (pt_cmpR op_eq (pv 0) pe_int (nomark _))
      (pss_one (ps_ret (pe_ifExp (pt_val (pv 2)) (pe_oexKG p.e_InvalidStep (ok_VE p.e_InvalidStep) (hr.mono (by decide)) pass0 (by rfl) (kb_VE p.e_InvalidStep) (pk_cons (pv 1) pk_nil)) (pe_oexG p.e_InvalidStep (ok_VE p.e_InvalidStep) (hr.mono (by decide)) pass0 (by rfl) (pa_cons (pv 1) pa_nil))))) pss_nil)
      (pss_cons (ps_if (pt_cmpR op_eq (pv 0) pe_int (nomark _))
      (pss_one (ps_ret (pe_ifExp (pt_val (pv 2)) (pe_oexKG p.e_InvalidNumber (ok_VE p.e_InvalidNumber) (hr.mono (by decide)) pass0 (by rfl) (kb_VE p.e_InvalidNumber) (pk_cons (pv 1) pk_nil)) (pe_oexG p.e_InvalidNumber (ok_VE p.e_InvalidNumber) (hr.mono (by decide)) pass0 (by rfl) (pa_cons (pv 1) pa_nil))))) pss_nil)
      (pss_cons (ps_if (pt_cmpR op_eq (pv 0) pe_int (nomark _))
      (pss_one (ps_ret (pe_ifExp (pt_val (pv 2)) (pe_oexKG p.e_InvalidPlace (ok_VE p.e_InvalidPlace) (hr.mono (by decide)) pass0 (by rfl) (kb_VE p.e_InvalidPlace) (pk_cons (pv 1) pk_nil)) (pe_oexG p.e_InvalidPlace (ok_VE p.e_InvalidPlace) (hr.mono (by decide)) pass0 (by rfl) (pa_cons (pv 1) pa_nil))))) pss_nil)
      (pss_cons (ps_if (pt_cmpR op_eq (pv 0) pe_int (nomark _))
      (pss_one (ps_ret (pe_ifExp (pt_val (pv 2)) (pe_oexKG p.e_TooShallow (ok_VE p.e_TooShallow) (hr.mono (by decide)) pass0 (by rfl) (kb_VE p.e_TooShallow) (pk_cons (pv 1) pk_nil)) (pe_oexG p.e_TooShallow (ok_VE p.e_TooShallow) (hr.mono (by decide)) pass0 (by rfl) (pa_cons (pv 1) pa_nil))))) pss_nil)
      (pss_cons (ps_if (pt_cmpR op_eq (pv 0) pe_int (nomark _))
      (pss_one (ps_ret (pe_ifExp (pt_val (pv 2)) (pe_oexKG p.e_NothingToUndo (ok_VE p.e_NothingToUndo) (hr.mono (by decide)) pass0 (by rfl) (kb_VE p.e_NothingToUndo) (pk_cons (pv 1) pk_nil)) (pe_oexG p.e_NothingToUndo (ok_VE p.e_NothingToUndo) (hr.mono (by decide)) pass0 (by rfl) (pa_cons (pv 1) pa_nil))))) pss_nil)
      (pss_one (ps_ret (pe_ifExp (pt_val (pv 2)) (pe_oexKG p.e_Unreadable (ok_VE p.e_Unreadable) (hr.mono (by decide)) pass0 (by rfl) (kb_VE p.e_Unreadable) (pk_cons (pv 1) pk_nil)) (pe_oexG p.e_Unreadable (ok_VE p.e_Unreadable) (hr.mono (by decide)) pass0 (by rfl) (pa_cons (pv 1) pa_nil))))))))))), ?_⟩
    have rr : r = 5 ∨ r = 6 ∨ r = 7 ∨ r = 8 ∨ r = 9 ∨ r = 10 ∨ r = 11 := by omega
    rcases rr with rfl | rfl | rfl | rfl | rfl | rfl | rfl
    · refine ⟨_, rfl, rfl, _, rfl, ?_⟩
      rw [dec_eq_int]
      refine iteT ?_
      cases b
      all_goals
        refine ⟨_, rfl, _, rfl, ?_⟩
        first | refine iteT ?_ | refine iteF ?_
        exact ⟨_, rfl, _, rfl, fun a dx h1 h2 h3 => mk a dx h1 h2 h3⟩
    · refine ⟨_, rfl, rfl, _, rfl, ?_⟩
      rw [dec_eq_int]
      refine iteF ?_
      refine ⟨_, rfl, rfl, _, rfl, ?_⟩
      rw [dec_eq_int]
      refine iteT ?_
      cases b
      all_goals
        refine ⟨_, rfl, _, rfl, ?_⟩
        first | refine iteT ?_ | refine iteF ?_
        exact ⟨_, rfl, _, rfl, fun a dx h1 h2 h3 => mk a dx h1 h2 h3⟩
    · refine ⟨_, rfl, rfl, _, rfl, ?_⟩
      rw [dec_eq_int]
      refine iteF ?_
      refine ⟨_, rfl, rfl, _, rfl, ?_⟩
      rw [dec_eq_int]
      refine iteF ?_
      refine ⟨_, rfl, rfl, _, rfl, ?_⟩
      rw [dec_eq_int]
      refine iteT ?_
      cases b
      all_goals
        refine ⟨_, rfl, _, rfl, ?_⟩
        first | refine iteT ?_ | refine iteF ?_
        exact ⟨_, rfl, _, rfl, fun a dx h1 h2 h3 => mk a dx h1 h2 h3⟩
    · refine ⟨_, rfl, rfl, _, rfl, ?_⟩
      rw [dec_eq_int]
      refine iteF ?_
      refine ⟨_, rfl, rfl, _, rfl, ?_⟩
      rw [dec_eq_int]
      refine iteF ?_
      refine ⟨_, rfl, rfl, _, rfl, ?_⟩
      rw [dec_eq_int]
      refine iteF ?_
      refine ⟨_, rfl, rfl, _, rfl, ?_⟩
      rw [dec_eq_int]
      refine iteT ?_
      cases b
      all_goals
        refine ⟨_, rfl, _, rfl, ?_⟩
        first | refine iteT ?_ | refine iteF ?_
        exact ⟨_, rfl, _, rfl, fun a dx h1 h2 h3 => mk a dx h1 h2 h3⟩
    · refine ⟨_, rfl, rfl, _, rfl, ?_⟩
      rw [dec_eq_int]
      refine iteF ?_
      refine ⟨_, rfl, rfl, _, rfl, ?_⟩
      rw [dec_eq_int]
      refine iteF ?_
      refine ⟨_, rfl, rfl, _, rfl, ?_⟩
      rw [dec_eq_int]
      refine iteF ?_
      refine ⟨_, rfl, rfl, _, rfl, ?_⟩
      rw [dec_eq_int]
      refine iteF ?_
      refine ⟨_, rfl, rfl, _, rfl, ?_⟩
      rw [dec_eq_int]
      refine iteT ?_
      cases b
      all_goals
        refine ⟨_, rfl, _, rfl, ?_⟩
        first | refine iteT ?_ | refine iteF ?_
        exact ⟨_, rfl, _, rfl, fun a dx h1 h2 h3 => mk a dx h1 h2 h3⟩
    · refine ⟨_, rfl, rfl, _, rfl, ?_⟩
      rw [dec_eq_int]
      refine iteF ?_
      refine ⟨_, rfl, rfl, _, rfl, ?_⟩
      rw [dec_eq_int]
      refine iteF ?_
      refine ⟨_, rfl, rfl, _, rfl, ?_⟩
      rw [dec_eq_int]
      refine iteF ?_
      refine ⟨_, rfl, rfl, _, rfl, ?_⟩
      rw [dec_eq_int]
      refine iteF ?_
      refine ⟨_, rfl, rfl, _, rfl, ?_⟩
      rw [dec_eq_int]
      refine iteF ?_
      refine ⟨_, rfl, rfl, _, rfl, ?_⟩
      rw [dec_eq_int]
      refine iteT ?_
      cases b
      all_goals
        refine ⟨_, rfl, _, rfl, ?_⟩
        first | refine iteT ?_ | refine iteF ?_
        exact ⟨_, rfl, _, rfl, fun a dx h1 h2 h3 => mk a dx h1 h2 h3⟩
    · refine ⟨_, rfl, rfl, _, rfl, ?_⟩
      rw [dec_eq_int]
      refine iteF ?_
      refine ⟨_, rfl, rfl, _, rfl, ?_⟩
      rw [dec_eq_int]
      refine iteF ?_
      refine ⟨_, rfl, rfl, _, rfl, ?_⟩
      rw [dec_eq_int]
      refine iteF ?_
      refine ⟨_, rfl, rfl, _, rfl, ?_⟩
      rw [dec_eq_int]
      refine iteF ?_
      refine ⟨_, rfl, rfl, _, rfl, ?_⟩
      rw [dec_eq_int]
      refine iteF ?_
      refine ⟨_, rfl, rfl, _, rfl, ?_⟩
      rw [dec_eq_int]
      refine iteF ?_
      cases b
      all_goals
        refine ⟨_, rfl, _, rfl, ?_⟩
        first | refine iteT ?_ | refine iteF ?_
        exact ⟨_, rfl, _, rfl, fun a dx h1 h2 h3 => mk a dx h1 h2 h3⟩
theorem ok__law_ps_error (p : Prog K mg) : FnG P w K mg base CX0 4 p.f__law_ps_error p.fd__law_ps_error ["_law_rank", "_law_thing", "_law_named"] (spErr p 0) := by
  refine okG p.d__law_ps_error.F sc__law_ps_error (fun vs H Q E h => ?_) (fun cdv A outer s H vs Q E hg hr h => ?_)
  · obtain ⟨r, v, b, rfl, _⟩ := h
    rfl
  · obtain ⟨r, v, b, rfl, _, r12, q⟩ := h
    have mk : ∀ (a dx : Addr), H a = none → H dx = none → dx ≠ a → Q (.ref a) (upd (upd (upd H a (exo a (ErC p r) none)) dx (exd dx [("value", v)])) a (exo a (ErC p r) (some dx))) := fun a dx h1 h2 h3 => by
      refine q a _ (fun b o e => ?_) h1 ⟨dx, upd_same, by rw [upd_ne h3, upd_same]⟩
      have n1 : b ≠ a := fun z => by rw [z, h1] at e; cases e
      have n2 : b ≠ dx := fun z => by rw [z, h2] at e; cases e
      rw [upd_ne n1, upd_ne n2, upd_ne n1]
      exact e
    refine ⟨_, (pss_cons (ps_if (pt_cmpR op_eq (pv 0) pe_int (nomark _))
      (pss_one (ps_ret (pe_ifExp (pt_val (pv 2)) (pe_oexKG p.e_PileError (ok_VE p.e_PileError) (hr.mono (by decide)) pass0 (by rfl) (kb_VE p.e_PileError) (pk_cons (pv 1) pk_nil)) (pe_oexG p.e_PileError (ok_VE p.e_PileError) (hr.mono (by decide)) pass0 (by rfl) (pa_cons (pv 1) pa_nil))))) pss_nil)
      (pss_cons (ps_if (pt_cmpR op_eq (pv 0) pe_int (nomark _))
      (pss_one (ps_ret (pe_ifExp (pt_val (pv 2)) (pe_oexKG p.e_InvalidEffect (ok_VE p.e_InvalidEffect) (hr.mono (by decide)) pass0 (by rfl) (kb_VE p.e_InvalidEffect) (pk_cons (pv 1) pk_nil)) (pe_oexG p.e_InvalidEffect (ok_VE p.e_InvalidEffect) (hr.mono (by decide)) pass0 (by rfl) (pa_cons (pv 1) pa_nil))))) pss_nil)
      (pss_cons (ps_if (pt_cmpR op_eq (pv 0) pe_int (nomark _))
      (pss_one (ps_ret (pe_ifExp (pt_val (pv 2)) (pe_oexKG p.e_InvalidName (ok_VE p.e_InvalidName) (hr.mono (by decide)) pass0 (by rfl) (kb_VE p.e_InvalidName) (pk_cons (pv 1) pk_nil)) (pe_oexG p.e_InvalidName (ok_VE p.e_InvalidName) (hr.mono (by decide)) pass0 (by rfl) (pa_cons (pv 1) pa_nil))))) pss_nil)
      (pss_cons (ps_if (pt_cmpR op_eq (pv 0) pe_int (nomark _))
      (pss_one (ps_ret (pe_ifExp (pt_val (pv 2)) (pe_oexKG p.e_DoubleName (ok_VE p.e_DoubleName) (hr.mono (by decide)) pass0 (by rfl) (kb_VE p.e_DoubleName) (pk_cons (pv 1) pk_nil)) (pe_oexG p.e_DoubleName (ok_VE p.e_DoubleName) (hr.mono (by decide)) pass0 (by rfl) (pa_cons (pv 1) pa_nil))))) pss_nil)
      (pss_cons (ps_if (pt_cmpR op_eq (pv 0) pe_int (nomark _))
      (pss_one (ps_ret (pe_ifExp (pt_val (pv 2)) (pe_oexKG p.e_MixedBook (ok_VE p.e_MixedBook) (hr.mono (by decide)) pass0 (by rfl) (kb_VE p.e_MixedBook) (pk_cons (pv 1) pk_nil)) (pe_oexG p.e_MixedBook (ok_VE p.e_MixedBook) (hr.mono (by decide)) pass0 (by rfl) (pa_cons (pv 1) pa_nil))))) pss_nil)
      (pss_one (ps_ret (pe_callG ((ok__law_ps_later_error p).mono (by decide)) hg hr (by rfl) p.d__law_ps_later_error.gl p.d__law_ps_later_error.kp p.d__law_ps_later_error.bd pass0 (pa_cons (pv 0) (pa_cons (pv 1) (pa_cons (pv 2) pa_nil))))))))))), ?_⟩
    have rr : r = 0 ∨ r = 1 ∨ r = 2 ∨ r = 3 ∨ r = 4 ∨ r = 5 ∨ r = 6 ∨ r = 7 ∨ r = 8 ∨ r = 9 ∨ r = 10 ∨ r = 11 := by omega
    rcases rr with rfl | rfl | rfl | rfl | rfl | rfl | rfl | rfl | rfl | rfl | rfl | rfl
    · refine ⟨_, rfl, rfl, _, rfl, ?_⟩
      rw [dec_eq_int]
      refine iteT ?_
      cases b
      all_goals
        refine ⟨_, rfl, _, rfl, ?_⟩
        first | refine iteT ?_ | refine iteF ?_
        exact ⟨_, rfl, _, rfl, fun a dx h1 h2 h3 => mk a dx h1 h2 h3⟩
    · refine ⟨_, rfl, rfl, _, rfl, ?_⟩
      rw [dec_eq_int]
      refine iteF ?_
      refine ⟨_, rfl, rfl, _, rfl, ?_⟩
      rw [dec_eq_int]
      refine iteT ?_
      cases b
      all_goals
        refine ⟨_, rfl, _, rfl, ?_⟩
        first | refine iteT ?_ | refine iteF ?_
        exact ⟨_, rfl, _, rfl, fun a dx h1 h2 h3 => mk a dx h1 h2 h3⟩
    · refine ⟨_, rfl, rfl, _, rfl, ?_⟩
      rw [dec_eq_int]
      refine iteF ?_
      refine ⟨_, rfl, rfl, _, rfl, ?_⟩
      rw [dec_eq_int]
      refine iteF ?_
      refine ⟨_, rfl, rfl, _, rfl, ?_⟩
      rw [dec_eq_int]
      refine iteT ?_
      cases b
      all_goals
        refine ⟨_, rfl, _, rfl, ?_⟩
        first | refine iteT ?_ | refine iteF ?_
        exact ⟨_, rfl, _, rfl, fun a dx h1 h2 h3 => mk a dx h1 h2 h3⟩
    · refine ⟨_, rfl, rfl, _, rfl, ?_⟩
      rw [dec_eq_int]
      refine iteF ?_
      refine ⟨_, rfl, rfl, _, rfl, ?_⟩
      rw [dec_eq_int]
      refine iteF ?_
      refine ⟨_, rfl, rfl, _, rfl, ?_⟩
      rw [dec_eq_int]
      refine iteF ?_
      refine ⟨_, rfl, rfl, _, rfl, ?_⟩
      rw [dec_eq_int]
      refine iteT ?_
      cases b
      all_goals
        refine ⟨_, rfl, _, rfl, ?_⟩
        first | refine iteT ?_ | refine iteF ?_
        exact ⟨_, rfl, _, rfl, fun a dx h1 h2 h3 => mk a dx h1 h2 h3⟩
    · refine ⟨_, rfl, rfl, _, rfl, ?_⟩
      rw [dec_eq_int]
      refine iteF ?_
      refine ⟨_, rfl, rfl, _, rfl, ?_⟩
      rw [dec_eq_int]
      refine iteF ?_
      refine ⟨_, rfl, rfl, _, rfl, ?_⟩
      rw [dec_eq_int]
      refine iteF ?_
      refine ⟨_, rfl, rfl, _, rfl, ?_⟩
      rw [dec_eq_int]
      refine iteF ?_
      refine ⟨_, rfl, rfl, _, rfl, ?_⟩
      rw [dec_eq_int]
      refine iteT ?_
      cases b
      all_goals
        refine ⟨_, rfl, _, rfl, ?_⟩
        first | refine iteT ?_ | refine iteF ?_
        exact ⟨_, rfl, _, rfl, fun a dx h1 h2 h3 => mk a dx h1 h2 h3⟩
    · refine ⟨_, rfl, rfl, _, rfl, ?_⟩
      rw [dec_eq_int]
      refine iteF ?_
      refine ⟨_, rfl, rfl, _, rfl, ?_⟩
      rw [dec_eq_int]
      refine iteF ?_
      refine ⟨_, rfl, rfl, _, rfl, ?_⟩
      rw [dec_eq_int]
      refine iteF ?_
      refine ⟨_, rfl, rfl, _, rfl, ?_⟩
      rw [dec_eq_int]
      refine iteF ?_
      refine ⟨_, rfl, rfl, _, rfl, ?_⟩
      rw [dec_eq_int]
      refine iteF ?_
      exact ⟨_, rfl, _, rfl, _, rfl, 5, v, b, rfl, by decide, by decide, q⟩
    · refine ⟨_, rfl, rfl, _, rfl, ?_⟩
      rw [dec_eq_int]
      refine iteF ?_
      refine ⟨_, rfl, rfl, _, rfl, ?_⟩
      rw [dec_eq_int]
      refine iteF ?_
      refine ⟨_, rfl, rfl, _, rfl, ?_⟩
      rw [dec_eq_int]
      refine iteF ?_
      refine ⟨_, rfl, rfl, _, rfl, ?_⟩
      rw [dec_eq_int]
      refine iteF ?_
      refine ⟨_, rfl, rfl, _, rfl, ?_⟩
      rw [dec_eq_int]
      refine iteF ?_
      exact ⟨_, rfl, _, rfl, _, rfl, 6, v, b, rfl, by decide, by decide, q⟩
    · refine ⟨_, rfl, rfl, _, rfl, ?_⟩
      rw [dec_eq_int]
      refine iteF ?_
      refine ⟨_, rfl, rfl, _, rfl, ?_⟩
      rw [dec_eq_int]
      refine iteF ?_
      refine ⟨_, rfl, rfl, _, rfl, ?_⟩
      rw [dec_eq_int]
      refine iteF ?_
      refine ⟨_, rfl, rfl, _, rfl, ?_⟩
      rw [dec_eq_int]
      refine iteF ?_
      refine ⟨_, rfl, rfl, _, rfl, ?_⟩
      rw [dec_eq_int]
      refine iteF ?_
      exact ⟨_, rfl, _, rfl, _, rfl, 7, v, b, rfl, by decide, by decide, q⟩
    · refine ⟨_, rfl, rfl, _, rfl, ?_⟩
      rw [dec_eq_int]
      refine iteF ?_
      refine ⟨_, rfl, rfl, _, rfl, ?_⟩
      rw [dec_eq_int]
      refine iteF ?_
      refine ⟨_, rfl, rfl, _, rfl, ?_⟩
      rw [dec_eq_int]
      refine iteF ?_
      refine ⟨_, rfl, rfl, _, rfl, ?_⟩
      rw [dec_eq_int]
      refine iteF ?_
      refine ⟨_, rfl, rfl, _, rfl, ?_⟩
      rw [dec_eq_int]
      refine iteF ?_
      exact ⟨_, rfl, _, rfl, _, rfl, 8, v, b, rfl, by decide, by decide, q⟩
    · refine ⟨_, rfl, rfl, _, rfl, ?_⟩
      rw [dec_eq_int]
      refine iteF ?_
      refine ⟨_, rfl, rfl, _, rfl, ?_⟩
      rw [dec_eq_int]
      refine iteF ?_
      refine ⟨_, rfl, rfl, _, rfl, ?_⟩
      rw [dec_eq_int]
      refine iteF ?_
      refine ⟨_, rfl, rfl, _, rfl, ?_⟩
      rw [dec_eq_int]
      refine iteF ?_
      refine ⟨_, rfl, rfl, _, rfl, ?_⟩
      rw [dec_eq_int]
      refine iteF ?_
      exact ⟨_, rfl, _, rfl, _, rfl, 9, v, b, rfl, by decide, by decide, q⟩
    · refine ⟨_, rfl, rfl, _, rfl, ?_⟩
      rw [dec_eq_int]
      refine iteF ?_
      refine ⟨_, rfl, rfl, _, rfl, ?_⟩
      rw [dec_eq_int]
      refine iteF ?_
      refine ⟨_, rfl, rfl, _, rfl, ?_⟩
      rw [dec_eq_int]
      refine iteF ?_
      refine ⟨_, rfl, rfl, _, rfl, ?_⟩
      rw [dec_eq_int]
      refine iteF ?_
      refine ⟨_, rfl, rfl, _, rfl, ?_⟩
      rw [dec_eq_int]
      refine iteF ?_
      exact ⟨_, rfl, _, rfl, _, rfl, 10, v, b, rfl, by decide, by decide, q⟩
    · refine ⟨_, rfl, rfl, _, rfl, ?_⟩
      rw [dec_eq_int]
      refine iteF ?_
      refine ⟨_, rfl, rfl, _, rfl, ?_⟩
      rw [dec_eq_int]
      refine iteF ?_
      refine ⟨_, rfl, rfl, _, rfl, ?_⟩
      rw [dec_eq_int]
      refine iteF ?_
      refine ⟨_, rfl, rfl, _, rfl, ?_⟩
      rw [dec_eq_int]
      refine iteF ?_
      refine ⟨_, rfl, rfl, _, rfl, ?_⟩
      rw [dec_eq_int]
      refine iteF ?_
      exact ⟨_, rfl, _, rfl, _, rfl, 11, v, b, rfl, by decide, by decide, q⟩
theorem kone_0 (p : Prog K mg) (s : Nat) (h : s < 12) : PySem.W.kitOne K (.ref p.C_PileError) (.ref (ErC p s)) = some (decide (s = 0) || decide (s = 0)) := by
  have e : s = 0 ∨ s = 1 ∨ s = 2 ∨ s = 3 ∨ s = 4 ∨ s = 5 ∨ s = 6 ∨ s = 7 ∨ s = 8 ∨ s = 9 ∨ s = 10 ∨ s = 11 := by omega
  rcases e with rfl | rfl | rfl | rfl | rfl | rfl | rfl | rfl | rfl | rfl | rfl | rfl
  · exact p.ki_PileError_PileError
  · exact p.ki_PileError_InvalidEffect
  · exact p.ki_PileError_InvalidName
  · exact p.ki_PileError_DoubleName
  · exact p.ki_PileError_MixedBook
  · exact p.ki_PileError_UnknownWord
  · exact p.ki_PileError_InvalidStep
  · exact p.ki_PileError_InvalidNumber
  · exact p.ki_PileError_InvalidPlace
  · exact p.ki_PileError_TooShallow
  · exact p.ki_PileError_NothingToUndo
  · exact p.ki_PileError_Unreadable
theorem kone_1 (p : Prog K mg) (s : Nat) (h : s < 12) : PySem.W.kitOne K (.ref p.C_InvalidEffect) (.ref (ErC p s)) = some (decide (s = 0) || decide (s = 1)) := by
  have e : s = 0 ∨ s = 1 ∨ s = 2 ∨ s = 3 ∨ s = 4 ∨ s = 5 ∨ s = 6 ∨ s = 7 ∨ s = 8 ∨ s = 9 ∨ s = 10 ∨ s = 11 := by omega
  rcases e with rfl | rfl | rfl | rfl | rfl | rfl | rfl | rfl | rfl | rfl | rfl | rfl
  · exact p.ki_InvalidEffect_PileError
  · exact p.ki_InvalidEffect_InvalidEffect
  · exact p.ki_InvalidEffect_InvalidName
  · exact p.ki_InvalidEffect_DoubleName
  · exact p.ki_InvalidEffect_MixedBook
  · exact p.ki_InvalidEffect_UnknownWord
  · exact p.ki_InvalidEffect_InvalidStep
  · exact p.ki_InvalidEffect_InvalidNumber
  · exact p.ki_InvalidEffect_InvalidPlace
  · exact p.ki_InvalidEffect_TooShallow
  · exact p.ki_InvalidEffect_NothingToUndo
  · exact p.ki_InvalidEffect_Unreadable
theorem kone_2 (p : Prog K mg) (s : Nat) (h : s < 12) : PySem.W.kitOne K (.ref p.C_InvalidName) (.ref (ErC p s)) = some (decide (s = 0) || decide (s = 2)) := by
  have e : s = 0 ∨ s = 1 ∨ s = 2 ∨ s = 3 ∨ s = 4 ∨ s = 5 ∨ s = 6 ∨ s = 7 ∨ s = 8 ∨ s = 9 ∨ s = 10 ∨ s = 11 := by omega
  rcases e with rfl | rfl | rfl | rfl | rfl | rfl | rfl | rfl | rfl | rfl | rfl | rfl
  · exact p.ki_InvalidName_PileError
  · exact p.ki_InvalidName_InvalidEffect
  · exact p.ki_InvalidName_InvalidName
  · exact p.ki_InvalidName_DoubleName
  · exact p.ki_InvalidName_MixedBook
  · exact p.ki_InvalidName_UnknownWord
  · exact p.ki_InvalidName_InvalidStep
  · exact p.ki_InvalidName_InvalidNumber
  · exact p.ki_InvalidName_InvalidPlace
  · exact p.ki_InvalidName_TooShallow
  · exact p.ki_InvalidName_NothingToUndo
  · exact p.ki_InvalidName_Unreadable
theorem kone_3 (p : Prog K mg) (s : Nat) (h : s < 12) : PySem.W.kitOne K (.ref p.C_DoubleName) (.ref (ErC p s)) = some (decide (s = 0) || decide (s = 3)) := by
  have e : s = 0 ∨ s = 1 ∨ s = 2 ∨ s = 3 ∨ s = 4 ∨ s = 5 ∨ s = 6 ∨ s = 7 ∨ s = 8 ∨ s = 9 ∨ s = 10 ∨ s = 11 := by omega
  rcases e with rfl | rfl | rfl | rfl | rfl | rfl | rfl | rfl | rfl | rfl | rfl | rfl
  · exact p.ki_DoubleName_PileError
  · exact p.ki_DoubleName_InvalidEffect
  · exact p.ki_DoubleName_InvalidName
  · exact p.ki_DoubleName_DoubleName
  · exact p.ki_DoubleName_MixedBook
  · exact p.ki_DoubleName_UnknownWord
  · exact p.ki_DoubleName_InvalidStep
  · exact p.ki_DoubleName_InvalidNumber
  · exact p.ki_DoubleName_InvalidPlace
  · exact p.ki_DoubleName_TooShallow
  · exact p.ki_DoubleName_NothingToUndo
  · exact p.ki_DoubleName_Unreadable
theorem kone_4 (p : Prog K mg) (s : Nat) (h : s < 12) : PySem.W.kitOne K (.ref p.C_MixedBook) (.ref (ErC p s)) = some (decide (s = 0) || decide (s = 4)) := by
  have e : s = 0 ∨ s = 1 ∨ s = 2 ∨ s = 3 ∨ s = 4 ∨ s = 5 ∨ s = 6 ∨ s = 7 ∨ s = 8 ∨ s = 9 ∨ s = 10 ∨ s = 11 := by omega
  rcases e with rfl | rfl | rfl | rfl | rfl | rfl | rfl | rfl | rfl | rfl | rfl | rfl
  · exact p.ki_MixedBook_PileError
  · exact p.ki_MixedBook_InvalidEffect
  · exact p.ki_MixedBook_InvalidName
  · exact p.ki_MixedBook_DoubleName
  · exact p.ki_MixedBook_MixedBook
  · exact p.ki_MixedBook_UnknownWord
  · exact p.ki_MixedBook_InvalidStep
  · exact p.ki_MixedBook_InvalidNumber
  · exact p.ki_MixedBook_InvalidPlace
  · exact p.ki_MixedBook_TooShallow
  · exact p.ki_MixedBook_NothingToUndo
  · exact p.ki_MixedBook_Unreadable
theorem kone_5 (p : Prog K mg) (s : Nat) (h : s < 12) : PySem.W.kitOne K (.ref p.C_UnknownWord) (.ref (ErC p s)) = some (decide (s = 0) || decide (s = 5)) := by
  have e : s = 0 ∨ s = 1 ∨ s = 2 ∨ s = 3 ∨ s = 4 ∨ s = 5 ∨ s = 6 ∨ s = 7 ∨ s = 8 ∨ s = 9 ∨ s = 10 ∨ s = 11 := by omega
  rcases e with rfl | rfl | rfl | rfl | rfl | rfl | rfl | rfl | rfl | rfl | rfl | rfl
  · exact p.ki_UnknownWord_PileError
  · exact p.ki_UnknownWord_InvalidEffect
  · exact p.ki_UnknownWord_InvalidName
  · exact p.ki_UnknownWord_DoubleName
  · exact p.ki_UnknownWord_MixedBook
  · exact p.ki_UnknownWord_UnknownWord
  · exact p.ki_UnknownWord_InvalidStep
  · exact p.ki_UnknownWord_InvalidNumber
  · exact p.ki_UnknownWord_InvalidPlace
  · exact p.ki_UnknownWord_TooShallow
  · exact p.ki_UnknownWord_NothingToUndo
  · exact p.ki_UnknownWord_Unreadable
theorem kone_6 (p : Prog K mg) (s : Nat) (h : s < 12) : PySem.W.kitOne K (.ref p.C_InvalidStep) (.ref (ErC p s)) = some (decide (s = 0) || decide (s = 6)) := by
  have e : s = 0 ∨ s = 1 ∨ s = 2 ∨ s = 3 ∨ s = 4 ∨ s = 5 ∨ s = 6 ∨ s = 7 ∨ s = 8 ∨ s = 9 ∨ s = 10 ∨ s = 11 := by omega
  rcases e with rfl | rfl | rfl | rfl | rfl | rfl | rfl | rfl | rfl | rfl | rfl | rfl
  · exact p.ki_InvalidStep_PileError
  · exact p.ki_InvalidStep_InvalidEffect
  · exact p.ki_InvalidStep_InvalidName
  · exact p.ki_InvalidStep_DoubleName
  · exact p.ki_InvalidStep_MixedBook
  · exact p.ki_InvalidStep_UnknownWord
  · exact p.ki_InvalidStep_InvalidStep
  · exact p.ki_InvalidStep_InvalidNumber
  · exact p.ki_InvalidStep_InvalidPlace
  · exact p.ki_InvalidStep_TooShallow
  · exact p.ki_InvalidStep_NothingToUndo
  · exact p.ki_InvalidStep_Unreadable
theorem kone_7 (p : Prog K mg) (s : Nat) (h : s < 12) : PySem.W.kitOne K (.ref p.C_InvalidNumber) (.ref (ErC p s)) = some (decide (s = 0) || decide (s = 7)) := by
  have e : s = 0 ∨ s = 1 ∨ s = 2 ∨ s = 3 ∨ s = 4 ∨ s = 5 ∨ s = 6 ∨ s = 7 ∨ s = 8 ∨ s = 9 ∨ s = 10 ∨ s = 11 := by omega
  rcases e with rfl | rfl | rfl | rfl | rfl | rfl | rfl | rfl | rfl | rfl | rfl | rfl
  · exact p.ki_InvalidNumber_PileError
  · exact p.ki_InvalidNumber_InvalidEffect
  · exact p.ki_InvalidNumber_InvalidName
  · exact p.ki_InvalidNumber_DoubleName
  · exact p.ki_InvalidNumber_MixedBook
  · exact p.ki_InvalidNumber_UnknownWord
  · exact p.ki_InvalidNumber_InvalidStep
  · exact p.ki_InvalidNumber_InvalidNumber
  · exact p.ki_InvalidNumber_InvalidPlace
  · exact p.ki_InvalidNumber_TooShallow
  · exact p.ki_InvalidNumber_NothingToUndo
  · exact p.ki_InvalidNumber_Unreadable
theorem kone_8 (p : Prog K mg) (s : Nat) (h : s < 12) : PySem.W.kitOne K (.ref p.C_InvalidPlace) (.ref (ErC p s)) = some (decide (s = 0) || decide (s = 8)) := by
  have e : s = 0 ∨ s = 1 ∨ s = 2 ∨ s = 3 ∨ s = 4 ∨ s = 5 ∨ s = 6 ∨ s = 7 ∨ s = 8 ∨ s = 9 ∨ s = 10 ∨ s = 11 := by omega
  rcases e with rfl | rfl | rfl | rfl | rfl | rfl | rfl | rfl | rfl | rfl | rfl | rfl
  · exact p.ki_InvalidPlace_PileError
  · exact p.ki_InvalidPlace_InvalidEffect
  · exact p.ki_InvalidPlace_InvalidName
  · exact p.ki_InvalidPlace_DoubleName
  · exact p.ki_InvalidPlace_MixedBook
  · exact p.ki_InvalidPlace_UnknownWord
  · exact p.ki_InvalidPlace_InvalidStep
  · exact p.ki_InvalidPlace_InvalidNumber
  · exact p.ki_InvalidPlace_InvalidPlace
  · exact p.ki_InvalidPlace_TooShallow
  · exact p.ki_InvalidPlace_NothingToUndo
  · exact p.ki_InvalidPlace_Unreadable
theorem kone_9 (p : Prog K mg) (s : Nat) (h : s < 12) : PySem.W.kitOne K (.ref p.C_TooShallow) (.ref (ErC p s)) = some (decide (s = 0) || decide (s = 9)) := by
  have e : s = 0 ∨ s = 1 ∨ s = 2 ∨ s = 3 ∨ s = 4 ∨ s = 5 ∨ s = 6 ∨ s = 7 ∨ s = 8 ∨ s = 9 ∨ s = 10 ∨ s = 11 := by omega
  rcases e with rfl | rfl | rfl | rfl | rfl | rfl | rfl | rfl | rfl | rfl | rfl | rfl
  · exact p.ki_TooShallow_PileError
  · exact p.ki_TooShallow_InvalidEffect
  · exact p.ki_TooShallow_InvalidName
  · exact p.ki_TooShallow_DoubleName
  · exact p.ki_TooShallow_MixedBook
  · exact p.ki_TooShallow_UnknownWord
  · exact p.ki_TooShallow_InvalidStep
  · exact p.ki_TooShallow_InvalidNumber
  · exact p.ki_TooShallow_InvalidPlace
  · exact p.ki_TooShallow_TooShallow
  · exact p.ki_TooShallow_NothingToUndo
  · exact p.ki_TooShallow_Unreadable
theorem kone_10 (p : Prog K mg) (s : Nat) (h : s < 12) : PySem.W.kitOne K (.ref p.C_NothingToUndo) (.ref (ErC p s)) = some (decide (s = 0) || decide (s = 10)) := by
  have e : s = 0 ∨ s = 1 ∨ s = 2 ∨ s = 3 ∨ s = 4 ∨ s = 5 ∨ s = 6 ∨ s = 7 ∨ s = 8 ∨ s = 9 ∨ s = 10 ∨ s = 11 := by omega
  rcases e with rfl | rfl | rfl | rfl | rfl | rfl | rfl | rfl | rfl | rfl | rfl | rfl
  · exact p.ki_NothingToUndo_PileError
  · exact p.ki_NothingToUndo_InvalidEffect
  · exact p.ki_NothingToUndo_InvalidName
  · exact p.ki_NothingToUndo_DoubleName
  · exact p.ki_NothingToUndo_MixedBook
  · exact p.ki_NothingToUndo_UnknownWord
  · exact p.ki_NothingToUndo_InvalidStep
  · exact p.ki_NothingToUndo_InvalidNumber
  · exact p.ki_NothingToUndo_InvalidPlace
  · exact p.ki_NothingToUndo_TooShallow
  · exact p.ki_NothingToUndo_NothingToUndo
  · exact p.ki_NothingToUndo_Unreadable
theorem kone_11 (p : Prog K mg) (s : Nat) (h : s < 12) : PySem.W.kitOne K (.ref p.C_Unreadable) (.ref (ErC p s)) = some (decide (s = 0) || decide (s = 11)) := by
  have e : s = 0 ∨ s = 1 ∨ s = 2 ∨ s = 3 ∨ s = 4 ∨ s = 5 ∨ s = 6 ∨ s = 7 ∨ s = 8 ∨ s = 9 ∨ s = 10 ∨ s = 11 := by omega
  rcases e with rfl | rfl | rfl | rfl | rfl | rfl | rfl | rfl | rfl | rfl | rfl | rfl
  · exact p.ki_Unreadable_PileError
  · exact p.ki_Unreadable_InvalidEffect
  · exact p.ki_Unreadable_InvalidName
  · exact p.ki_Unreadable_DoubleName
  · exact p.ki_Unreadable_MixedBook
  · exact p.ki_Unreadable_UnknownWord
  · exact p.ki_Unreadable_InvalidStep
  · exact p.ki_Unreadable_InvalidNumber
  · exact p.ki_Unreadable_InvalidPlace
  · exact p.ki_Unreadable_TooShallow
  · exact p.ki_Unreadable_NothingToUndo
  · exact p.ki_Unreadable_Unreadable
theorem kone (p : Prog K mg) (r s : Nat) (hr : r < 12) (h : s < 12) : PySem.W.kitOne K (.ref (ErC p r)) (.ref (ErC p s)) = some (decide (s = 0) || decide (s = r)) := by
  have e : r = 0 ∨ r = 1 ∨ r = 2 ∨ r = 3 ∨ r = 4 ∨ r = 5 ∨ r = 6 ∨ r = 7 ∨ r = 8 ∨ r = 9 ∨ r = 10 ∨ r = 11 := by omega
  rcases e with rfl | rfl | rfl | rfl | rfl | rfl | rfl | rfl | rfl | rfl | rfl | rfl
  · exact kone_0 p s h
  · exact kone_1 p s h
  · exact kone_2 p s h
  · exact kone_3 p s h
  · exact kone_4 p s h
  · exact kone_5 p s h
  · exact kone_6 p s h
  · exact kone_7 p s h
  · exact kone_8 p s h
  · exact kone_9 p s h
  · exact kone_10 p s h
  · exact kone_11 p s h
theorem kval (p : Prog K mg) (r : Nat) (hr : r < 12) : PySem.W.kitOne K (.ref (ErC p r)) (.type "ValueError") = some true := by
  have e : r = 0 ∨ r = 1 ∨ r = 2 ∨ r = 3 ∨ r = 4 ∨ r = 5 ∨ r = 6 ∨ r = 7 ∨ r = 8 ∨ r = 9 ∨ r = 10 ∨ r = 11 := by omega
  rcases e with rfl | rfl | rfl | rfl | rfl | rfl | rfl | rfl | rfl | rfl | rfl | rfl
  · exact p.ki_PileError_ValueError
  · exact p.ki_InvalidEffect_ValueError
  · exact p.ki_InvalidName_ValueError
  · exact p.ki_DoubleName_ValueError
  · exact p.ki_MixedBook_ValueError
  · exact p.ki_UnknownWord_ValueError
  · exact p.ki_InvalidStep_ValueError
  · exact p.ki_InvalidNumber_ValueError
  · exact p.ki_InvalidPlace_ValueError
  · exact p.ki_TooShallow_ValueError
  · exact p.ki_NothingToUndo_ValueError
  · exact p.ki_Unreadable_ValueError
theorem kexc (p : Prog K mg) (r : Nat) (hr : r < 12) : ExcC K (ErC p r) := by
  have e : r = 0 ∨ r = 1 ∨ r = 2 ∨ r = 3 ∨ r = 4 ∨ r = 5 ∨ r = 6 ∨ r = 7 ∨ r = 8 ∨ r = 9 ∨ r = 10 ∨ r = 11 := by omega
  rcases e with rfl | rfl | rfl | rfl | rfl | rfl | rfl | rfl | rfl | rfl | rfl | rfl
  · exact p.i_PileError
  · exact p.i_InvalidEffect
  · exact p.i_InvalidName
  · exact p.i_DoubleName
  · exact p.i_MixedBook
  · exact p.i_UnknownWord
  · exact p.i_InvalidStep
  · exact p.i_InvalidNumber
  · exact p.i_InvalidPlace
  · exact p.i_TooShallow
  · exact p.i_NothingToUndo
  · exact p.i_Unreadable
/-- a list of bools of its own -/
def KI (H0 H1 : Hp) (l : Addr) (xs : List Bool) : Prop := Same H0 H1 ∧ H0 l = none ∧ H1 l = some (.lst (xs.map V.bl))
theorem KI.one {H0 : Hp} {l : Addr} {xs : List Bool} (h : H0 l = none) : KI H0 (upd H0 l (.lst (xs.map V.bl))) l xs := ⟨same_upd h, h, upd_same⟩
theorem KI.more {H0 H1 : Hp} {l b m : Addr} {xs zs : List Bool} (h : KI H0 H1 l xs) (hb : H1 b = none) (hm : upd H1 b (.lst (zs.map V.bl)) m = none) : KI H0 (upd (upd H1 b (.lst (zs.map V.bl))) m (.lst ((xs ++ zs).map V.bl))) m (xs ++ zs) := by
  refine ⟨h.1.trans ((same_upd hb).trans (same_upd hm)), ?_, upd_same⟩
  cases e : H0 m with
  | none => rfl
  | some o =>
    have := same_upd (o := .lst (zs.map V.bl)) hb _ _ (h.1 _ _ e)
    rw [hm] at this
    cases this
theorem reps_bls {H : Hp} : ∀ bs : List Bool, Reps H [] (bs.map V.bl) (bs.map PyData.bool)
  | [] => .nil
  | b :: bs => .cons (S := []) (.bl b) (reps_bls bs)
theorem KI.new {H0 H1 : Hp} {l : Addr} {xs : List Bool} (h : KI H0 H1 l xs) : New H0 H1 (.ref l) (.list (xs.map PyData.bool)) :=
  ⟨[l], .lst h.2.2 (reps_bls xs), by simp, fun a m => by
    rw [List.mem_singleton] at m
    subst m
    exact h.2.1⟩
theorem KI.er {H0 H1 : Hp} {l a C : Addr} {xs : List Bool} {v : V} (h : KI H0 H1 l xs) (e : ErA H0 a C v) : ErA H1 a C v := e.same fun b o z _ => h.1 _ _ z
def kb (r s : Nat) : Bool := decide (s = 0) || decide (s = r)
def spKinds (p : Prog K mg) : Sp := fun vs H Q _ => ∃ (a : Addr) (r : Nat) (v : V), vs = [.ref a] ∧ r < 12 ∧ ErA H a (ErC p r) v ∧ ∀ d v' H', d = .list ((((List.range 12).map fun s => kb r s) ++ [true]).map PyData.bool) → Same H H' → New H H' v' d → Q v' H'
theorem ok__law_ps_kinds (p : Prog K mg) : FnG P w K mg base CX0 1 p.f__law_ps_kinds p.fd__law_ps_kinds ["_law_made"] (spKinds p) := by
  refine okG p.d__law_ps_kinds.F sc__law_ps_kinds (fun vs H Q E h => ?_) (fun cdv A outer s H vs Q E hg hr h => ?_)
  · obtain ⟨a, r, v, rfl, _⟩ := h
    rfl
  · obtain ⟨a, r, v, rfl, r12, er, q⟩ := h
    refine ⟨_, (pss_cons (ps_set (i := 1) sc__law_ps_kinds.nd rfl (Or.inl rfl) (pe_lst (pa_cons (pe_callB call_isV (by rfl) p.blt.isinstance (by decide +kernel) (pa_cons (pv 0) (pa_cons (pe_glob (v := .ref p.C_PileError) (by rfl) p.e_PileError.gl rfl) pa_nil))) (pa_cons (pe_callB call_isV (by rfl) p.blt.isinstance (by decide +kernel) (pa_cons (pv 0) (pa_cons (pe_glob (v := .ref p.C_InvalidEffect) (by rfl) p.e_InvalidEffect.gl rfl) pa_nil))) (pa_cons (pe_callB call_isV (by rfl) p.blt.isinstance (by decide +kernel) (pa_cons (pv 0) (pa_cons (pe_glob (v := .ref p.C_InvalidName) (by rfl) p.e_InvalidName.gl rfl) pa_nil))) pa_nil)))))
      (pss_cons (ps_set (i := 1) sc__law_ps_kinds.nd rfl (Or.inl rfl) (pe_op op_cat (pv 1) (pe_lst (pa_cons (pe_callB call_isV (by rfl) p.blt.isinstance (by decide +kernel) (pa_cons (pv 0) (pa_cons (pe_glob (v := .ref p.C_DoubleName) (by rfl) p.e_DoubleName.gl rfl) pa_nil))) (pa_cons (pe_callB call_isV (by rfl) p.blt.isinstance (by decide +kernel) (pa_cons (pv 0) (pa_cons (pe_glob (v := .ref p.C_MixedBook) (by rfl) p.e_MixedBook.gl rfl) pa_nil))) (pa_cons (pe_callB call_isV (by rfl) p.blt.isinstance (by decide +kernel) (pa_cons (pv 0) (pa_cons (pe_glob (v := .ref p.C_UnknownWord) (by rfl) p.e_UnknownWord.gl rfl) pa_nil))) pa_nil))))))
      (pss_cons (ps_set (i := 1) sc__law_ps_kinds.nd rfl (Or.inl rfl) (pe_op op_cat (pv 1) (pe_lst (pa_cons (pe_callB call_isV (by rfl) p.blt.isinstance (by decide +kernel) (pa_cons (pv 0) (pa_cons (pe_glob (v := .ref p.C_InvalidStep) (by rfl) p.e_InvalidStep.gl rfl) pa_nil))) (pa_cons (pe_callB call_isV (by rfl) p.blt.isinstance (by decide +kernel) (pa_cons (pv 0) (pa_cons (pe_glob (v := .ref p.C_InvalidNumber) (by rfl) p.e_InvalidNumber.gl rfl) pa_nil))) (pa_cons (pe_callB call_isV (by rfl) p.blt.isinstance (by decide +kernel) (pa_cons (pv 0) (pa_cons (pe_glob (v := .ref p.C_InvalidPlace) (by rfl) p.e_InvalidPlace.gl rfl) pa_nil))) pa_nil))))))
      (pss_cons (ps_set (i := 1) sc__law_ps_kinds.nd rfl (Or.inl rfl) (pe_op op_cat (pv 1) (pe_lst (pa_cons (pe_callB call_isV (by rfl) p.blt.isinstance (by decide +kernel) (pa_cons (pv 0) (pa_cons (pe_glob (v := .ref p.C_TooShallow) (by rfl) p.e_TooShallow.gl rfl) pa_nil))) (pa_cons (pe_callB call_isV (by rfl) p.blt.isinstance (by decide +kernel) (pa_cons (pv 0) (pa_cons (pe_glob (v := .ref p.C_NothingToUndo) (by rfl) p.e_NothingToUndo.gl rfl) pa_nil))) (pa_cons (pe_callB call_isV (by rfl) p.blt.isinstance (by decide +kernel) (pa_cons (pv 0) (pa_cons (pe_glob (v := .ref p.C_Unreadable) (by rfl) p.e_Unreadable.gl rfl) pa_nil))) pa_nil))))))
      (pss_one (ps_ret (pe_op op_cat (pv 1) (pe_lst (pa_cons (pe_callB call_isV (by rfl) p.blt.isinstance (by decide +kernel) (pa_cons (pv 0) (pa_cons (pe_bltn (v := .ty "ValueError") (by rfl) p.e_PileError.gV (by decide +kernel) rfl) pa_nil))) pa_nil))))))))), ?_⟩
    refine ⟨_, rfl, a, _, v, _, _, _, rfl, fun _ z => z, kexc p r r12, er, kone p r 0 r12 (by decide), ?_⟩
    refine ⟨_, rfl, a, _, v, _, _, _, rfl, fun _ z => z, kexc p r r12, er, kone p r 1 r12 (by decide), ?_⟩
    refine ⟨_, rfl, a, _, v, _, _, _, rfl, fun _ z => z, kexc p r r12, er, kone p r 2 r12 (by decide), ?_⟩
    refine ⟨szle (by simp), fun l1 n1 => ?_⟩
    have I1 : KI H (upd H l1 (.lst ([kb r 0, kb r 1, kb r 2].map V.bl))) l1 [kb r 0, kb r 1, kb r 2] := .one n1
    have er1 := I1.er er
    have big : ∀ n m : Nat, n + m ≤ 100 → n + m ≤ sizeLine := fun n m h => szle (by omega)
    refine ⟨_, rfl, ?_⟩
    refine ⟨_, rfl, a, _, v, _, _, _, rfl, fun _ z => z, kexc p r r12, er1, kone p r 3 r12 (by decide), ?_⟩
    refine ⟨_, rfl, a, _, v, _, _, _, rfl, fun _ z => z, kexc p r r12, er1, kone p r 4 r12 (by decide), ?_⟩
    refine ⟨_, rfl, a, _, v, _, _, _, rfl, fun _ z => z, kexc p r r12, er1, kone p r 5 r12 (by decide), ?_⟩
    refine ⟨szle (by simp), fun b1 nb1 => ?_⟩
    refine ⟨l1, b1, [kb r 0, kb r 1, kb r 2].map V.bl, [kb r 3, kb r 4, kb r 5].map V.bl, rfl, rfl, same_upd nb1 _ _ I1.2.2, upd_same, big _ _ (by simp), fun l2 n2 => ?_⟩
    have I2 := I1.more (zs := [kb r 3, kb r 4, kb r 5]) nb1 n2
    have er2 := I2.er er
    refine ⟨_, rfl, ?_⟩
    refine ⟨_, rfl, a, _, v, _, _, _, rfl, fun _ z => z, kexc p r r12, er2, kone p r 6 r12 (by decide), ?_⟩
    refine ⟨_, rfl, a, _, v, _, _, _, rfl, fun _ z => z, kexc p r r12, er2, kone p r 7 r12 (by decide), ?_⟩
    refine ⟨_, rfl, a, _, v, _, _, _, rfl, fun _ z => z, kexc p r r12, er2, kone p r 8 r12 (by decide), ?_⟩
    refine ⟨szle (by simp), fun b2 nb2 => ?_⟩
    refine ⟨l2, b2, ([kb r 0, kb r 1, kb r 2] ++ [kb r 3, kb r 4, kb r 5]).map V.bl, [kb r 6, kb r 7, kb r 8].map V.bl, rfl, rfl, same_upd nb2 _ _ I2.2.2, upd_same, big _ _ (by simp), fun l3 n3 => ?_⟩
    have I3 := I2.more (zs := [kb r 6, kb r 7, kb r 8]) nb2 n3
    have er3 := I3.er er
    refine ⟨_, rfl, ?_⟩
    refine ⟨_, rfl, a, _, v, _, _, _, rfl, fun _ z => z, kexc p r r12, er3, kone p r 9 r12 (by decide), ?_⟩
    refine ⟨_, rfl, a, _, v, _, _, _, rfl, fun _ z => z, kexc p r r12, er3, kone p r 10 r12 (by decide), ?_⟩
    refine ⟨_, rfl, a, _, v, _, _, _, rfl, fun _ z => z, kexc p r r12, er3, kone p r 11 r12 (by decide), ?_⟩
    refine ⟨szle (by simp), fun b3 nb3 => ?_⟩
    refine ⟨l3, b3, (([kb r 0, kb r 1, kb r 2] ++ [kb r 3, kb r 4, kb r 5]) ++ [kb r 6, kb r 7, kb r 8]).map V.bl, [kb r 9, kb r 10, kb r 11].map V.bl, rfl, rfl, same_upd nb3 _ _ I3.2.2, upd_same, big _ _ (by simp), fun l4 n4 => ?_⟩
    have I4 := I3.more (zs := [kb r 9, kb r 10, kb r 11]) nb3 n4
    have er4 := I4.er er
    refine ⟨_, rfl, ?_⟩
    refine ⟨_, rfl, a, _, v, _, _, _, rfl, fun _ z => z, kexc p r r12, er4, kval p r r12, ?_⟩
    refine ⟨szle (by simp), fun b4 nb4 => ?_⟩
    refine ⟨l4, b4, ((([kb r 0, kb r 1, kb r 2] ++ [kb r 3, kb r 4, kb r 5]) ++ [kb r 6, kb r 7, kb r 8]) ++ [kb r 9, kb r 10, kb r 11]).map V.bl, [true].map V.bl, rfl, rfl, same_upd nb4 _ _ I4.2.2, upd_same, big _ _ (by simp), fun l5 n5 => ?_⟩
    have I5 := I4.more (zs := [true]) nb4 n5
    exact q _ _ _ rfl I5.1 I5.new
/-- any value -/
def Va (d : D) : Prop := Sh 5 3000 d ∧ nl d ≤ 3
def w__law_ps_value : Tw := fun ds Q => ds = [] ∧ ∀ d : D, Va d → Q d
theorem ar__law_ps_value : ∀ ds G, w__law_ps_value ds G → ds.length + 1 = 1 := by
  rintro ds G ⟨rfl, _⟩
  rfl
def kr__law_ps_value_1 : KS := (kRet (kIx true (kLit (.list [.none, (.bool true), (.tuple []), (.list []), (.int 0)])) (kCallP 1 w__law_coin 1 (kCons (kVar 0) (kCons (kC (.int 5)) kNil)))))
def kr__law_ps_value_2 : KS := (kSeq (kIfS (kTest (kOp (vEq false) (kVar 1) (kC (.int 3))))
  (kRet (kOp (vI noC fun i j => i - j) (kCallP 1 w__law_coin 1 (kCons (kVar 0) (kCons (kOp (vI CPowW fun i j => i ^ j.toNat) (kC (.int 10)) (kC (.int 30))) kNil))) (kOp (vI CPowW fun i j => i ^ j.toNat) (kC (.int 10)) (kC (.int 29)))))
  kNext)
  kr__law_ps_value_1)
def kr__law_ps_value_3 : KS := (kSeq (kIfS (kTest (kOp (vEq false) (kVar 1) (kC (.int 2))))
  (kRet (kCallP 4 w__law_ps_text 0 (kCons (kVar 0) kNil)))
  kNext)
  kr__law_ps_value_2)
def kr__law_ps_value_4 : KS := (kSeq (kIfS (kTest (kOp (vEq false) (kVar 1) (kC (.int 1))))
  (kRet (kMk false 2 (kCons (kCallP 1 w__law_coin 1 (kCons (kVar 0) (kCons (kC (.int 9)) kNil))) (kCons (kLit (.list [(.int 1), (.list [(.int 2)])])) kNil))))
  kNext)
  kr__law_ps_value_3)
def kr__law_ps_value_5 : KS := (kSeq (kIfS (kTest (kOp (vEq false) (kVar 1) (kC (.int 0))))
  (kRet (kMk true 2 (kCons (kCallP 1 w__law_coin 1 (kCons (kVar 0) (kCons (kOp (vI CPowW fun i j => i ^ j.toNat) (kC (.int 10)) (kC (.int 6))) kNil))) (kCons (kLit (.list [])) kNil))))
  kNext)
  kr__law_ps_value_4)
def k__law_ps_value : KS := (kSeq (kAsg (kCallP 1 w__law_coin 1 (kCons (kVar 0) (kCons (kC (.int 7)) kNil))) (kgName 1))
  kr__law_ps_value_5)
local macro_rules | `(tactic| walk_at "go") => `(tactic| ((first | unfold kr__law_ps_value_1 | unfold kr__law_ps_value_2 | unfold kr__law_ps_value_3 | unfold kr__law_ps_value_4 | unfold kr__law_ps_value_5); walk_at "ev"))
theorem va_int {i : Int} (h : i.natAbs < 2 ^ 200) : Va (.int i) := ⟨(sh_int h).mono (by decide) (by decide), by simp [nl]⟩
theorem va_0 {i : Int} (h : i.natAbs < 2 ^ 200) : Va (.list [.int i, .list []]) := by
  refine ⟨⟨?_, ?_, ?_⟩, by simp [nl, nls]⟩
  · have := (sh_int h).sh
    simp [PyData.showable, PyData.showableAll] at this ⊢
    exact this
  · simp [PyData.depth, PyData.depthAll]
  · have := (sh_int h).wd
    simp [G.wd, wds] at this ⊢
    omega
theorem va_1 {i : Int} (h : i.natAbs < 2 ^ 200) : Va (.tuple [.int i, .list [.int 1, .list [.int 2]]]) := by
  refine ⟨⟨?_, ?_, ?_⟩, by simp [nl, nls]⟩
  · have := (sh_int h).sh
    have h1 := (sh_int (i := 1) (by decide)).sh
    have h2 := (sh_int (i := 2) (by decide)).sh
    simp [PyData.showable, PyData.showableAll] at this h1 h2 ⊢
    exact ⟨this, h1, h2⟩
  · simp [PyData.depth, PyData.depthAll]
  · have := (sh_int h).wd
    have h1 := (sh_int (i := 1) (by decide)).wd
    have h2 := (sh_int (i := 2) (by decide)).wd
    simp [G.wd, wds] at this h1 h2 ⊢
    omega
theorem val__law_ps_value : ∀ ds G, w__law_ps_value ds G → k__law_ps_value ⟨.pu :: (ds.map Sl.fz ++ [.jk]), [], 10⟩ (edP G) := by
  rintro ds Gq ⟨rfl, q⟩
  unfold k__law_ps_value
  walk_at "ev"
  refine ⟨⟨by decide, by decide⟩, 7, rfl, by decide, by decide, fun r r0 r1 => ?_⟩
  walk_at "ev"
  walk_at "go"
  refine iteB (fun c => ?_) (fun _ => ?_)
  · walk_at "ev"
    refine ⟨by unfold CPowW; decide, ⟨by decide, by decide⟩, 10 ^ 6, rfl, by decide, by decide, fun x x0 x1 => ⟨by decide, q _ (va_0 ?_)⟩⟩
    have : (2 : Nat) ^ 200 = 1606938044258990275541962092341162602522202993782792835301376 := by decide
    omega
  · walk_at "go"
    refine iteB (fun c => ?_) (fun _ => ?_)
    · walk_at "ev"
      refine ⟨⟨by decide, by decide⟩, 9, rfl, by decide, by decide, fun x x0 x1 => ⟨by decide, q _ (va_1 ?_)⟩⟩
      have : (2 : Nat) ^ 200 = 1606938044258990275541962092341162602522202993782792835301376 := by decide
      omega
    · walk_at "go"
      refine iteB (fun c => ?_) (fun _ => ?_)
      · walk_at "ev"
        refine ⟨⟨by decide, by decide⟩, rfl, fun x hx => ⟨by decide, q _ ⟨(sh_txt hx).mono (by decide) (by decide), by simp [nl]⟩⟩⟩
      · walk_at "go"
        refine iteB (fun c => ?_) (fun _ => ?_)
        · walk_at "ev"
          refine ⟨by unfold CPowW; decide, ⟨by decide, by decide⟩, 10 ^ 30, rfl, by decide, by decide, fun x x0 x1 => ⟨by unfold CPowW; decide, ?_⟩⟩
          walk_at "ev"
          refine ⟨by decide, q _ (va_int ?_)⟩
          have : (2 : Nat) ^ 200 = 1606938044258990275541962092341162602522202993782792835301376 := by decide
          have e1 : (10 : Int) ^ 30 = 1000000000000000000000000000000 := by decide
          have e2 : (10 : Int) ^ (Int.toNat 29) = 100000000000000000000000000000 := by decide
          rw [e1] at x1
          rw [e2]
          omega
        · unfold kr__law_ps_value_1
          walk_at "ev"
          refine ⟨⟨by decide, by decide⟩, 5, rfl, by decide, by decide, fun x x0 x1 => ?_⟩
          walk_at "ev"
          refine ixD_any x0 (show x < 5 from x1) fun y hy => ?_
          refine ⟨by decide, q _ ?_⟩
          have m := List.mem_of_getElem? hy
          simp only [List.mem_cons, List.not_mem_nil, or_false] at m
          rcases m with rfl | rfl | rfl | rfl | rfl
          · exact ⟨sh_none.mono (by decide) (by decide), by simp [nl]⟩
          · exact ⟨(sh_bool _).mono (by decide) (by decide), by simp [nl]⟩
          · exact ⟨(sh_tuple (k := 1) (B := 1) (n := 0) (by simp) (by simp)).mono (by decide) (by decide), by simp [nl, nls]⟩
          · exact ⟨(sh_list (k := 1) (B := 1) (n := 0) (by simp) (by simp)).mono (by decide) (by decide), by simp [nl, nls]⟩
          · exact va_int (by decide)
theorem ok__law_ps_value (p : Prog K mg) : FnG P w K mg base CX0 3 p.f__law_ps_value p.fd__law_ps_value ["_law_sack"] (spP 10 w__law_ps_value) :=
  okP p.d__law_ps_value.F sc__law_ps_value (by decide) ar__law_ps_value (by decide) (fun cdv A outer s H E hg hr => ⟨_, (pss_cons (ps_set (i := 1) sc__law_ps_value.nd rfl (Or.inl rfl) (pe_callG ((ok__law_coin p).mono (by decide)) hg hr (by rfl) p.d__law_coin.gl p.d__law_coin.kp p.d__law_coin.bd pass0 (pa_cons (pv 0) (pa_cons pe_int pa_nil))))
      (pss_cons (ps_if (pt_cmpR op_eq (pv 1) pe_int (nomark _))
      (pss_one (ps_ret (pe_lst (pa_cons (pe_callG ((ok__law_coin p).mono (by decide)) hg hr (by rfl) p.d__law_coin.gl p.d__law_coin.kp p.d__law_coin.bd pass0 (pa_cons (pv 0) (pa_cons (pe_op op_powW pe_int pe_int) pa_nil))) (pa_cons (pe_lst pa_nil) pa_nil))))) pss_nil)
      (pss_cons (ps_if (pt_cmpR op_eq (pv 1) pe_int (nomark _))
      (pss_one (ps_ret (pe_tup (pa_cons (pe_callG ((ok__law_coin p).mono (by decide)) hg hr (by rfl) p.d__law_coin.gl p.d__law_coin.kp p.d__law_coin.bd pass0 (pa_cons (pv 0) (pa_cons pe_int pa_nil))) (pa_cons (pe_lst (pa_cons pe_int (pa_cons (pe_lst (pa_cons pe_int pa_nil)) pa_nil))) pa_nil))))) pss_nil)
      (pss_cons (ps_if (pt_cmpR op_eq (pv 1) pe_int (nomark _))
      (pss_one (ps_ret (pe_callG ((ok__law_ps_text p).mono (by decide)) hg hr (by rfl) p.d__law_ps_text.gl p.d__law_ps_text.kp p.d__law_ps_text.bd pass0 (pa_cons (pv 0) pa_nil)))) pss_nil)
      (pss_cons (ps_if (pt_cmpR op_eq (pv 1) pe_int (nomark _))
      (pss_one (ps_ret (pe_op op_sub (pe_callG ((ok__law_coin p).mono (by decide)) hg hr (by rfl) p.d__law_coin.gl p.d__law_coin.kp p.d__law_coin.bd pass0 (pa_cons (pv 0) (pa_cons (pe_op op_powW pe_int pe_int) pa_nil))) (pe_op op_powW pe_int pe_int)))) pss_nil)
      (pss_one (ps_ret (pe_ix ix_list (pe_lst (pa_cons pe_non (pa_cons pe_bl (pa_cons (pe_tup pa_nil) (pa_cons (pe_lst pa_nil) (pa_cons pe_int pa_nil)))))) (pe_callG ((ok__law_coin p).mono (by decide)) hg hr (by rfl) p.d__law_coin.gl p.d__law_coin.kp p.d__law_coin.bd pass0 (pa_cons (pv 0) (pa_cons pe_int pa_nil))) (fun _ _ => rfl))))))))),
    fun C xc => (so_seq (so_asg (so_callP (so_cons (so_var (i := 0)) (so_cons (so_c (sca_int _)) so_nil))) (so_gname (i := 1)))
      (so_seq (so_ifS (so_test (so_op sr_eq (so_var (i := 1)) (so_c (sca_int _))))
      (so_ret (so_lst (so_cons (so_callP (so_cons (so_var (i := 0)) (so_cons (so_op sr_I (so_c (sca_int _)) (so_c (sca_int _))) so_nil))) (so_cons (so_lit_lst so_lits_nil) so_nil)))) so_next)
      (so_seq (so_ifS (so_test (so_op sr_eq (so_var (i := 1)) (so_c (sca_int _))))
      (so_ret (so_tup (so_cons (so_callP (so_cons (so_var (i := 0)) (so_cons (so_c (sca_int _)) so_nil))) (so_cons (so_lit_lst (so_lits_cons (so_lit_c (sca_int _) rfl) (so_lits_cons (so_lit_lst (so_lits_cons (so_lit_c (sca_int _) rfl) so_lits_nil)) so_lits_nil))) so_nil)))) so_next)
      (so_seq (so_ifS (so_test (so_op sr_eq (so_var (i := 1)) (so_c (sca_int _))))
      (so_ret (so_callP (so_cons (so_var (i := 0)) so_nil))) so_next)
      (so_seq (so_ifS (so_test (so_op sr_eq (so_var (i := 1)) (so_c (sca_int _))))
      (so_ret (so_op sr_I0 (so_callP (so_cons (so_var (i := 0)) (so_cons (so_op sr_I (so_c (sca_int _)) (so_c (sca_int _))) so_nil))) (so_op sr_I (so_c (sca_int _)) (so_c (sca_int _))))) so_next)
      (so_ret (so_ixL (so_lit_lst (so_lits_cons (so_lit_c sca_non rfl) (so_lits_cons (so_lit_c (sca_bl _) rfl) (so_lits_cons (so_lit_tup so_lits_nil) (so_lits_cons (so_lit_lst so_lits_nil) (so_lits_cons (so_lit_c (sca_int _) rfl) so_lits_nil)))))) (so_callP (so_cons (so_var (i := 0)) (so_cons (so_c (sca_int _)) so_nil))))))))))⟩) val__law_ps_value
theorem knv (p : Prog K mg) (r : Nat) (hr : r < 12) : PySem.W.findIn K (.ref (ErC p r)) "value" = some none := by
  have e : r = 0 ∨ r = 1 ∨ r = 2 ∨ r = 3 ∨ r = 4 ∨ r = 5 ∨ r = 6 ∨ r = 7 ∨ r = 8 ∨ r = 9 ∨ r = 10 ∨ r = 11 := by omega
  rcases e with rfl | rfl | rfl | rfl | rfl | rfl | rfl | rfl | rfl | rfl | rfl | rfl
  · exact p.e_PileError.nv
  · exact p.e_InvalidEffect.nv
  · exact p.e_InvalidName.nv
  · exact p.e_DoubleName.nv
  · exact p.e_MixedBook.nv
  · exact p.e_UnknownWord.nv
  · exact p.e_InvalidStep.nv
  · exact p.e_InvalidNumber.nv
  · exact p.e_InvalidPlace.nv
  · exact p.e_TooShallow.nv
  · exact p.e_NothingToUndo.nv
  · exact p.e_Unreadable.nv
theorem kxf (p : Prog K mg) (r : Nat) (hr : r < 12) : XfC K (ErC p r) := ⟨(kexc p r hr).hg, (kexc p r hr).hk, (kexc p r hr).hs, (kexc p r hr).hd⟩
mutual
theorem rep_ls {H : Hp} : ∀ (d : D) (S : List Addr) (v : V), Rep H S v d → d.hasDict = false → ∀ a ∈ S, ∃ xs, H a = some (.lst xs)
  | .none, _, _, h, _ => by cases h; intro a z; cases z
  | .bool b, _, _, h, _ => by cases h; intro a z; cases z
  | .int i, _, _, h, _ => by cases h; intro a z; cases z
  | .str x, _, _, h, _ => by cases h; intro a z; cases z
  | .list ds, _, _, h, q => by
    cases h with
    | lst h1 h2 =>
      intro a z
      rcases List.mem_cons.mp z with rfl | z
      · exact ⟨_, h1⟩
      · exact reps_ls ds _ _ h2 (by simpa [PyData.hasDict] using q) a z
  | .tuple ds, _, _, h, q => by
    cases h with
    | tup h1 h2 => exact reps_ls ds _ _ h2 (by simpa [PyData.hasDict] using q)
  | .dict _, _, _, h, q => by simp [PyData.hasDict] at q
theorem reps_ls {H : Hp} : ∀ (ds : List D) (S : List Addr) (vs : List V), Reps H S vs ds → PyData.hasDictAll ds = false → ∀ a ∈ S, ∃ xs, H a = some (.lst xs)
  | [], _, _, h, _ => by cases h; intro a z; cases z
  | d :: ds, _, _, h, q => by
    have q' : d.hasDict = false ∧ PyData.hasDictAll ds = false := by simpa [PyData.hasDictAll] using q
    cases h with
    | cons h1 h2 =>
      intro a z
      rcases List.mem_append.mp z with z | z
      · exact rep_ls d _ _ h1 q'.1 a z
      · exact reps_ls ds _ _ h2 q'.2 a z
end
def FrU (u : Addr) (H H' : Hp) : Prop := ∀ a o, H a = some o → a ≠ u → H' a = some o
theorem fru_rep {u : Addr} {H H' : Hp} {S : List Addr} {v : V} {d : D} {c : Int} (f : FrU u H H') (pu : PuAt H u c) (hn : u ∉ S) (r : Rep H S v d) : Rep H' S v d := by
  obtain ⟨_, _, _, hu, _⟩ := pu
  exact Rep.mono (fun t vs e => f t _ e fun z => by rw [z, hu] at e; cases e) _ _ _ r fun a m o e => f a o e fun z => hn (z ▸ m)
theorem lst_exo {xs : List V} {a C : Addr} {d : Option Addr} (h : HO.lst xs = exo a C d) : False := by
  unfold exo at h
  cases h
theorem lst_exd {xs : List V} {a : Addr} {fs : List (Str × V)} (h : HO.lst xs = exd a fs) : False := by
  unfold exd at h
  cases h
/-- an error stays where all but lists stays -/
theorem era_keep {H H' : Hp} {a C : Addr} {v : V} (e : ErA H a C v) (f : ∀ b o, H b = some o → (∀ xs, H b ≠ some (.lst xs)) → H' b = some o) : ErA H' a C v := e.same fun b o z k => f b o z fun xs w => by
  rw [w] at z
  rcases k with ⟨dx, rfl⟩ | ⟨dx, rfl⟩
  · exact lst_exo (Option.some.inj z)
  · exact lst_exd (Option.some.inj z)
theorem fru_er {u : Addr} {H H' : Hp} {a C : Addr} {v : V} {c : Int} (f : FrU u H H') (pu : PuAt H u c) (e : ErA H a C v) : ErA H' a C v := era_keep e fun b o z k => f b o z fun w => by
  obtain ⟨_, _, _, hu, _⟩ := pu
  exact k _ (w ▸ hu)
def CoG (m : Int) (d : D) : Prop := ∃ x : Int, 0 ≤ x ∧ x < m ∧ d = .int x
theorem val_int {H : Hp} {S : List Addr} {v : V} {i : Int} (r : Rep H S v (.int i)) : v = .int i := by cases r; rfl
theorem val_bool {H : Hp} {S : List Addr} {v : V} {b : Bool} (r : Rep H S v (.bool b)) : v = .bl b := by cases r; rfl
theorem ki_app {H0 H1 : Hp} {l : Addr} {xs : List Bool} {z : Bool} (h : KI H0 H1 l xs) : KI H0 (upd H1 l (.lst (xs.map V.bl ++ [.bl z]))) l (xs ++ [z]) := by
  refine ⟨fun b o e => ?_, h.2.1, by rw [upd_same, List.map_append, List.map_singleton]⟩
  rw [upd_ne fun z => by rw [z, h.2.1] at e; cases e]
  exact h.1 _ _ e
theorem ki_rep {H0 H1 : Hp} {l : Addr} {xs : List Bool} (h : KI H0 H1 l xs) : Rep H1 [l] (.ref l) (.list (xs.map PyData.bool)) := .lst h.2.2 (reps_bls xs)
theorem yes_ok {σ : L2.St} {H : Hp} {A B : Hp → Prop} (h : A H) : tYes σ H fun b H3 => if b = true then A H3 else B H3 := iteT (A := A H) (B := B H) h
theorem same_ok {Hx : Hp} {S1 S2 : List Addr} {v1 v2 : V} {d : D} {Q : VK} (r1 : Rep Hx S1 v1 d) (r2 : Rep Hx S2 v2 d) (sh : Sh 60 10000000 d) (q : ∀ H', Same Hx H' → Q (.bl true) H') : spT w__law_ps_same [v1, v2] Hx Q E0 := by
  refine ⟨_, [d, d], fun x => x = .bool true, .cons r1 (.cons r2 .nil), ⟨d, d, rfl, rfl, sh, rfl⟩, fun e v H' ge sm nw => ?_⟩
  subst ge
  obtain ⟨_, rv, _, _⟩ := nw
  rw [val_bool rv]
  exact q H' sm
theorem ok__law_ps_right (p : Prog K mg) : FnG P w K mg base CX0 25 p.f__law_ps_right p.fd__law_ps_right ["_law_sack"] (spP 1000 fun ds Q => ds = [] ∧ Q (.bool true)) := by
  refine okG p.d__law_ps_right.F sc__law_ps_right (fun vs H Q E h => ?_) (fun cdv A outer s H vs Q E hg hr h => ?_)
  · obtain ⟨u, b, vs', S, ds, G, rfl, _, _, r, _, ⟨rfl, _⟩, _⟩ := h
    cases r
    rfl
  · obtain ⟨u, b, vs', S, ds, G, rfl, pu, hb, r, _, ⟨rfl, q⟩, k⟩ := h
    cases r
    refine ⟨_, (pss_cons (ps_for PassesOwn.never rfl (pi_range1 (by rfl) p.blt.range (pa_cons pe_int pa_nil)) (pg_name (i := 1) sc__law_ps_right.nd rfl (Or.inr rfl))
      (pss_cons (ps_par (i := 2) (j := 3) rfl sc__law_ps_right.nd rfl rfl (by decide) rfl rfl (pa_cons (pe_callG ((ok__law_ps_value p).mono (by decide)) hg hr (by rfl) p.d__law_ps_value.gl p.d__law_ps_value.kp p.d__law_ps_value.bd pass0 (pa_cons (pv 0) pa_nil)) (pa_cons (pe_callG ((ok__law_ps_value p).mono (by decide)) hg hr (by rfl) p.d__law_ps_value.gl p.d__law_ps_value.kp p.d__law_ps_value.bd pass0 (pa_cons (pv 0) pa_nil)) pa_nil)) (by rfl))
      (pss_cons (ps_set (i := 4) sc__law_ps_right.nd rfl (Or.inl rfl) (pe_callG ((ok__law_ps_error p).mono (by decide)) hg hr (by rfl) p.d__law_ps_error.gl p.d__law_ps_error.kp p.d__law_ps_error.bd pass0 (pa_cons (pv 1) (pa_cons (pv 2) (pa_cons (pe_cmpR op_eq (pe_callG ((ok__law_coin p).mono (by decide)) hg hr (by rfl) p.d__law_coin.gl p.d__law_coin.kp p.d__law_coin.bd pass0 (pa_cons (pv 0) (pa_cons pe_int pa_nil))) pe_int (nomark _)) pa_nil)))))
      (pss_cons (ps_set (i := 5) sc__law_ps_right.nd rfl (Or.inl rfl) (pe_callG ((ok__law_ps_error p).mono (by decide)) hg hr (by rfl) p.d__law_ps_error.gl p.d__law_ps_error.kp p.d__law_ps_error.bd pass0 (pa_cons (pe_callG ((ok__law_coin p).mono (by decide)) hg hr (by rfl) p.d__law_coin.gl p.d__law_coin.kp p.d__law_coin.bd pass0 (pa_cons (pv 0) (pa_cons pe_int pa_nil))) (pa_cons (pv 3) (pa_cons (pe_cmpR op_eq (pe_callG ((ok__law_coin p).mono (by decide)) hg hr (by rfl) p.d__law_coin.gl p.d__law_coin.kp p.d__law_coin.bd pass0 (pa_cons (pv 0) (pa_cons pe_int pa_nil))) pe_int (nomark _)) pa_nil)))))
      (pss_cons (ps_if (PW.pt (pw_or (pt_not (pt_val (pe_callG ((ok__law_ps_same p).mono (by decide)) hg hr (by rfl) p.d__law_ps_same.gl p.d__law_ps_same.kp p.d__law_ps_same.bd pass0 (pa_cons (pe_erV (pv 4)) (pa_cons (pv 2) pa_nil))))) (pw_or1 (pt_not (pt_val (pe_callG ((ok__law_ps_same p).mono (by decide)) hg hr (by rfl) p.d__law_ps_same.gl p.d__law_ps_same.kp p.d__law_ps_same.bd pass0 (pa_cons (pe_erV (pv 5)) (pa_cons (pv 3) pa_nil))))))))
      (pss_one (ps_ret pe_bl)) pss_nil)
      (pss_cons (ps_expr (pe_callG ((ok__law_ps_spoil p 24).mono (by decide)) hg hr (by rfl) p.d__law_ps_spoil.gl p.d__law_ps_spoil.kp p.d__law_ps_spoil.bd pass0 (pa_cons (pv 2) (pa_cons (pe_lst (pa_cons pe_int pa_nil)) pa_nil))))
      (pss_cons (ps_if (pt_not (pt_val (pe_callG ((ok__law_ps_same p).mono (by decide)) hg hr (by rfl) p.d__law_ps_same.gl p.d__law_ps_same.kp p.d__law_ps_same.bd pass0 (pa_cons (pe_erV (pv 4)) (pa_cons (pv 2) pa_nil)))))
      (pss_one (ps_ret pe_bl)) pss_nil)
      (pss_cons (ps_if (pt_not (pt_val (pe_callG ((ok__law_ps_same p).mono (by decide)) hg hr (by rfl) p.d__law_ps_same.gl p.d__law_ps_same.kp p.d__law_ps_same.bd pass0 (pa_cons (pe_erV (pv 5)) (pa_cons (pv 3) pa_nil)))))
      (pss_one (ps_ret pe_bl)) pss_nil)
      (pss_cons (ps_set (i := 6) sc__law_ps_right.nd rfl (Or.inl rfl) (pe_op op_cat (pe_lc (own := [("_law_sort_here", 7)]) (g := gName 7) (tt := tYes) rfl sc__law_ps_right.nd (pi_range1 (by rfl) p.blt.range (pa_cons pe_int pa_nil)) (blkOk_by (N := N__law_ps_right) (sc := defScope s__law_ps_right) (by decide +kernel)) (fun _ _ _ _ _ => pg_name (i := 7) sc__law_ps_right.nd rfl (Or.inl rfl)) (fun _ _ _ _ _ => pts_nil) (fun _ _ _ _ _ => (pe_or (pe_cmpR op_eq (pv 7) pe_int (nomark _)) (pe_one (pe_cmpR op_eq (pv 7) (pv 1) (nomark _)))))) (pe_lst (pa_cons pe_bl pa_nil))))
      (pss_one (ps_if (pt_not (pt_val (pe_callG ((ok__law_ps_same p).mono (by decide)) hg hr (by rfl) p.d__law_ps_same.gl p.d__law_ps_same.kp p.d__law_ps_same.bd pass0 (pa_cons (pe_callG ((ok__law_ps_kinds p).mono (by decide)) hg hr (by rfl) p.d__law_ps_kinds.gl p.d__law_ps_kinds.kp p.d__law_ps_kinds.bd pass0 (pa_cons (pv 4) pa_nil)) (pa_cons (pv 6) pa_nil)))))
      (pss_one (ps_ret pe_bl)) pss_nil)))))))))))
      (pss_one (ps_ret pe_bl))), ?_⟩
    refine ⟨12, rfl, by decide, by decide, ?_⟩
    refine for_range (fun i σ H1 => (∃ y1 y2 y3 y4 y5 y6 y7, σ = [some (.ref u), y1, y2, y3, y4, y5, y6, y7]) ∧ FrU u H H1 ∧ PuAt H1 u (b + 80 * i)) ⟨⟨none, none, none, none, none, none, none, rfl⟩, fun a o e _ => e, pu.le (by omega)⟩ (fun i σ H1 hi hI => ?_) (fun σ H1 hI => ?_)
    · obtain ⟨⟨y1, y2, y3, y4, y5, y6, y7, rfl⟩, f1, p1⟩ := hI
      have hi : i < 12 := hi
      rw [Int.zero_add]
      -- two values
      refine ⟨_, rfl, u, b + 80 * i, [], [], [], Va, rfl, p1, by omega, .nil, (fun z => nomatch z), ⟨rfl, fun d h => h⟩, fun d1 v1 H2 va1 f2 p2 n2 => ?_⟩
      refine ⟨_, rfl, u, _, [], [], [], Va, rfl, p2, by omega, .nil, (fun z => nomatch z), ⟨rfl, fun d h => h⟩, fun d2 v2 H3 va2 f3 p3 n3 => ?_⟩
      obtain ⟨S1, r1, nd1, fr1⟩ := n2
      obtain ⟨S2, r2, nd2, fr2⟩ := n3
      refine ⟨_, _, rfl, ?_⟩
      have dom2 := Rep.dom _ _ _ r1
      -- the first error
      refine ⟨_, rfl, _, rfl, ?_⟩
      refine ⟨_, rfl, u, _, [.int 2], [], [.int 2], CoG 2, rfl, p3, by omega, .cons (S := []) (.int 2) .nil, (fun z => nomatch z), ⟨2, rfl, by decide, by decide, fun x x0 x1 => ⟨x, x0, x1, rfl⟩⟩, fun dx vx H4 gx f4 p4 n4 => ?_⟩
      obtain ⟨x, x0, x1, rfl⟩ := gx
      obtain ⟨_, rx, _, _⟩ := n4
      obtain rfl := val_int rx
      refine ⟨rfl, ?_⟩
      refine ⟨i, v1, _, rfl, by omega, by omega, fun a1 H5 s5 na1 e1 => ?_⟩
      -- the second
      have p5 := p4.mono (s5 u)
      refine ⟨_, rfl, u, _, [.int 12], [], [.int 12], CoG 12, rfl, p5, by omega, .cons (S := []) (.int 12) .nil, (fun z => nomatch z), ⟨12, rfl, by decide, by decide, fun x x0 x1 => ⟨x, x0, x1, rfl⟩⟩, fun dt vt H6 gt f6 p6 n6 => ?_⟩
      obtain ⟨t, t0, t1, rfl⟩ := gt
      obtain ⟨_, rt, _, _⟩ := n6
      obtain rfl := val_int rt
      refine ⟨_, rfl, ?_⟩
      refine ⟨_, rfl, u, _, [.int 2], [], [.int 2], CoG 2, rfl, p6, by omega, .cons (S := []) (.int 2) .nil, (fun z => nomatch z), ⟨2, rfl, by decide, by decide, fun x x0 x1 => ⟨x, x0, x1, rfl⟩⟩, fun dy vy H7 gy f7 p7 n7 => ?_⟩
      obtain ⟨y, y0, y1, rfl⟩ := gy
      obtain ⟨_, ry, _, _⟩ := n7
      obtain rfl := val_int ry
      obtain ⟨tn, rfl⟩ : ∃ tn : Nat, t = tn := ⟨t.toNat, by omega⟩
      have t1 : (tn : Int) < 12 := t1
      refine ⟨rfl, ?_⟩
      refine ⟨tn, v2, _, rfl, by omega, by omega, fun a2 H8 s8 na2 e2 => ?_⟩
      have p8 := p7.mono (s8 u)
      -- where all stands
      have u1 : u ∉ S1 := fun z => by
        obtain ⟨_, _, _, e, _⟩ := p1
        rw [fr1 _ z] at e
        cases e
      have u2 : u ∉ S2 := fun z => by
        obtain ⟨_, _, _, e, _⟩ := p2
        rw [fr2 _ z] at e
        cases e
      have r1 : Rep H8 S1 v1 d1 := (fru_rep f7 p6 u1 (fru_rep f6 p5 u1 ((fru_rep f4 p3 u1 (fru_rep f3 p2 u1 r1)).same s5))).same s8
      have r2 : Rep H8 S2 v2 d2 := (fru_rep f7 p6 u2 (fru_rep f6 p5 u2 ((fru_rep f4 p3 u2 r2).same s5))).same s8
      have e1 : ErA H8 a1 (ErC p i) v1 := (fru_er f7 p6 (fru_er f6 p5 e1)).same fun b o z _ => s8 _ _ z
      have i12 : i < 12 := hi
      have t12 : tn < 12 := by omega
      have sh1 : Sh 60 10000000 d1 := va1.1.mono (by decide) (by decide)
      have sh2 : Sh 60 10000000 d2 := va2.1.mono (by decide) (by decide)
      refine ⟨_, rfl, a1, _, v1, rfl, kxf p i i12, knv p i i12, e1, ?_⟩
      refine ⟨_, rfl, same_ok r1 r1 sh1 fun H9 s9 => ?_⟩
      refine ⟨_, rfl, iteF ?_⟩
      refine ⟨_, rfl, a2, _, v2, rfl, kxf p tn t12, knv p tn t12, e2.same fun b o z _ => s9 _ _ z, ?_⟩
      refine ⟨_, rfl, same_ok (r2.same s9) (r2.same s9) sh2 fun H10 s10 => ?_⟩
      refine ⟨_, rfl, iteF ?_⟩
      have s810 := s9.trans s10
      -- spoil
      have ra1 := r1.same s810
      have ra2 := r2.same s810
      have ea1 : ErA H10 a1 (ErC p i) v1 := e1.same fun b o z _ => s810 _ _ z
      have ea2 : ErA H10 a2 (ErC p tn) v2 := e2.same fun b o z _ => s810 _ _ z
      have p10 := p8.mono (s810 u)
      have nd1' := nd_wd d1 (by have := sh1.wd; omega)
      have cells := rep_ls d1 S1 v1 ra1 nd1'
      have live := Rep.dom _ _ _ ra1
      refine ⟨_, rfl, szle (by simp), fun l nl => ?_⟩
      have l1 : l ∉ S1 := fun z => by
        obtain ⟨o, e⟩ := live l z
        rw [nl] at e
        cases e
      refine ⟨v1, l, d1, 0, S1, rfl, ra1.same (same_upd nl), nd1, l1, upd_same, by have := sh1.dp; have := va1.1.dp; omega, by have := sh1.wd; omega, fun H11 f11' r11 hl11 => ?_⟩
      have f11 : ∀ a o, H10 a = some o → a ∉ S1 → H11 a = some o := fun a o e m => f11' a o (same_upd nl _ _ e) m fun z => by rw [z, nl] at e; cases e
      have ea1 : ErA H11 a1 (ErC p i) v1 := era_keep ea1 fun b o z k => f11 b o z fun m => by
        obtain ⟨xs, e⟩ := cells b m
        exact k xs e
      have ea2 : ErA H11 a2 (ErC p tn) v2 := era_keep ea2 fun b o z k => f11 b o z fun m => by
        obtain ⟨xs, e⟩ := cells b m
        exact k xs e
      have S12 : ∀ a ∈ S2, a ∉ S1 := fun a m2 m1 => by
        have e := fr2 a m2
        obtain ⟨o, e'⟩ := dom2 a m1
        rw [e] at e'
        cases e'
      have rb2 : Rep H11 S2 v2 d2 := Rep.mono (fun t vs e => f11 t _ e fun m => by
        obtain ⟨xs, e'⟩ := cells t m
        rw [e] at e'
        cases e') _ _ _ ra2 fun a m o e => f11 a o e (S12 a m)
      have p11 : PuAt H11 u _ := p10.mono fun o e => f11 u o e u1
      have sh1' : Sh 60 10000000 (spD d1 0).1 := (sp_Sh va1.1 (by have := va1.2; omega)).mono (by decide) (by have := va1.2; omega)
      refine ⟨_, rfl, a1, _, v1, rfl, kxf p i i12, knv p i i12, ea1, ?_⟩
      refine ⟨_, rfl, same_ok r11 r11 sh1' fun H12 s12 => ?_⟩
      refine ⟨_, rfl, iteF ?_⟩
      refine ⟨_, rfl, a2, _, v2, rfl, kxf p tn t12, knv p tn t12, ea2.same fun b o z _ => s12 _ _ z, ?_⟩
      refine ⟨_, rfl, same_ok (rb2.same s12) (rb2.same s12) sh2 fun H13 s13 => ?_⟩
      refine ⟨_, rfl, iteF ?_⟩
      have s1113 := s12.trans s13
      -- the due
      refine ⟨12, rfl, by decide, by decide, fun D nD => ?_⟩
      refine lc_range (fun k Hk => KI H13 Hk D ((List.range k).map fun s => kb i s)) (KI.one (xs := []) nD) (fun k Hk hk I => ?_) (fun Hk I => ?_)
      · rw [Int.zero_add]
        have go : ∀ z : Bool, z = kb i k → ∃ acc, Hk D = some (HO.lst acc) ∧ acc.length < sizeLine ∧ KI H13 (upd Hk D (HO.lst (acc ++ [.bl z]))) D (List.map (fun s => kb i s) (List.range (k + 1))) := fun z ez => by
          refine ⟨_, I.2.2, szlt (by rw [List.length_map, List.length_map, List.length_range]; omega), ?_⟩
          have := ki_app (z := z) I
          rw [List.range_succ, List.map_append, List.map_singleton, ← ez]
          exact this
        refine ⟨rfl, ?_⟩
        refine yes_ok ?_
        refine ⟨_, rfl, rfl, _, rfl, ?_⟩
        rw [dec_eq_int]
        by_cases c : k = 0
        · subst c
          refine iteT ?_
          exact go true (by simp [kb])
        · have e1 : decide ((k : Int) = 0) = false := decide_eq_false (by omega)
          rw [e1]
          refine iteF ?_
          refine ⟨_, rfl, _, rfl, rfl, ?_⟩
          refine go _ ?_
          rw [dec_eq_int]
          unfold kb
          rw [decide_eq_false c, Bool.false_or]
          exact decide_eq_decide.mpr (by omega)
      · have I : KI H13 Hk D ((List.range 12).map fun s => kb i s) := I
        refine ⟨szle (by simp), fun b1 nb => ?_⟩
        refine ⟨D, b1, ((List.range 12).map fun s => kb i s).map V.bl, [true].map V.bl, rfl, rfl, same_upd nb _ _ I.2.2, upd_same, szle (by simp), fun m nm => ?_⟩
        have J := I.more (zs := [true]) nb nm
        have ea := (ea1.same fun b o z _ => s1113 _ _ z : ErA H13 a1 (ErC p i) v1)
        refine ⟨_, rfl, a1, i, v1, rfl, i12, J.er ea, fun d v' H14 ed s14 nw => ?_⟩
        subst ed
        obtain ⟨S', rk, _, _⟩ := nw
        refine ⟨_, rfl, same_ok rk ((ki_rep J).same s14) ?_ fun H15 s15 => ?_⟩
        · refine (sh_list (k := 1) (B := 5) (n := 13) (fun x hx => ?_) (by simp)).mono (by decide) (by decide)
          obtain ⟨y, _, rfl⟩ := List.mem_map.mp hx
          exact sh_bool y
        · refine ⟨_, rfl, iteF ?_⟩
          refine ⟨⟨_, _, _, _, _, _, _, rfl⟩, fun a o e ne => ?_, ?_⟩
          · have e1 := f1 a o e ne
            have ns : a ∉ S1 := fun m => by
              rw [fr1 a m] at e1
              cases e1
            have e7 := f7 _ _ (f6 _ _ (s5 _ _ (f4 _ _ (f3 _ _ (f2 _ _ e1 ne) ne) ne)) ne) ne
            exact s15 _ _ (s14 _ _ (J.1 _ _ (s1113 _ _ (f11 _ _ (s810 _ _ (s8 _ _ e7)) ns))))
          · refine ((p11.mono fun o e => s15 _ _ (s14 _ _ (J.1 _ _ (s1113 _ _ e)))) : PuAt H15 u _).le ?_
            omega
    · obtain ⟨⟨y1, y2, y3, y4, y5, y6, y7, rfl⟩, f1, p1⟩ := hI
      exact k _ _ _ q f1 (p1.le (by omega)) ⟨[], .bl true, by simp, by simp⟩
def spLaw (K : PySem.W.Frag) : Sp := fun vs H Q _ => ∃ (a : Addr) (ns : List Int), vs = [.ref a] ∧ SqL K H a (ns.map V.int) ∧ ns.length ≤ 63 ∧ (∀ z ∈ ns, Builtin.Int.intBits z ≤ 1048576) ∧ ∀ H', Q (.bl true) H'
theorem ok_law (p : Prog K mg) : FnG P w K mg base CX0 26 p.f_law p.fd_law ["_law_script"] (spLaw K) := by
  refine okG p.d_law.F sc_law (fun vs H Q E h => ?_) (fun cdv A outer s H vs Q E hg hr h => ?_)
  · obtain ⟨a, ns, rfl, _⟩ := h
    rfl
  · obtain ⟨a, ns, rfl, hs, hl, hb, q⟩ := h
    refine ⟨_, (pss_cons (ps_for PassesOwn.never rfl (pi_range1 (by rfl) p.blt.range (pa_cons (pe_callB (call_max2 rfl) (by rfl) p.blt.max (by decide +kernel) (pa_cons pe_int (pa_cons (pe_callB (call_min2 rfl) (by rfl) p.blt.min (by decide +kernel) (pa_cons pe_int (pa_cons (pe_callB call_len_seq (by rfl) p.blt.len PySem.boot_len (pa_cons (pv 0) pa_nil)) pa_nil))) pa_nil))) pa_nil)) (pg_name (i := 1) sc_law.nd rfl (Or.inl rfl))
      (pss_one (ps_if (pt_not (pt_val (pe_callG ((ok__law_ps_right p).mono (by decide)) hg hr (by rfl) p.d__law_ps_right.gl p.d__law_ps_right.kp p.d__law_ps_right.bd pass0 (pa_cons (pe_callG ((ok__law_ps_sack p).mono (by decide)) hg hr (by rfl) p.d__law_ps_sack.gl p.d__law_ps_sack.kp p.d__law_ps_sack.bd pass0 (pa_cons (pv 0) (pa_cons (pv 1) pa_nil))) pa_nil))))
      (pss_one (ps_ret pe_bl)) pss_nil)))
      (pss_one (ps_ret pe_bl))), ?_⟩
    refine ⟨_, rfl, a, _, rfl, .inl hs, _, _, rfl, _, _, rfl, ?_⟩
    rw [ints_len]
    refine ⟨_, rfl, by split <;> split <;> omega, by split <;> split <;> omega, ?_⟩
    refine for_range (fun i σ H1 => ∃ y1, σ = [some (.ref a), y1] ∧ Same H H1) ⟨none, rfl, Same.refl _⟩ (fun i σ H1 hi hI => ?_) (fun σ H1 hI => q _)
    obtain ⟨y1, rfl, sm⟩ := hI
    have hi' : i ≤ 64 := by
      revert hi
      split <;> split <;> omega
    -- right(sack(script, rank))
    refine ⟨_, rfl, _, rfl, a, ns, _, rfl, sm.seq hs, hl, hb, by omega, by omega, fun H2 u sm2 un pu => ?_⟩
    refine ⟨u, _, [], [], [], _, rfl, pu, by omega, .nil, (fun z => nomatch z), ⟨rfl, rfl⟩, fun d v H4 ed fr pu4 nw => ?_⟩
    subst ed
    obtain ⟨S, rp, _⟩ := nw
    cases rp
    refine ⟨_, rfl, iteF ?_⟩
    refine ⟨_, rfl, fun b o e => fr b o (sm2 b o (sm b o e)) fun z => ?_⟩
    rw [z] at e
    have := sm _ _ e
    rw [un] at this
    cases this
theorem all_mk {l : PySem.W.OpenLaw} {w : World} {K : PySem.W.Frag} {h : Heap} {mg : Str → Option Value} {fa : Addr} (X : K.In h) (G : h.Ns mainGlobals mg) (hfa : mg "law" = some (.ref fa))
    {f0 f1 f2 f3 f4 f5 f6 f7 f8 f9 f10 : Addr} {od0 an0 : Option Addr} {sl0 : Array (Option Value)} {oc0 kV0 dc0 pm0 cd0 ct0 : Value} {od1 an1 : Option Addr} {sl1 : Array (Option Value)} {oc1 kV1 dc1 pm1 cd1 ct1 : Value} {od2 an2 : Option Addr} {sl2 : Array (Option Value)} {oc2 kV2 dc2 pm2 cd2 ct2 : Value} {od3 an3 : Option Addr} {sl3 : Array (Option Value)} {oc3 kV3 dc3 pm3 cd3 ct3 : Value} {od4 an4 : Option Addr} {sl4 : Array (Option Value)} {oc4 kV4 dc4 pm4 cd4 ct4 : Value} {od5 an5 : Option Addr} {sl5 : Array (Option Value)} {oc5 kV5 dc5 pm5 cd5 ct5 : Value} {od6 an6 : Option Addr} {sl6 : Array (Option Value)} {oc6 kV6 dc6 pm6 cd6 ct6 : Value} {od7 an7 : Option Addr} {sl7 : Array (Option Value)} {oc7 kV7 dc7 pm7 cd7 ct7 : Value} {od8 an8 : Option Addr} {sl8 : Array (Option Value)} {oc8 kV8 dc8 pm8 cd8 ct8 : Value} {od9 an9 : Option Addr} {sl9 : Array (Option Value)} {oc9 kV9 dc9 pm9 cd9 ct9 : Value} {od10 an10 : Option Addr} {sl10 : Array (Option Value)} {oc10 kV10 dc10 pm10 cd10 ct10 : Value}
    (a0 : PySem.W.nsIn K mainGlobals "_law_coin" = some (some (.ref f0))) (l0 : K.lookup f0 = some ⟨oc0, od0, .func (PySem.W.fnOf "_law_coin" "_law_coin" (defArgs s__law_coin) (defBody s__law_coin) (defScope s__law_coin) .none kV0 dc0 pm0 an0 cd0 ct0), sl0⟩) (c0 : PySem.W.codeIn K cd0 "_law_coin" = true) (k0 : PySem.W.keepIn K (.ref f0) = true)
    (a1 : PySem.W.nsIn K mainGlobals "_law_ps_sack" = some (some (.ref f1))) (l1 : K.lookup f1 = some ⟨oc1, od1, .func (PySem.W.fnOf "_law_ps_sack" "_law_ps_sack" (defArgs s__law_ps_sack) (defBody s__law_ps_sack) (defScope s__law_ps_sack) .none kV1 dc1 pm1 an1 cd1 ct1), sl1⟩) (c1 : PySem.W.codeIn K cd1 "_law_ps_sack" = true) (k1 : PySem.W.keepIn K (.ref f1) = true)
    (a2 : PySem.W.nsIn K mainGlobals "_law_ps_same" = some (some (.ref f2))) (l2 : K.lookup f2 = some ⟨oc2, od2, .func (PySem.W.fnOf "_law_ps_same" "_law_ps_same" (defArgs s__law_ps_same) (defBody s__law_ps_same) (defScope s__law_ps_same) .none kV2 dc2 pm2 an2 cd2 ct2), sl2⟩) (c2 : PySem.W.codeIn K cd2 "_law_ps_same" = true) (k2 : PySem.W.keepIn K (.ref f2) = true)
    (a3 : PySem.W.nsIn K mainGlobals "_law_ps_spoil" = some (some (.ref f3))) (l3 : K.lookup f3 = some ⟨oc3, od3, .func (PySem.W.fnOf "_law_ps_spoil" "_law_ps_spoil" (defArgs s__law_ps_spoil) (defBody s__law_ps_spoil) (defScope s__law_ps_spoil) .none kV3 dc3 pm3 an3 cd3 ct3), sl3⟩) (c3 : PySem.W.codeIn K cd3 "_law_ps_spoil" = true) (k3 : PySem.W.keepIn K (.ref f3) = true)
    (a4 : PySem.W.nsIn K mainGlobals "_law_ps_text" = some (some (.ref f4))) (l4 : K.lookup f4 = some ⟨oc4, od4, .func (PySem.W.fnOf "_law_ps_text" "_law_ps_text" (defArgs s__law_ps_text) (defBody s__law_ps_text) (defScope s__law_ps_text) .none kV4 dc4 pm4 an4 cd4 ct4), sl4⟩) (c4 : PySem.W.codeIn K cd4 "_law_ps_text" = true) (k4 : PySem.W.keepIn K (.ref f4) = true)
    (a5 : PySem.W.nsIn K mainGlobals "_law_ps_later_error" = some (some (.ref f5))) (l5 : K.lookup f5 = some ⟨oc5, od5, .func (PySem.W.fnOf "_law_ps_later_error" "_law_ps_later_error" (defArgs s__law_ps_later_error) (defBody s__law_ps_later_error) (defScope s__law_ps_later_error) .none kV5 dc5 pm5 an5 cd5 ct5), sl5⟩) (c5 : PySem.W.codeIn K cd5 "_law_ps_later_error" = true) (k5 : PySem.W.keepIn K (.ref f5) = true)
    (a6 : PySem.W.nsIn K mainGlobals "_law_ps_error" = some (some (.ref f6))) (l6 : K.lookup f6 = some ⟨oc6, od6, .func (PySem.W.fnOf "_law_ps_error" "_law_ps_error" (defArgs s__law_ps_error) (defBody s__law_ps_error) (defScope s__law_ps_error) .none kV6 dc6 pm6 an6 cd6 ct6), sl6⟩) (c6 : PySem.W.codeIn K cd6 "_law_ps_error" = true) (k6 : PySem.W.keepIn K (.ref f6) = true)
    (a7 : PySem.W.nsIn K mainGlobals "_law_ps_kinds" = some (some (.ref f7))) (l7 : K.lookup f7 = some ⟨oc7, od7, .func (PySem.W.fnOf "_law_ps_kinds" "_law_ps_kinds" (defArgs s__law_ps_kinds) (defBody s__law_ps_kinds) (defScope s__law_ps_kinds) .none kV7 dc7 pm7 an7 cd7 ct7), sl7⟩) (c7 : PySem.W.codeIn K cd7 "_law_ps_kinds" = true) (k7 : PySem.W.keepIn K (.ref f7) = true)
    (a8 : PySem.W.nsIn K mainGlobals "_law_ps_value" = some (some (.ref f8))) (l8 : K.lookup f8 = some ⟨oc8, od8, .func (PySem.W.fnOf "_law_ps_value" "_law_ps_value" (defArgs s__law_ps_value) (defBody s__law_ps_value) (defScope s__law_ps_value) .none kV8 dc8 pm8 an8 cd8 ct8), sl8⟩) (c8 : PySem.W.codeIn K cd8 "_law_ps_value" = true) (k8 : PySem.W.keepIn K (.ref f8) = true)
    (a9 : PySem.W.nsIn K mainGlobals "_law_ps_right" = some (some (.ref f9))) (l9 : K.lookup f9 = some ⟨oc9, od9, .func (PySem.W.fnOf "_law_ps_right" "_law_ps_right" (defArgs s__law_ps_right) (defBody s__law_ps_right) (defScope s__law_ps_right) .none kV9 dc9 pm9 an9 cd9 ct9), sl9⟩) (c9 : PySem.W.codeIn K cd9 "_law_ps_right" = true) (k9 : PySem.W.keepIn K (.ref f9) = true)
    (a10 : PySem.W.nsIn K mainGlobals "law" = some (some (.ref f10))) (l10 : K.lookup f10 = some ⟨oc10, od10, .func (PySem.W.fnOf "law" "law" (defArgs s_law) (defBody s_law) (defScope s_law) .none kV10 dc10 pm10 an10 cd10 ct10), sl10⟩) (c10 : PySem.W.codeIn K cd10 "law" = true) (k10 : PySem.W.keepIn K (.ref f10) = true)
    (z0 : PySem.W.nsIn K mainGlobals "len" = some none)
    (z1 : PySem.W.nsIn K mainGlobals "range" = some none)
    (z2 : PySem.W.nsIn K mainGlobals "max" = some none)
    (z3 : PySem.W.nsIn K mainGlobals "min" = some none)
    (z4 : PySem.W.nsIn K mainGlobals "abs" = some none)
    (z5 : PySem.W.nsIn K mainGlobals "int" = some none)
    (z6 : PySem.W.nsIn K mainGlobals "list" = some none)
    (z7 : PySem.W.nsIn K mainGlobals "tuple" = some none)
    (z8 : PySem.W.nsIn K mainGlobals "repr" = some none)
    (z9 : PySem.W.nsIn K mainGlobals "all" = some none)
    (z10 : PySem.W.nsIn K mainGlobals "any" = some none)
    (z11 : PySem.W.nsIn K mainGlobals "sum" = some none)
    (z12 : PySem.W.nsIn K mainGlobals "sorted" = some none)
    (z13 : PySem.W.nsIn K mainGlobals "isinstance" = some none)
    (z14 : PySem.W.nsIn K mainGlobals "set" = some none)
    (z15 : PySem.W.nsIn K mainGlobals "enumerate" = some none)
    (z16 : PySem.W.nsIn K mainGlobals "zip" = some none)
    (z17 : PySem.W.nsIn K mainGlobals "str" = some none)
    (z18 : PySem.W.nsIn K mainGlobals "divmod" = some none)
    (z19 : PySem.W.nsIn K mainGlobals "dict" = some none)
    (z20 : PySem.W.nsIn K mainGlobals "bool" = some none)
    (z21 : PySem.W.nsIn K mainGlobals "reversed" = some none)
    {fI : Addr} {odI anI : Option Addr} {slI : Array (Option Value)} {ocI kVI dcI pmI cdI ctI : Value}
    (lI : K.lookup fI = some ⟨ocI, odI, .func (PySem.W.fnOf "__init__" "PileError.__init__" (defArgs s_VE) (defBody s_VE) (defScope s_VE) .none kVI dcI pmI anI cdI ctI), slI⟩) (cI : PySem.W.codeIn K cdI "PileError.__init__" = true) (kI : PySem.W.keepIn K (.ref fI) = true) (tI : PySem.W.typeIn K (.ref fI) = some (.type "function"))
    (gV : PySem.W.nsIn K mainGlobals "ValueError" = some none) (vV : PySem.W.findCls K (.type "ValueError") (.type "type") "__init__" = some (.val (.builtin "ValueError.__init__")))
    {E0 : Addr} {xnm0 xq0 xN0 xbs0 xbm0 xsn0 xsub0 xab0 xcol0 xdd0 xk0_0 xk1_0 xk2_0 xk3_0 xk5_0}
    (ea0 : PySem.W.nsIn K mainGlobals "DoubleName" = some (some (.ref E0))) (el0 : K.lookup E0 = some (PySem.excClassObj xnm0 xq0 E0 xN0 xbs0 xbm0 true xsn0 xsub0 xab0 xcol0 xdd0 xk0_0 xk1_0 xk2_0 xk3_0 xk5_0 "ValueError.__new__")) (er0 : PySem.HandSPX.refsVE xbm0 = true)
    (es0 : PySem.W.findIn K (.ref E0) "__setattr__" = some (some (.builtin "object.__setattr__"))) (eb0 : PySem.W.subIn K (.ref E0) (.type "BaseException") = some true) (et0 : PySem.W.typeIn K (.ref E0) = some (.type "type")) (ek0 : PySem.W.keepIn K (.ref E0) = true)
    (en0 : PySem.W.findIn K (.ref E0) "value" = some none) (ei0 : PySem.W.findIn K (.ref E0) "__init__" = some (some (.ref fI))) (ex0 : PySem.W.exmOne K (.ref E0) (.ref E0) = some true)
    (eg0 : PySem.W.findIn K (.ref E0) "__getattribute__" = some (some (.builtin "BaseException.__getattribute__"))) (eh0 : PySem.W.findIn K (.ref E0) "__getattr__" = some none) (ej0 : PySem.W.hasDictIn K E0 = true)
    {E1 : Addr} {xnm1 xq1 xN1 xbs1 xbm1 xsn1 xsub1 xab1 xcol1 xdd1 xk0_1 xk1_1 xk2_1 xk3_1 xk5_1}
    (ea1 : PySem.W.nsIn K mainGlobals "InvalidEffect" = some (some (.ref E1))) (el1 : K.lookup E1 = some (PySem.excClassObj xnm1 xq1 E1 xN1 xbs1 xbm1 true xsn1 xsub1 xab1 xcol1 xdd1 xk0_1 xk1_1 xk2_1 xk3_1 xk5_1 "ValueError.__new__")) (er1 : PySem.HandSPX.refsVE xbm1 = true)
    (es1 : PySem.W.findIn K (.ref E1) "__setattr__" = some (some (.builtin "object.__setattr__"))) (eb1 : PySem.W.subIn K (.ref E1) (.type "BaseException") = some true) (et1 : PySem.W.typeIn K (.ref E1) = some (.type "type")) (ek1 : PySem.W.keepIn K (.ref E1) = true)
    (en1 : PySem.W.findIn K (.ref E1) "value" = some none) (ei1 : PySem.W.findIn K (.ref E1) "__init__" = some (some (.ref fI))) (ex1 : PySem.W.exmOne K (.ref E1) (.ref E1) = some true)
    (eg1 : PySem.W.findIn K (.ref E1) "__getattribute__" = some (some (.builtin "BaseException.__getattribute__"))) (eh1 : PySem.W.findIn K (.ref E1) "__getattr__" = some none) (ej1 : PySem.W.hasDictIn K E1 = true)
    {E2 : Addr} {xnm2 xq2 xN2 xbs2 xbm2 xsn2 xsub2 xab2 xcol2 xdd2 xk0_2 xk1_2 xk2_2 xk3_2 xk5_2}
    (ea2 : PySem.W.nsIn K mainGlobals "InvalidName" = some (some (.ref E2))) (el2 : K.lookup E2 = some (PySem.excClassObj xnm2 xq2 E2 xN2 xbs2 xbm2 true xsn2 xsub2 xab2 xcol2 xdd2 xk0_2 xk1_2 xk2_2 xk3_2 xk5_2 "ValueError.__new__")) (er2 : PySem.HandSPX.refsVE xbm2 = true)
    (es2 : PySem.W.findIn K (.ref E2) "__setattr__" = some (some (.builtin "object.__setattr__"))) (eb2 : PySem.W.subIn K (.ref E2) (.type "BaseException") = some true) (et2 : PySem.W.typeIn K (.ref E2) = some (.type "type")) (ek2 : PySem.W.keepIn K (.ref E2) = true)
    (en2 : PySem.W.findIn K (.ref E2) "value" = some none) (ei2 : PySem.W.findIn K (.ref E2) "__init__" = some (some (.ref fI))) (ex2 : PySem.W.exmOne K (.ref E2) (.ref E2) = some true)
    (eg2 : PySem.W.findIn K (.ref E2) "__getattribute__" = some (some (.builtin "BaseException.__getattribute__"))) (eh2 : PySem.W.findIn K (.ref E2) "__getattr__" = some none) (ej2 : PySem.W.hasDictIn K E2 = true)
    {E3 : Addr} {xnm3 xq3 xN3 xbs3 xbm3 xsn3 xsub3 xab3 xcol3 xdd3 xk0_3 xk1_3 xk2_3 xk3_3 xk5_3}
    (ea3 : PySem.W.nsIn K mainGlobals "InvalidNumber" = some (some (.ref E3))) (el3 : K.lookup E3 = some (PySem.excClassObj xnm3 xq3 E3 xN3 xbs3 xbm3 true xsn3 xsub3 xab3 xcol3 xdd3 xk0_3 xk1_3 xk2_3 xk3_3 xk5_3 "ValueError.__new__")) (er3 : PySem.HandSPX.refsVE xbm3 = true)
    (es3 : PySem.W.findIn K (.ref E3) "__setattr__" = some (some (.builtin "object.__setattr__"))) (eb3 : PySem.W.subIn K (.ref E3) (.type "BaseException") = some true) (et3 : PySem.W.typeIn K (.ref E3) = some (.type "type")) (ek3 : PySem.W.keepIn K (.ref E3) = true)
    (en3 : PySem.W.findIn K (.ref E3) "value" = some none) (ei3 : PySem.W.findIn K (.ref E3) "__init__" = some (some (.ref fI))) (ex3 : PySem.W.exmOne K (.ref E3) (.ref E3) = some true)
    (eg3 : PySem.W.findIn K (.ref E3) "__getattribute__" = some (some (.builtin "BaseException.__getattribute__"))) (eh3 : PySem.W.findIn K (.ref E3) "__getattr__" = some none) (ej3 : PySem.W.hasDictIn K E3 = true)
    {E4 : Addr} {xnm4 xq4 xN4 xbs4 xbm4 xsn4 xsub4 xab4 xcol4 xdd4 xk0_4 xk1_4 xk2_4 xk3_4 xk5_4}
    (ea4 : PySem.W.nsIn K mainGlobals "InvalidPlace" = some (some (.ref E4))) (el4 : K.lookup E4 = some (PySem.excClassObj xnm4 xq4 E4 xN4 xbs4 xbm4 true xsn4 xsub4 xab4 xcol4 xdd4 xk0_4 xk1_4 xk2_4 xk3_4 xk5_4 "ValueError.__new__")) (er4 : PySem.HandSPX.refsVE xbm4 = true)
    (es4 : PySem.W.findIn K (.ref E4) "__setattr__" = some (some (.builtin "object.__setattr__"))) (eb4 : PySem.W.subIn K (.ref E4) (.type "BaseException") = some true) (et4 : PySem.W.typeIn K (.ref E4) = some (.type "type")) (ek4 : PySem.W.keepIn K (.ref E4) = true)
    (en4 : PySem.W.findIn K (.ref E4) "value" = some none) (ei4 : PySem.W.findIn K (.ref E4) "__init__" = some (some (.ref fI))) (ex4 : PySem.W.exmOne K (.ref E4) (.ref E4) = some true)
    (eg4 : PySem.W.findIn K (.ref E4) "__getattribute__" = some (some (.builtin "BaseException.__getattribute__"))) (eh4 : PySem.W.findIn K (.ref E4) "__getattr__" = some none) (ej4 : PySem.W.hasDictIn K E4 = true)
    {E5 : Addr} {xnm5 xq5 xN5 xbs5 xbm5 xsn5 xsub5 xab5 xcol5 xdd5 xk0_5 xk1_5 xk2_5 xk3_5 xk5_5}
    (ea5 : PySem.W.nsIn K mainGlobals "InvalidStep" = some (some (.ref E5))) (el5 : K.lookup E5 = some (PySem.excClassObj xnm5 xq5 E5 xN5 xbs5 xbm5 true xsn5 xsub5 xab5 xcol5 xdd5 xk0_5 xk1_5 xk2_5 xk3_5 xk5_5 "ValueError.__new__")) (er5 : PySem.HandSPX.refsVE xbm5 = true)
    (es5 : PySem.W.findIn K (.ref E5) "__setattr__" = some (some (.builtin "object.__setattr__"))) (eb5 : PySem.W.subIn K (.ref E5) (.type "BaseException") = some true) (et5 : PySem.W.typeIn K (.ref E5) = some (.type "type")) (ek5 : PySem.W.keepIn K (.ref E5) = true)
    (en5 : PySem.W.findIn K (.ref E5) "value" = some none) (ei5 : PySem.W.findIn K (.ref E5) "__init__" = some (some (.ref fI))) (ex5 : PySem.W.exmOne K (.ref E5) (.ref E5) = some true)
    (eg5 : PySem.W.findIn K (.ref E5) "__getattribute__" = some (some (.builtin "BaseException.__getattribute__"))) (eh5 : PySem.W.findIn K (.ref E5) "__getattr__" = some none) (ej5 : PySem.W.hasDictIn K E5 = true)
    {E6 : Addr} {xnm6 xq6 xN6 xbs6 xbm6 xsn6 xsub6 xab6 xcol6 xdd6 xk0_6 xk1_6 xk2_6 xk3_6 xk5_6}
    (ea6 : PySem.W.nsIn K mainGlobals "MixedBook" = some (some (.ref E6))) (el6 : K.lookup E6 = some (PySem.excClassObj xnm6 xq6 E6 xN6 xbs6 xbm6 true xsn6 xsub6 xab6 xcol6 xdd6 xk0_6 xk1_6 xk2_6 xk3_6 xk5_6 "ValueError.__new__")) (er6 : PySem.HandSPX.refsVE xbm6 = true)
    (es6 : PySem.W.findIn K (.ref E6) "__setattr__" = some (some (.builtin "object.__setattr__"))) (eb6 : PySem.W.subIn K (.ref E6) (.type "BaseException") = some true) (et6 : PySem.W.typeIn K (.ref E6) = some (.type "type")) (ek6 : PySem.W.keepIn K (.ref E6) = true)
    (en6 : PySem.W.findIn K (.ref E6) "value" = some none) (ei6 : PySem.W.findIn K (.ref E6) "__init__" = some (some (.ref fI))) (ex6 : PySem.W.exmOne K (.ref E6) (.ref E6) = some true)
    (eg6 : PySem.W.findIn K (.ref E6) "__getattribute__" = some (some (.builtin "BaseException.__getattribute__"))) (eh6 : PySem.W.findIn K (.ref E6) "__getattr__" = some none) (ej6 : PySem.W.hasDictIn K E6 = true)
    {E7 : Addr} {xnm7 xq7 xN7 xbs7 xbm7 xsn7 xsub7 xab7 xcol7 xdd7 xk0_7 xk1_7 xk2_7 xk3_7 xk5_7}
    (ea7 : PySem.W.nsIn K mainGlobals "NothingToUndo" = some (some (.ref E7))) (el7 : K.lookup E7 = some (PySem.excClassObj xnm7 xq7 E7 xN7 xbs7 xbm7 true xsn7 xsub7 xab7 xcol7 xdd7 xk0_7 xk1_7 xk2_7 xk3_7 xk5_7 "ValueError.__new__")) (er7 : PySem.HandSPX.refsVE xbm7 = true)
    (es7 : PySem.W.findIn K (.ref E7) "__setattr__" = some (some (.builtin "object.__setattr__"))) (eb7 : PySem.W.subIn K (.ref E7) (.type "BaseException") = some true) (et7 : PySem.W.typeIn K (.ref E7) = some (.type "type")) (ek7 : PySem.W.keepIn K (.ref E7) = true)
    (en7 : PySem.W.findIn K (.ref E7) "value" = some none) (ei7 : PySem.W.findIn K (.ref E7) "__init__" = some (some (.ref fI))) (ex7 : PySem.W.exmOne K (.ref E7) (.ref E7) = some true)
    (eg7 : PySem.W.findIn K (.ref E7) "__getattribute__" = some (some (.builtin "BaseException.__getattribute__"))) (eh7 : PySem.W.findIn K (.ref E7) "__getattr__" = some none) (ej7 : PySem.W.hasDictIn K E7 = true)
    {E8 : Addr} {xnm8 xq8 xN8 xbs8 xbm8 xsn8 xsub8 xab8 xcol8 xdd8 xk0_8 xk1_8 xk2_8 xk3_8 xk5_8}
    (ea8 : PySem.W.nsIn K mainGlobals "PileError" = some (some (.ref E8))) (el8 : K.lookup E8 = some (PySem.excClassObj xnm8 xq8 E8 xN8 xbs8 xbm8 true xsn8 xsub8 xab8 xcol8 xdd8 xk0_8 xk1_8 xk2_8 xk3_8 xk5_8 "ValueError.__new__")) (er8 : PySem.HandSPX.refsVE xbm8 = true)
    (es8 : PySem.W.findIn K (.ref E8) "__setattr__" = some (some (.builtin "object.__setattr__"))) (eb8 : PySem.W.subIn K (.ref E8) (.type "BaseException") = some true) (et8 : PySem.W.typeIn K (.ref E8) = some (.type "type")) (ek8 : PySem.W.keepIn K (.ref E8) = true)
    (en8 : PySem.W.findIn K (.ref E8) "value" = some none) (ei8 : PySem.W.findIn K (.ref E8) "__init__" = some (some (.ref fI))) (ex8 : PySem.W.exmOne K (.ref E8) (.ref E8) = some true)
    (eg8 : PySem.W.findIn K (.ref E8) "__getattribute__" = some (some (.builtin "BaseException.__getattribute__"))) (eh8 : PySem.W.findIn K (.ref E8) "__getattr__" = some none) (ej8 : PySem.W.hasDictIn K E8 = true)
    {E9 : Addr} {xnm9 xq9 xN9 xbs9 xbm9 xsn9 xsub9 xab9 xcol9 xdd9 xk0_9 xk1_9 xk2_9 xk3_9 xk5_9}
    (ea9 : PySem.W.nsIn K mainGlobals "TooShallow" = some (some (.ref E9))) (el9 : K.lookup E9 = some (PySem.excClassObj xnm9 xq9 E9 xN9 xbs9 xbm9 true xsn9 xsub9 xab9 xcol9 xdd9 xk0_9 xk1_9 xk2_9 xk3_9 xk5_9 "ValueError.__new__")) (er9 : PySem.HandSPX.refsVE xbm9 = true)
    (es9 : PySem.W.findIn K (.ref E9) "__setattr__" = some (some (.builtin "object.__setattr__"))) (eb9 : PySem.W.subIn K (.ref E9) (.type "BaseException") = some true) (et9 : PySem.W.typeIn K (.ref E9) = some (.type "type")) (ek9 : PySem.W.keepIn K (.ref E9) = true)
    (en9 : PySem.W.findIn K (.ref E9) "value" = some none) (ei9 : PySem.W.findIn K (.ref E9) "__init__" = some (some (.ref fI))) (ex9 : PySem.W.exmOne K (.ref E9) (.ref E9) = some true)
    (eg9 : PySem.W.findIn K (.ref E9) "__getattribute__" = some (some (.builtin "BaseException.__getattribute__"))) (eh9 : PySem.W.findIn K (.ref E9) "__getattr__" = some none) (ej9 : PySem.W.hasDictIn K E9 = true)
    {E10 : Addr} {xnm10 xq10 xN10 xbs10 xbm10 xsn10 xsub10 xab10 xcol10 xdd10 xk0_10 xk1_10 xk2_10 xk3_10 xk5_10}
    (ea10 : PySem.W.nsIn K mainGlobals "UnknownWord" = some (some (.ref E10))) (el10 : K.lookup E10 = some (PySem.excClassObj xnm10 xq10 E10 xN10 xbs10 xbm10 true xsn10 xsub10 xab10 xcol10 xdd10 xk0_10 xk1_10 xk2_10 xk3_10 xk5_10 "ValueError.__new__")) (er10 : PySem.HandSPX.refsVE xbm10 = true)
    (es10 : PySem.W.findIn K (.ref E10) "__setattr__" = some (some (.builtin "object.__setattr__"))) (eb10 : PySem.W.subIn K (.ref E10) (.type "BaseException") = some true) (et10 : PySem.W.typeIn K (.ref E10) = some (.type "type")) (ek10 : PySem.W.keepIn K (.ref E10) = true)
    (en10 : PySem.W.findIn K (.ref E10) "value" = some none) (ei10 : PySem.W.findIn K (.ref E10) "__init__" = some (some (.ref fI))) (ex10 : PySem.W.exmOne K (.ref E10) (.ref E10) = some true)
    (eg10 : PySem.W.findIn K (.ref E10) "__getattribute__" = some (some (.builtin "BaseException.__getattribute__"))) (eh10 : PySem.W.findIn K (.ref E10) "__getattr__" = some none) (ej10 : PySem.W.hasDictIn K E10 = true)
    {E11 : Addr} {xnm11 xq11 xN11 xbs11 xbm11 xsn11 xsub11 xab11 xcol11 xdd11 xk0_11 xk1_11 xk2_11 xk3_11 xk5_11}
    (ea11 : PySem.W.nsIn K mainGlobals "Unreadable" = some (some (.ref E11))) (el11 : K.lookup E11 = some (PySem.excClassObj xnm11 xq11 E11 xN11 xbs11 xbm11 true xsn11 xsub11 xab11 xcol11 xdd11 xk0_11 xk1_11 xk2_11 xk3_11 xk5_11 "ValueError.__new__")) (er11 : PySem.HandSPX.refsVE xbm11 = true)
    (es11 : PySem.W.findIn K (.ref E11) "__setattr__" = some (some (.builtin "object.__setattr__"))) (eb11 : PySem.W.subIn K (.ref E11) (.type "BaseException") = some true) (et11 : PySem.W.typeIn K (.ref E11) = some (.type "type")) (ek11 : PySem.W.keepIn K (.ref E11) = true)
    (en11 : PySem.W.findIn K (.ref E11) "value" = some none) (ei11 : PySem.W.findIn K (.ref E11) "__init__" = some (some (.ref fI))) (ex11 : PySem.W.exmOne K (.ref E11) (.ref E11) = some true)
    (eg11 : PySem.W.findIn K (.ref E11) "__getattribute__" = some (some (.builtin "BaseException.__getattribute__"))) (eh11 : PySem.W.findIn K (.ref E11) "__getattr__" = some none) (ej11 : PySem.W.hasDictIn K E11 = true)
    (isn : PySem.W.specialIn K (.builtin "object.__class__") "__get__" = some (some (.builtin "getset_descriptor.__get__"))) (ist : PySem.W.takesIn K (.builtin "object.__class__") = some true)
    (ia0 : PySem.W.findIn K (.ref E0) "__class__" = some (some (.builtin "object.__class__"))) (im0 : PySem.W.mroIn K E0 (.type "object") = some true)
    (ia1 : PySem.W.findIn K (.ref E1) "__class__" = some (some (.builtin "object.__class__"))) (im1 : PySem.W.mroIn K E1 (.type "object") = some true)
    (ia2 : PySem.W.findIn K (.ref E2) "__class__" = some (some (.builtin "object.__class__"))) (im2 : PySem.W.mroIn K E2 (.type "object") = some true)
    (ia3 : PySem.W.findIn K (.ref E3) "__class__" = some (some (.builtin "object.__class__"))) (im3 : PySem.W.mroIn K E3 (.type "object") = some true)
    (ia4 : PySem.W.findIn K (.ref E4) "__class__" = some (some (.builtin "object.__class__"))) (im4 : PySem.W.mroIn K E4 (.type "object") = some true)
    (ia5 : PySem.W.findIn K (.ref E5) "__class__" = some (some (.builtin "object.__class__"))) (im5 : PySem.W.mroIn K E5 (.type "object") = some true)
    (ia6 : PySem.W.findIn K (.ref E6) "__class__" = some (some (.builtin "object.__class__"))) (im6 : PySem.W.mroIn K E6 (.type "object") = some true)
    (ia7 : PySem.W.findIn K (.ref E7) "__class__" = some (some (.builtin "object.__class__"))) (im7 : PySem.W.mroIn K E7 (.type "object") = some true)
    (ia8 : PySem.W.findIn K (.ref E8) "__class__" = some (some (.builtin "object.__class__"))) (im8 : PySem.W.mroIn K E8 (.type "object") = some true)
    (ia9 : PySem.W.findIn K (.ref E9) "__class__" = some (some (.builtin "object.__class__"))) (im9 : PySem.W.mroIn K E9 (.type "object") = some true)
    (ia10 : PySem.W.findIn K (.ref E10) "__class__" = some (some (.builtin "object.__class__"))) (im10 : PySem.W.mroIn K E10 (.type "object") = some true)
    (ia11 : PySem.W.findIn K (.ref E11) "__class__" = some (some (.builtin "object.__class__"))) (im11 : PySem.W.mroIn K E11 (.type "object") = some true)
    (ki_DoubleName_DoubleName : PySem.W.kitOne K (.ref E0) (.ref E0) = some true)
    (ki_DoubleName_InvalidEffect : PySem.W.kitOne K (.ref E0) (.ref E1) = some false)
    (ki_DoubleName_InvalidName : PySem.W.kitOne K (.ref E0) (.ref E2) = some false)
    (ki_DoubleName_InvalidNumber : PySem.W.kitOne K (.ref E0) (.ref E3) = some false)
    (ki_DoubleName_InvalidPlace : PySem.W.kitOne K (.ref E0) (.ref E4) = some false)
    (ki_DoubleName_InvalidStep : PySem.W.kitOne K (.ref E0) (.ref E5) = some false)
    (ki_DoubleName_MixedBook : PySem.W.kitOne K (.ref E0) (.ref E6) = some false)
    (ki_DoubleName_NothingToUndo : PySem.W.kitOne K (.ref E0) (.ref E7) = some false)
    (ki_DoubleName_PileError : PySem.W.kitOne K (.ref E0) (.ref E8) = some true)
    (ki_DoubleName_TooShallow : PySem.W.kitOne K (.ref E0) (.ref E9) = some false)
    (ki_DoubleName_UnknownWord : PySem.W.kitOne K (.ref E0) (.ref E10) = some false)
    (ki_DoubleName_Unreadable : PySem.W.kitOne K (.ref E0) (.ref E11) = some false)
    (ki_DoubleName_ValueError : PySem.W.kitOne K (.ref E0) (.type "ValueError") = some true)
    (ki_InvalidEffect_DoubleName : PySem.W.kitOne K (.ref E1) (.ref E0) = some false)
    (ki_InvalidEffect_InvalidEffect : PySem.W.kitOne K (.ref E1) (.ref E1) = some true)
    (ki_InvalidEffect_InvalidName : PySem.W.kitOne K (.ref E1) (.ref E2) = some false)
    (ki_InvalidEffect_InvalidNumber : PySem.W.kitOne K (.ref E1) (.ref E3) = some false)
    (ki_InvalidEffect_InvalidPlace : PySem.W.kitOne K (.ref E1) (.ref E4) = some false)
    (ki_InvalidEffect_InvalidStep : PySem.W.kitOne K (.ref E1) (.ref E5) = some false)
    (ki_InvalidEffect_MixedBook : PySem.W.kitOne K (.ref E1) (.ref E6) = some false)
    (ki_InvalidEffect_NothingToUndo : PySem.W.kitOne K (.ref E1) (.ref E7) = some false)
    (ki_InvalidEffect_PileError : PySem.W.kitOne K (.ref E1) (.ref E8) = some true)
    (ki_InvalidEffect_TooShallow : PySem.W.kitOne K (.ref E1) (.ref E9) = some false)
    (ki_InvalidEffect_UnknownWord : PySem.W.kitOne K (.ref E1) (.ref E10) = some false)
    (ki_InvalidEffect_Unreadable : PySem.W.kitOne K (.ref E1) (.ref E11) = some false)
    (ki_InvalidEffect_ValueError : PySem.W.kitOne K (.ref E1) (.type "ValueError") = some true)
    (ki_InvalidName_DoubleName : PySem.W.kitOne K (.ref E2) (.ref E0) = some false)
    (ki_InvalidName_InvalidEffect : PySem.W.kitOne K (.ref E2) (.ref E1) = some false)
    (ki_InvalidName_InvalidName : PySem.W.kitOne K (.ref E2) (.ref E2) = some true)
    (ki_InvalidName_InvalidNumber : PySem.W.kitOne K (.ref E2) (.ref E3) = some false)
    (ki_InvalidName_InvalidPlace : PySem.W.kitOne K (.ref E2) (.ref E4) = some false)
    (ki_InvalidName_InvalidStep : PySem.W.kitOne K (.ref E2) (.ref E5) = some false)
    (ki_InvalidName_MixedBook : PySem.W.kitOne K (.ref E2) (.ref E6) = some false)
    (ki_InvalidName_NothingToUndo : PySem.W.kitOne K (.ref E2) (.ref E7) = some false)
    (ki_InvalidName_PileError : PySem.W.kitOne K (.ref E2) (.ref E8) = some true)
    (ki_InvalidName_TooShallow : PySem.W.kitOne K (.ref E2) (.ref E9) = some false)
    (ki_InvalidName_UnknownWord : PySem.W.kitOne K (.ref E2) (.ref E10) = some false)
    (ki_InvalidName_Unreadable : PySem.W.kitOne K (.ref E2) (.ref E11) = some false)
    (ki_InvalidName_ValueError : PySem.W.kitOne K (.ref E2) (.type "ValueError") = some true)
    (ki_InvalidNumber_DoubleName : PySem.W.kitOne K (.ref E3) (.ref E0) = some false)
    (ki_InvalidNumber_InvalidEffect : PySem.W.kitOne K (.ref E3) (.ref E1) = some false)
    (ki_InvalidNumber_InvalidName : PySem.W.kitOne K (.ref E3) (.ref E2) = some false)
    (ki_InvalidNumber_InvalidNumber : PySem.W.kitOne K (.ref E3) (.ref E3) = some true)
    (ki_InvalidNumber_InvalidPlace : PySem.W.kitOne K (.ref E3) (.ref E4) = some false)
    (ki_InvalidNumber_InvalidStep : PySem.W.kitOne K (.ref E3) (.ref E5) = some false)
    (ki_InvalidNumber_MixedBook : PySem.W.kitOne K (.ref E3) (.ref E6) = some false)
    (ki_InvalidNumber_NothingToUndo : PySem.W.kitOne K (.ref E3) (.ref E7) = some false)
    (ki_InvalidNumber_PileError : PySem.W.kitOne K (.ref E3) (.ref E8) = some true)
    (ki_InvalidNumber_TooShallow : PySem.W.kitOne K (.ref E3) (.ref E9) = some false)
    (ki_InvalidNumber_UnknownWord : PySem.W.kitOne K (.ref E3) (.ref E10) = some false)
    (ki_InvalidNumber_Unreadable : PySem.W.kitOne K (.ref E3) (.ref E11) = some false)
    (ki_InvalidNumber_ValueError : PySem.W.kitOne K (.ref E3) (.type "ValueError") = some true)
    (ki_InvalidPlace_DoubleName : PySem.W.kitOne K (.ref E4) (.ref E0) = some false)
    (ki_InvalidPlace_InvalidEffect : PySem.W.kitOne K (.ref E4) (.ref E1) = some false)
    (ki_InvalidPlace_InvalidName : PySem.W.kitOne K (.ref E4) (.ref E2) = some false)
    (ki_InvalidPlace_InvalidNumber : PySem.W.kitOne K (.ref E4) (.ref E3) = some false)
    (ki_InvalidPlace_InvalidPlace : PySem.W.kitOne K (.ref E4) (.ref E4) = some true)
    (ki_InvalidPlace_InvalidStep : PySem.W.kitOne K (.ref E4) (.ref E5) = some false)
    (ki_InvalidPlace_MixedBook : PySem.W.kitOne K (.ref E4) (.ref E6) = some false)
    (ki_InvalidPlace_NothingToUndo : PySem.W.kitOne K (.ref E4) (.ref E7) = some false)
    (ki_InvalidPlace_PileError : PySem.W.kitOne K (.ref E4) (.ref E8) = some true)
    (ki_InvalidPlace_TooShallow : PySem.W.kitOne K (.ref E4) (.ref E9) = some false)
    (ki_InvalidPlace_UnknownWord : PySem.W.kitOne K (.ref E4) (.ref E10) = some false)
    (ki_InvalidPlace_Unreadable : PySem.W.kitOne K (.ref E4) (.ref E11) = some false)
    (ki_InvalidPlace_ValueError : PySem.W.kitOne K (.ref E4) (.type "ValueError") = some true)
    (ki_InvalidStep_DoubleName : PySem.W.kitOne K (.ref E5) (.ref E0) = some false)
    (ki_InvalidStep_InvalidEffect : PySem.W.kitOne K (.ref E5) (.ref E1) = some false)
    (ki_InvalidStep_InvalidName : PySem.W.kitOne K (.ref E5) (.ref E2) = some false)
    (ki_InvalidStep_InvalidNumber : PySem.W.kitOne K (.ref E5) (.ref E3) = some false)
    (ki_InvalidStep_InvalidPlace : PySem.W.kitOne K (.ref E5) (.ref E4) = some false)
    (ki_InvalidStep_InvalidStep : PySem.W.kitOne K (.ref E5) (.ref E5) = some true)
    (ki_InvalidStep_MixedBook : PySem.W.kitOne K (.ref E5) (.ref E6) = some false)
    (ki_InvalidStep_NothingToUndo : PySem.W.kitOne K (.ref E5) (.ref E7) = some false)
    (ki_InvalidStep_PileError : PySem.W.kitOne K (.ref E5) (.ref E8) = some true)
    (ki_InvalidStep_TooShallow : PySem.W.kitOne K (.ref E5) (.ref E9) = some false)
    (ki_InvalidStep_UnknownWord : PySem.W.kitOne K (.ref E5) (.ref E10) = some false)
    (ki_InvalidStep_Unreadable : PySem.W.kitOne K (.ref E5) (.ref E11) = some false)
    (ki_InvalidStep_ValueError : PySem.W.kitOne K (.ref E5) (.type "ValueError") = some true)
    (ki_MixedBook_DoubleName : PySem.W.kitOne K (.ref E6) (.ref E0) = some false)
    (ki_MixedBook_InvalidEffect : PySem.W.kitOne K (.ref E6) (.ref E1) = some false)
    (ki_MixedBook_InvalidName : PySem.W.kitOne K (.ref E6) (.ref E2) = some false)
    (ki_MixedBook_InvalidNumber : PySem.W.kitOne K (.ref E6) (.ref E3) = some false)
    (ki_MixedBook_InvalidPlace : PySem.W.kitOne K (.ref E6) (.ref E4) = some false)
    (ki_MixedBook_InvalidStep : PySem.W.kitOne K (.ref E6) (.ref E5) = some false)
    (ki_MixedBook_MixedBook : PySem.W.kitOne K (.ref E6) (.ref E6) = some true)
    (ki_MixedBook_NothingToUndo : PySem.W.kitOne K (.ref E6) (.ref E7) = some false)
    (ki_MixedBook_PileError : PySem.W.kitOne K (.ref E6) (.ref E8) = some true)
    (ki_MixedBook_TooShallow : PySem.W.kitOne K (.ref E6) (.ref E9) = some false)
    (ki_MixedBook_UnknownWord : PySem.W.kitOne K (.ref E6) (.ref E10) = some false)
    (ki_MixedBook_Unreadable : PySem.W.kitOne K (.ref E6) (.ref E11) = some false)
    (ki_MixedBook_ValueError : PySem.W.kitOne K (.ref E6) (.type "ValueError") = some true)
    (ki_NothingToUndo_DoubleName : PySem.W.kitOne K (.ref E7) (.ref E0) = some false)
    (ki_NothingToUndo_InvalidEffect : PySem.W.kitOne K (.ref E7) (.ref E1) = some false)
    (ki_NothingToUndo_InvalidName : PySem.W.kitOne K (.ref E7) (.ref E2) = some false)
    (ki_NothingToUndo_InvalidNumber : PySem.W.kitOne K (.ref E7) (.ref E3) = some false)
    (ki_NothingToUndo_InvalidPlace : PySem.W.kitOne K (.ref E7) (.ref E4) = some false)
    (ki_NothingToUndo_InvalidStep : PySem.W.kitOne K (.ref E7) (.ref E5) = some false)
    (ki_NothingToUndo_MixedBook : PySem.W.kitOne K (.ref E7) (.ref E6) = some false)
    (ki_NothingToUndo_NothingToUndo : PySem.W.kitOne K (.ref E7) (.ref E7) = some true)
    (ki_NothingToUndo_PileError : PySem.W.kitOne K (.ref E7) (.ref E8) = some true)
    (ki_NothingToUndo_TooShallow : PySem.W.kitOne K (.ref E7) (.ref E9) = some false)
    (ki_NothingToUndo_UnknownWord : PySem.W.kitOne K (.ref E7) (.ref E10) = some false)
    (ki_NothingToUndo_Unreadable : PySem.W.kitOne K (.ref E7) (.ref E11) = some false)
    (ki_NothingToUndo_ValueError : PySem.W.kitOne K (.ref E7) (.type "ValueError") = some true)
    (ki_PileError_DoubleName : PySem.W.kitOne K (.ref E8) (.ref E0) = some false)
    (ki_PileError_InvalidEffect : PySem.W.kitOne K (.ref E8) (.ref E1) = some false)
    (ki_PileError_InvalidName : PySem.W.kitOne K (.ref E8) (.ref E2) = some false)
    (ki_PileError_InvalidNumber : PySem.W.kitOne K (.ref E8) (.ref E3) = some false)
    (ki_PileError_InvalidPlace : PySem.W.kitOne K (.ref E8) (.ref E4) = some false)
    (ki_PileError_InvalidStep : PySem.W.kitOne K (.ref E8) (.ref E5) = some false)
    (ki_PileError_MixedBook : PySem.W.kitOne K (.ref E8) (.ref E6) = some false)
    (ki_PileError_NothingToUndo : PySem.W.kitOne K (.ref E8) (.ref E7) = some false)
    (ki_PileError_PileError : PySem.W.kitOne K (.ref E8) (.ref E8) = some true)
    (ki_PileError_TooShallow : PySem.W.kitOne K (.ref E8) (.ref E9) = some false)
    (ki_PileError_UnknownWord : PySem.W.kitOne K (.ref E8) (.ref E10) = some false)
    (ki_PileError_Unreadable : PySem.W.kitOne K (.ref E8) (.ref E11) = some false)
    (ki_PileError_ValueError : PySem.W.kitOne K (.ref E8) (.type "ValueError") = some true)
    (ki_TooShallow_DoubleName : PySem.W.kitOne K (.ref E9) (.ref E0) = some false)
    (ki_TooShallow_InvalidEffect : PySem.W.kitOne K (.ref E9) (.ref E1) = some false)
    (ki_TooShallow_InvalidName : PySem.W.kitOne K (.ref E9) (.ref E2) = some false)
    (ki_TooShallow_InvalidNumber : PySem.W.kitOne K (.ref E9) (.ref E3) = some false)
    (ki_TooShallow_InvalidPlace : PySem.W.kitOne K (.ref E9) (.ref E4) = some false)
    (ki_TooShallow_InvalidStep : PySem.W.kitOne K (.ref E9) (.ref E5) = some false)
    (ki_TooShallow_MixedBook : PySem.W.kitOne K (.ref E9) (.ref E6) = some false)
    (ki_TooShallow_NothingToUndo : PySem.W.kitOne K (.ref E9) (.ref E7) = some false)
    (ki_TooShallow_PileError : PySem.W.kitOne K (.ref E9) (.ref E8) = some true)
    (ki_TooShallow_TooShallow : PySem.W.kitOne K (.ref E9) (.ref E9) = some true)
    (ki_TooShallow_UnknownWord : PySem.W.kitOne K (.ref E9) (.ref E10) = some false)
    (ki_TooShallow_Unreadable : PySem.W.kitOne K (.ref E9) (.ref E11) = some false)
    (ki_TooShallow_ValueError : PySem.W.kitOne K (.ref E9) (.type "ValueError") = some true)
    (ki_UnknownWord_DoubleName : PySem.W.kitOne K (.ref E10) (.ref E0) = some false)
    (ki_UnknownWord_InvalidEffect : PySem.W.kitOne K (.ref E10) (.ref E1) = some false)
    (ki_UnknownWord_InvalidName : PySem.W.kitOne K (.ref E10) (.ref E2) = some false)
    (ki_UnknownWord_InvalidNumber : PySem.W.kitOne K (.ref E10) (.ref E3) = some false)
    (ki_UnknownWord_InvalidPlace : PySem.W.kitOne K (.ref E10) (.ref E4) = some false)
    (ki_UnknownWord_InvalidStep : PySem.W.kitOne K (.ref E10) (.ref E5) = some false)
    (ki_UnknownWord_MixedBook : PySem.W.kitOne K (.ref E10) (.ref E6) = some false)
    (ki_UnknownWord_NothingToUndo : PySem.W.kitOne K (.ref E10) (.ref E7) = some false)
    (ki_UnknownWord_PileError : PySem.W.kitOne K (.ref E10) (.ref E8) = some true)
    (ki_UnknownWord_TooShallow : PySem.W.kitOne K (.ref E10) (.ref E9) = some false)
    (ki_UnknownWord_UnknownWord : PySem.W.kitOne K (.ref E10) (.ref E10) = some true)
    (ki_UnknownWord_Unreadable : PySem.W.kitOne K (.ref E10) (.ref E11) = some false)
    (ki_UnknownWord_ValueError : PySem.W.kitOne K (.ref E10) (.type "ValueError") = some true)
    (ki_Unreadable_DoubleName : PySem.W.kitOne K (.ref E11) (.ref E0) = some false)
    (ki_Unreadable_InvalidEffect : PySem.W.kitOne K (.ref E11) (.ref E1) = some false)
    (ki_Unreadable_InvalidName : PySem.W.kitOne K (.ref E11) (.ref E2) = some false)
    (ki_Unreadable_InvalidNumber : PySem.W.kitOne K (.ref E11) (.ref E3) = some false)
    (ki_Unreadable_InvalidPlace : PySem.W.kitOne K (.ref E11) (.ref E4) = some false)
    (ki_Unreadable_InvalidStep : PySem.W.kitOne K (.ref E11) (.ref E5) = some false)
    (ki_Unreadable_MixedBook : PySem.W.kitOne K (.ref E11) (.ref E6) = some false)
    (ki_Unreadable_NothingToUndo : PySem.W.kitOne K (.ref E11) (.ref E7) = some false)
    (ki_Unreadable_PileError : PySem.W.kitOne K (.ref E11) (.ref E8) = some true)
    (ki_Unreadable_TooShallow : PySem.W.kitOne K (.ref E11) (.ref E9) = some false)
    (ki_Unreadable_UnknownWord : PySem.W.kitOne K (.ref E11) (.ref E10) = some false)
    (ki_Unreadable_Unreadable : PySem.W.kitOne K (.ref E11) (.ref E11) = some true)
    (ki_Unreadable_ValueError : PySem.W.kitOne K (.ref E11) (.type "ValueError") = some true)
    : ∃ fd : FuncData, (∀ (s : Shared) (v : Value), BindsTo s fd ⟨[v], []⟩ [("_law_script", v)]) ∧ ∀ base : Heap, K.In base → base.Ns mainGlobals mg → FnG l.prog w K mg base CX0 26 fa fd ["_law_script"] (spLaw K) := by
  have e := hfa.symm.trans (PySem.W.mg_of X G a10)
  cases e
  exact ⟨PySem.W.fnOf "law" "law" (defArgs s_law) (defBody s_law) (defScope s_law) .none kV10 dc10 pm10 an10 cd10 ct10, fun s v => .of_eq rfl, fun base _ _ => ok_law (⟨⟨PySem.W.mg_none_of X G z0, PySem.W.mg_none_of X G z1, PySem.W.mg_none_of X G z2, PySem.W.mg_none_of X G z3, PySem.W.mg_none_of X G z4, PySem.W.mg_none_of X G z5, PySem.W.mg_none_of X G z6, PySem.W.mg_none_of X G z7, PySem.W.mg_none_of X G z8, PySem.W.mg_none_of X G z9, PySem.W.mg_none_of X G z10, PySem.W.mg_none_of X G z11, PySem.W.mg_none_of X G z12, PySem.W.mg_none_of X G z13, PySem.W.mg_none_of X G z14, PySem.W.mg_none_of X G z15, PySem.W.mg_none_of X G z16, PySem.W.mg_none_of X G z17, PySem.W.mg_none_of X G z18, PySem.W.mg_none_of X G z19, PySem.W.mg_none_of X G z20, PySem.W.mg_none_of X G z21⟩,
    f0, _, ⟨fun_mk (st := s__law_coin) l0 c0 k0, PySem.W.mg_of X G a0, (fun_mk (st := s__law_coin) l0 c0 k0).binds fun _ _ _ _ _ _ us hl => match us, hl with | [_, _], _ => rfl⟩,
    f1, _, ⟨fun_mk (st := s__law_ps_sack) l1 c1 k1, PySem.W.mg_of X G a1, (fun_mk (st := s__law_ps_sack) l1 c1 k1).binds fun _ _ _ _ _ _ us hl => match us, hl with | [_, _], _ => rfl⟩,
    f2, _, ⟨fun_mk (st := s__law_ps_same) l2 c2 k2, PySem.W.mg_of X G a2, (fun_mk (st := s__law_ps_same) l2 c2 k2).binds fun _ _ _ _ _ _ us hl => match us, hl with | [_, _], _ => rfl⟩,
    f3, _, ⟨fun_mk (st := s__law_ps_spoil) l3 c3 k3, PySem.W.mg_of X G a3, (fun_mk (st := s__law_ps_spoil) l3 c3 k3).binds fun _ _ _ _ _ _ us hl => match us, hl with | [_, _], _ => rfl⟩,
    f4, _, ⟨fun_mk (st := s__law_ps_text) l4 c4 k4, PySem.W.mg_of X G a4, (fun_mk (st := s__law_ps_text) l4 c4 k4).binds fun _ _ _ _ _ _ us hl => match us, hl with | [_], _ => rfl⟩,
    f5, _, ⟨fun_mk (st := s__law_ps_later_error) l5 c5 k5, PySem.W.mg_of X G a5, (fun_mk (st := s__law_ps_later_error) l5 c5 k5).binds fun _ _ _ _ _ _ us hl => match us, hl with | [_, _, _], _ => rfl⟩,
    f6, _, ⟨fun_mk (st := s__law_ps_error) l6 c6 k6, PySem.W.mg_of X G a6, (fun_mk (st := s__law_ps_error) l6 c6 k6).binds fun _ _ _ _ _ _ us hl => match us, hl with | [_, _, _], _ => rfl⟩,
    f7, _, ⟨fun_mk (st := s__law_ps_kinds) l7 c7 k7, PySem.W.mg_of X G a7, (fun_mk (st := s__law_ps_kinds) l7 c7 k7).binds fun _ _ _ _ _ _ us hl => match us, hl with | [_], _ => rfl⟩,
    f8, _, ⟨fun_mk (st := s__law_ps_value) l8 c8 k8, PySem.W.mg_of X G a8, (fun_mk (st := s__law_ps_value) l8 c8 k8).binds fun _ _ _ _ _ _ us hl => match us, hl with | [_], _ => rfl⟩,
    f9, _, ⟨fun_mk (st := s__law_ps_right) l9 c9 k9, PySem.W.mg_of X G a9, (fun_mk (st := s__law_ps_right) l9 c9 k9).binds fun _ _ _ _ _ _ us hl => match us, hl with | [_], _ => rfl⟩,
    fa, _, ⟨fun_mk (st := s_law) l10 c10 k10, PySem.W.mg_of X G a10, (fun_mk (st := s_law) l10 c10 k10).binds fun _ _ _ _ _ _ us hl => match us, hl with | [_], _ => rfl⟩,
    E0, fI, _, ⟨PySem.W.mg_of X G ea0, oex_mk el0 er0 es0 eb0 et0 ek0, en0, ei0, tI, fun_mk (st := s_VE) lI cI kI, (fun_mk (st := s_VE) lI cI kI).binds fun _ _ _ _ _ _ us hl => match us, hl with | [_, _], _ => rfl, ex0, PySem.W.mg_none_of X G gV, vV, ⟨eg0, eh0, eb0, ej0⟩⟩,
    E1, fI, _, ⟨PySem.W.mg_of X G ea1, oex_mk el1 er1 es1 eb1 et1 ek1, en1, ei1, tI, fun_mk (st := s_VE) lI cI kI, (fun_mk (st := s_VE) lI cI kI).binds fun _ _ _ _ _ _ us hl => match us, hl with | [_, _], _ => rfl, ex1, PySem.W.mg_none_of X G gV, vV, ⟨eg1, eh1, eb1, ej1⟩⟩,
    E2, fI, _, ⟨PySem.W.mg_of X G ea2, oex_mk el2 er2 es2 eb2 et2 ek2, en2, ei2, tI, fun_mk (st := s_VE) lI cI kI, (fun_mk (st := s_VE) lI cI kI).binds fun _ _ _ _ _ _ us hl => match us, hl with | [_, _], _ => rfl, ex2, PySem.W.mg_none_of X G gV, vV, ⟨eg2, eh2, eb2, ej2⟩⟩,
    E3, fI, _, ⟨PySem.W.mg_of X G ea3, oex_mk el3 er3 es3 eb3 et3 ek3, en3, ei3, tI, fun_mk (st := s_VE) lI cI kI, (fun_mk (st := s_VE) lI cI kI).binds fun _ _ _ _ _ _ us hl => match us, hl with | [_, _], _ => rfl, ex3, PySem.W.mg_none_of X G gV, vV, ⟨eg3, eh3, eb3, ej3⟩⟩,
    E4, fI, _, ⟨PySem.W.mg_of X G ea4, oex_mk el4 er4 es4 eb4 et4 ek4, en4, ei4, tI, fun_mk (st := s_VE) lI cI kI, (fun_mk (st := s_VE) lI cI kI).binds fun _ _ _ _ _ _ us hl => match us, hl with | [_, _], _ => rfl, ex4, PySem.W.mg_none_of X G gV, vV, ⟨eg4, eh4, eb4, ej4⟩⟩,
    E5, fI, _, ⟨PySem.W.mg_of X G ea5, oex_mk el5 er5 es5 eb5 et5 ek5, en5, ei5, tI, fun_mk (st := s_VE) lI cI kI, (fun_mk (st := s_VE) lI cI kI).binds fun _ _ _ _ _ _ us hl => match us, hl with | [_, _], _ => rfl, ex5, PySem.W.mg_none_of X G gV, vV, ⟨eg5, eh5, eb5, ej5⟩⟩,
    E6, fI, _, ⟨PySem.W.mg_of X G ea6, oex_mk el6 er6 es6 eb6 et6 ek6, en6, ei6, tI, fun_mk (st := s_VE) lI cI kI, (fun_mk (st := s_VE) lI cI kI).binds fun _ _ _ _ _ _ us hl => match us, hl with | [_, _], _ => rfl, ex6, PySem.W.mg_none_of X G gV, vV, ⟨eg6, eh6, eb6, ej6⟩⟩,
    E7, fI, _, ⟨PySem.W.mg_of X G ea7, oex_mk el7 er7 es7 eb7 et7 ek7, en7, ei7, tI, fun_mk (st := s_VE) lI cI kI, (fun_mk (st := s_VE) lI cI kI).binds fun _ _ _ _ _ _ us hl => match us, hl with | [_, _], _ => rfl, ex7, PySem.W.mg_none_of X G gV, vV, ⟨eg7, eh7, eb7, ej7⟩⟩,
    E8, fI, _, ⟨PySem.W.mg_of X G ea8, oex_mk el8 er8 es8 eb8 et8 ek8, en8, ei8, tI, fun_mk (st := s_VE) lI cI kI, (fun_mk (st := s_VE) lI cI kI).binds fun _ _ _ _ _ _ us hl => match us, hl with | [_, _], _ => rfl, ex8, PySem.W.mg_none_of X G gV, vV, ⟨eg8, eh8, eb8, ej8⟩⟩,
    E9, fI, _, ⟨PySem.W.mg_of X G ea9, oex_mk el9 er9 es9 eb9 et9 ek9, en9, ei9, tI, fun_mk (st := s_VE) lI cI kI, (fun_mk (st := s_VE) lI cI kI).binds fun _ _ _ _ _ _ us hl => match us, hl with | [_, _], _ => rfl, ex9, PySem.W.mg_none_of X G gV, vV, ⟨eg9, eh9, eb9, ej9⟩⟩,
    E10, fI, _, ⟨PySem.W.mg_of X G ea10, oex_mk el10 er10 es10 eb10 et10 ek10, en10, ei10, tI, fun_mk (st := s_VE) lI cI kI, (fun_mk (st := s_VE) lI cI kI).binds fun _ _ _ _ _ _ us hl => match us, hl with | [_, _], _ => rfl, ex10, PySem.W.mg_none_of X G gV, vV, ⟨eg10, eh10, eb10, ej10⟩⟩,
    E11, fI, _, ⟨PySem.W.mg_of X G ea11, oex_mk el11 er11 es11 eb11 et11 ek11, en11, ei11, tI, fun_mk (st := s_VE) lI cI kI, (fun_mk (st := s_VE) lI cI kI).binds fun _ _ _ _ _ _ us hl => match us, hl with | [_, _], _ => rfl, ex11, PySem.W.mg_none_of X G gV, vV, ⟨eg11, eh11, eb11, ej11⟩⟩,
    ⟨eg0, eh0, eb0, ej0, ia0, isn, ist, im0⟩,
    ⟨eg1, eh1, eb1, ej1, ia1, isn, ist, im1⟩,
    ⟨eg2, eh2, eb2, ej2, ia2, isn, ist, im2⟩,
    ⟨eg3, eh3, eb3, ej3, ia3, isn, ist, im3⟩,
    ⟨eg4, eh4, eb4, ej4, ia4, isn, ist, im4⟩,
    ⟨eg5, eh5, eb5, ej5, ia5, isn, ist, im5⟩,
    ⟨eg6, eh6, eb6, ej6, ia6, isn, ist, im6⟩,
    ⟨eg7, eh7, eb7, ej7, ia7, isn, ist, im7⟩,
    ⟨eg8, eh8, eb8, ej8, ia8, isn, ist, im8⟩,
    ⟨eg9, eh9, eb9, ej9, ia9, isn, ist, im9⟩,
    ⟨eg10, eh10, eb10, ej10, ia10, isn, ist, im10⟩,
    ⟨eg11, eh11, eb11, ej11, ia11, isn, ist, im11⟩,
    ki_DoubleName_DoubleName,
    ki_DoubleName_InvalidEffect,
    ki_DoubleName_InvalidName,
    ki_DoubleName_InvalidNumber,
    ki_DoubleName_InvalidPlace,
    ki_DoubleName_InvalidStep,
    ki_DoubleName_MixedBook,
    ki_DoubleName_NothingToUndo,
    ki_DoubleName_PileError,
    ki_DoubleName_TooShallow,
    ki_DoubleName_UnknownWord,
    ki_DoubleName_Unreadable,
    ki_DoubleName_ValueError,
    ki_InvalidEffect_DoubleName,
    ki_InvalidEffect_InvalidEffect,
    ki_InvalidEffect_InvalidName,
    ki_InvalidEffect_InvalidNumber,
    ki_InvalidEffect_InvalidPlace,
    ki_InvalidEffect_InvalidStep,
    ki_InvalidEffect_MixedBook,
    ki_InvalidEffect_NothingToUndo,
    ki_InvalidEffect_PileError,
    ki_InvalidEffect_TooShallow,
    ki_InvalidEffect_UnknownWord,
    ki_InvalidEffect_Unreadable,
    ki_InvalidEffect_ValueError,
    ki_InvalidName_DoubleName,
    ki_InvalidName_InvalidEffect,
    ki_InvalidName_InvalidName,
    ki_InvalidName_InvalidNumber,
    ki_InvalidName_InvalidPlace,
    ki_InvalidName_InvalidStep,
    ki_InvalidName_MixedBook,
    ki_InvalidName_NothingToUndo,
    ki_InvalidName_PileError,
    ki_InvalidName_TooShallow,
    ki_InvalidName_UnknownWord,
    ki_InvalidName_Unreadable,
    ki_InvalidName_ValueError,
    ki_InvalidNumber_DoubleName,
    ki_InvalidNumber_InvalidEffect,
    ki_InvalidNumber_InvalidName,
    ki_InvalidNumber_InvalidNumber,
    ki_InvalidNumber_InvalidPlace,
    ki_InvalidNumber_InvalidStep,
    ki_InvalidNumber_MixedBook,
    ki_InvalidNumber_NothingToUndo,
    ki_InvalidNumber_PileError,
    ki_InvalidNumber_TooShallow,
    ki_InvalidNumber_UnknownWord,
    ki_InvalidNumber_Unreadable,
    ki_InvalidNumber_ValueError,
    ki_InvalidPlace_DoubleName,
    ki_InvalidPlace_InvalidEffect,
    ki_InvalidPlace_InvalidName,
    ki_InvalidPlace_InvalidNumber,
    ki_InvalidPlace_InvalidPlace,
    ki_InvalidPlace_InvalidStep,
    ki_InvalidPlace_MixedBook,
    ki_InvalidPlace_NothingToUndo,
    ki_InvalidPlace_PileError,
    ki_InvalidPlace_TooShallow,
    ki_InvalidPlace_UnknownWord,
    ki_InvalidPlace_Unreadable,
    ki_InvalidPlace_ValueError,
    ki_InvalidStep_DoubleName,
    ki_InvalidStep_InvalidEffect,
    ki_InvalidStep_InvalidName,
    ki_InvalidStep_InvalidNumber,
    ki_InvalidStep_InvalidPlace,
    ki_InvalidStep_InvalidStep,
    ki_InvalidStep_MixedBook,
    ki_InvalidStep_NothingToUndo,
    ki_InvalidStep_PileError,
    ki_InvalidStep_TooShallow,
    ki_InvalidStep_UnknownWord,
    ki_InvalidStep_Unreadable,
    ki_InvalidStep_ValueError,
    ki_MixedBook_DoubleName,
    ki_MixedBook_InvalidEffect,
    ki_MixedBook_InvalidName,
    ki_MixedBook_InvalidNumber,
    ki_MixedBook_InvalidPlace,
    ki_MixedBook_InvalidStep,
    ki_MixedBook_MixedBook,
    ki_MixedBook_NothingToUndo,
    ki_MixedBook_PileError,
    ki_MixedBook_TooShallow,
    ki_MixedBook_UnknownWord,
    ki_MixedBook_Unreadable,
    ki_MixedBook_ValueError,
    ki_NothingToUndo_DoubleName,
    ki_NothingToUndo_InvalidEffect,
    ki_NothingToUndo_InvalidName,
    ki_NothingToUndo_InvalidNumber,
    ki_NothingToUndo_InvalidPlace,
    ki_NothingToUndo_InvalidStep,
    ki_NothingToUndo_MixedBook,
    ki_NothingToUndo_NothingToUndo,
    ki_NothingToUndo_PileError,
    ki_NothingToUndo_TooShallow,
    ki_NothingToUndo_UnknownWord,
    ki_NothingToUndo_Unreadable,
    ki_NothingToUndo_ValueError,
    ki_PileError_DoubleName,
    ki_PileError_InvalidEffect,
    ki_PileError_InvalidName,
    ki_PileError_InvalidNumber,
    ki_PileError_InvalidPlace,
    ki_PileError_InvalidStep,
    ki_PileError_MixedBook,
    ki_PileError_NothingToUndo,
    ki_PileError_PileError,
    ki_PileError_TooShallow,
    ki_PileError_UnknownWord,
    ki_PileError_Unreadable,
    ki_PileError_ValueError,
    ki_TooShallow_DoubleName,
    ki_TooShallow_InvalidEffect,
    ki_TooShallow_InvalidName,
    ki_TooShallow_InvalidNumber,
    ki_TooShallow_InvalidPlace,
    ki_TooShallow_InvalidStep,
    ki_TooShallow_MixedBook,
    ki_TooShallow_NothingToUndo,
    ki_TooShallow_PileError,
    ki_TooShallow_TooShallow,
    ki_TooShallow_UnknownWord,
    ki_TooShallow_Unreadable,
    ki_TooShallow_ValueError,
    ki_UnknownWord_DoubleName,
    ki_UnknownWord_InvalidEffect,
    ki_UnknownWord_InvalidName,
    ki_UnknownWord_InvalidNumber,
    ki_UnknownWord_InvalidPlace,
    ki_UnknownWord_InvalidStep,
    ki_UnknownWord_MixedBook,
    ki_UnknownWord_NothingToUndo,
    ki_UnknownWord_PileError,
    ki_UnknownWord_TooShallow,
    ki_UnknownWord_UnknownWord,
    ki_UnknownWord_Unreadable,
    ki_UnknownWord_ValueError,
    ki_Unreadable_DoubleName,
    ki_Unreadable_InvalidEffect,
    ki_Unreadable_InvalidName,
    ki_Unreadable_InvalidNumber,
    ki_Unreadable_InvalidPlace,
    ki_Unreadable_InvalidStep,
    ki_Unreadable_MixedBook,
    ki_Unreadable_NothingToUndo,
    ki_Unreadable_PileError,
    ki_Unreadable_TooShallow,
    ki_Unreadable_UnknownWord,
    ki_Unreadable_Unreadable,
    ki_Unreadable_ValueError⟩ : Prog K mg)⟩
end
end My
open PySem PySem.W PyProof.Rows
set_option maxHeartbeats 0 in
theorem PySem.Challenge.cw_pileshifts_k01_errors_hold_values_holds : PySem.Challenge.rw_pileshifts_k01_errors_hold_values.Holds := by
  w_on; o_law; k_head; (case hw => w_witness2)
  k_fill
  refine G.walk_ofG (l := PySem.Challenge.rw_pileshifts_k01_errors_hold_values) (n := 63) (k := 26) (x := "_law_script") (CX := fun _ => L2.CX0) (sp := fun w => My.spLaw _) rfl (by decide) rfl ⟨rfl, by decide, by decide⟩ (fun w h Y => PySem.W.kIn_of Y) ?F (fun _ _ a ns hl hb _ hS => ⟨a, ns, rfl, hS, hl, hb, fun _ => rfl⟩) (fun _ _ _ _ _ h => h)
  case F =>
    intro w mg fa h KX G hmg
    refine' My.all_mk KX G hmg ?a0 ?l0 ?c0 ?k0 ?a1 ?l1 ?c1 ?k1 ?a2 ?l2 ?c2 ?k2 ?a3 ?l3 ?c3 ?k3 ?a4 ?l4 ?c4 ?k4 ?a5 ?l5 ?c5 ?k5 ?a6 ?l6 ?c6 ?k6 ?a7 ?l7 ?c7 ?k7 ?a8 ?l8 ?c8 ?k8 ?a9 ?l9 ?c9 ?k9 ?a10 ?l10 ?c10 ?k10 ?z0 ?z1 ?z2 ?z3 ?z4 ?z5 ?z6 ?z7 ?z8 ?z9 ?z10 ?z11 ?z12 ?z13 ?z14 ?z15 ?z16 ?z17 ?z18 ?z19 ?z20 ?z21 ?lI ?cI ?kI ?tI ?gV ?vV ?ea0 ?el0 ?er0 ?es0 ?eb0 ?et0 ?ek0 ?en0 ?ei0 ?ex0 ?eg0 ?eh0 ?ej0 ?ea1 ?el1 ?er1 ?es1 ?eb1 ?et1 ?ek1 ?en1 ?ei1 ?ex1 ?eg1 ?eh1 ?ej1 ?ea2 ?el2 ?er2 ?es2 ?eb2 ?et2 ?ek2 ?en2 ?ei2 ?ex2 ?eg2 ?eh2 ?ej2 ?ea3 ?el3 ?er3 ?es3 ?eb3 ?et3 ?ek3 ?en3 ?ei3 ?ex3 ?eg3 ?eh3 ?ej3 ?ea4 ?el4 ?er4 ?es4 ?eb4 ?et4 ?ek4 ?en4 ?ei4 ?ex4 ?eg4 ?eh4 ?ej4 ?ea5 ?el5 ?er5 ?es5 ?eb5 ?et5 ?ek5 ?en5 ?ei5 ?ex5 ?eg5 ?eh5 ?ej5 ?ea6 ?el6 ?er6 ?es6 ?eb6 ?et6 ?ek6 ?en6 ?ei6 ?ex6 ?eg6 ?eh6 ?ej6 ?ea7 ?el7 ?er7 ?es7 ?eb7 ?et7 ?ek7 ?en7 ?ei7 ?ex7 ?eg7 ?eh7 ?ej7 ?ea8 ?el8 ?er8 ?es8 ?eb8 ?et8 ?ek8 ?en8 ?ei8 ?ex8 ?eg8 ?eh8 ?ej8 ?ea9 ?el9 ?er9 ?es9 ?eb9 ?et9 ?ek9 ?en9 ?ei9 ?ex9 ?eg9 ?eh9 ?ej9 ?ea10 ?el10 ?er10 ?es10 ?eb10 ?et10 ?ek10 ?en10 ?ei10 ?ex10 ?eg10 ?eh10 ?ej10 ?ea11 ?el11 ?er11 ?es11 ?eb11 ?et11 ?ek11 ?en11 ?ei11 ?ex11 ?eg11 ?eh11 ?ej11 ?isn ?ist ?ia0 ?im0 ?ia1 ?im1 ?ia2 ?im2 ?ia3 ?im3 ?ia4 ?im4 ?ia5 ?im5 ?ia6 ?im6 ?ia7 ?im7 ?ia8 ?im8 ?ia9 ?im9 ?ia10 ?im10 ?ia11 ?im11 ?ki_DoubleName_DoubleName ?ki_DoubleName_InvalidEffect ?ki_DoubleName_InvalidName ?ki_DoubleName_InvalidNumber ?ki_DoubleName_InvalidPlace ?ki_DoubleName_InvalidStep ?ki_DoubleName_MixedBook ?ki_DoubleName_NothingToUndo ?ki_DoubleName_PileError ?ki_DoubleName_TooShallow ?ki_DoubleName_UnknownWord ?ki_DoubleName_Unreadable ?ki_DoubleName_ValueError ?ki_InvalidEffect_DoubleName ?ki_InvalidEffect_InvalidEffect ?ki_InvalidEffect_InvalidName ?ki_InvalidEffect_InvalidNumber ?ki_InvalidEffect_InvalidPlace ?ki_InvalidEffect_InvalidStep ?ki_InvalidEffect_MixedBook ?ki_InvalidEffect_NothingToUndo ?ki_InvalidEffect_PileError ?ki_InvalidEffect_TooShallow ?ki_InvalidEffect_UnknownWord ?ki_InvalidEffect_Unreadable ?ki_InvalidEffect_ValueError ?ki_InvalidName_DoubleName ?ki_InvalidName_InvalidEffect ?ki_InvalidName_InvalidName ?ki_InvalidName_InvalidNumber ?ki_InvalidName_InvalidPlace ?ki_InvalidName_InvalidStep ?ki_InvalidName_MixedBook ?ki_InvalidName_NothingToUndo ?ki_InvalidName_PileError ?ki_InvalidName_TooShallow ?ki_InvalidName_UnknownWord ?ki_InvalidName_Unreadable ?ki_InvalidName_ValueError ?ki_InvalidNumber_DoubleName ?ki_InvalidNumber_InvalidEffect ?ki_InvalidNumber_InvalidName ?ki_InvalidNumber_InvalidNumber ?ki_InvalidNumber_InvalidPlace ?ki_InvalidNumber_InvalidStep ?ki_InvalidNumber_MixedBook ?ki_InvalidNumber_NothingToUndo ?ki_InvalidNumber_PileError ?ki_InvalidNumber_TooShallow ?ki_InvalidNumber_UnknownWord ?ki_InvalidNumber_Unreadable ?ki_InvalidNumber_ValueError ?ki_InvalidPlace_DoubleName ?ki_InvalidPlace_InvalidEffect ?ki_InvalidPlace_InvalidName ?ki_InvalidPlace_InvalidNumber ?ki_InvalidPlace_InvalidPlace ?ki_InvalidPlace_InvalidStep ?ki_InvalidPlace_MixedBook ?ki_InvalidPlace_NothingToUndo ?ki_InvalidPlace_PileError ?ki_InvalidPlace_TooShallow ?ki_InvalidPlace_UnknownWord ?ki_InvalidPlace_Unreadable ?ki_InvalidPlace_ValueError ?ki_InvalidStep_DoubleName ?ki_InvalidStep_InvalidEffect ?ki_InvalidStep_InvalidName ?ki_InvalidStep_InvalidNumber ?ki_InvalidStep_InvalidPlace ?ki_InvalidStep_InvalidStep ?ki_InvalidStep_MixedBook ?ki_InvalidStep_NothingToUndo ?ki_InvalidStep_PileError ?ki_InvalidStep_TooShallow ?ki_InvalidStep_UnknownWord ?ki_InvalidStep_Unreadable ?ki_InvalidStep_ValueError ?ki_MixedBook_DoubleName ?ki_MixedBook_InvalidEffect ?ki_MixedBook_InvalidName ?ki_MixedBook_InvalidNumber ?ki_MixedBook_InvalidPlace ?ki_MixedBook_InvalidStep ?ki_MixedBook_MixedBook ?ki_MixedBook_NothingToUndo ?ki_MixedBook_PileError ?ki_MixedBook_TooShallow ?ki_MixedBook_UnknownWord ?ki_MixedBook_Unreadable ?ki_MixedBook_ValueError ?ki_NothingToUndo_DoubleName ?ki_NothingToUndo_InvalidEffect ?ki_NothingToUndo_InvalidName ?ki_NothingToUndo_InvalidNumber ?ki_NothingToUndo_InvalidPlace ?ki_NothingToUndo_InvalidStep ?ki_NothingToUndo_MixedBook ?ki_NothingToUndo_NothingToUndo ?ki_NothingToUndo_PileError ?ki_NothingToUndo_TooShallow ?ki_NothingToUndo_UnknownWord ?ki_NothingToUndo_Unreadable ?ki_NothingToUndo_ValueError ?ki_PileError_DoubleName ?ki_PileError_InvalidEffect ?ki_PileError_InvalidName ?ki_PileError_InvalidNumber ?ki_PileError_InvalidPlace ?ki_PileError_InvalidStep ?ki_PileError_MixedBook ?ki_PileError_NothingToUndo ?ki_PileError_PileError ?ki_PileError_TooShallow ?ki_PileError_UnknownWord ?ki_PileError_Unreadable ?ki_PileError_ValueError ?ki_TooShallow_DoubleName ?ki_TooShallow_InvalidEffect ?ki_TooShallow_InvalidName ?ki_TooShallow_InvalidNumber ?ki_TooShallow_InvalidPlace ?ki_TooShallow_InvalidStep ?ki_TooShallow_MixedBook ?ki_TooShallow_NothingToUndo ?ki_TooShallow_PileError ?ki_TooShallow_TooShallow ?ki_TooShallow_UnknownWord ?ki_TooShallow_Unreadable ?ki_TooShallow_ValueError ?ki_UnknownWord_DoubleName ?ki_UnknownWord_InvalidEffect ?ki_UnknownWord_InvalidName ?ki_UnknownWord_InvalidNumber ?ki_UnknownWord_InvalidPlace ?ki_UnknownWord_InvalidStep ?ki_UnknownWord_MixedBook ?ki_UnknownWord_NothingToUndo ?ki_UnknownWord_PileError ?ki_UnknownWord_TooShallow ?ki_UnknownWord_UnknownWord ?ki_UnknownWord_Unreadable ?ki_UnknownWord_ValueError ?ki_Unreadable_DoubleName ?ki_Unreadable_InvalidEffect ?ki_Unreadable_InvalidName ?ki_Unreadable_InvalidNumber ?ki_Unreadable_InvalidPlace ?ki_Unreadable_InvalidStep ?ki_Unreadable_MixedBook ?ki_Unreadable_NothingToUndo ?ki_Unreadable_PileError ?ki_Unreadable_TooShallow ?ki_Unreadable_UnknownWord ?ki_Unreadable_Unreadable ?ki_Unreadable_ValueError
    (case a0 => k_is)
    (case l0 => k_is)
    (case c0 => k_is)
    (case k0 => k_is)
    (case a1 => k_is)
    (case l1 => k_is)
    (case c1 => k_is)
    (case k1 => k_is)
    (case a2 => k_is)
    (case l2 => k_is)
    (case c2 => k_is)
    (case k2 => k_is)
    (case a3 => k_is)
    (case l3 => k_is)
    (case c3 => k_is)
    (case k3 => k_is)
    (case a4 => k_is)
    (case l4 => k_is)
    (case c4 => k_is)
    (case k4 => k_is)
    (case a5 => k_is)
    (case l5 => k_is)
    (case c5 => k_is)
    (case k5 => k_is)
    (case a6 => k_is)
    (case l6 => k_is)
    (case c6 => k_is)
    (case k6 => k_is)
    (case a7 => k_is)
    (case l7 => k_is)
    (case c7 => k_is)
    (case k7 => k_is)
    (case a8 => k_is)
    (case l8 => k_is)
    (case c8 => k_is)
    (case k8 => k_is)
    (case a9 => k_is)
    (case l9 => k_is)
    (case c9 => k_is)
    (case k9 => k_is)
    (case a10 => k_is)
    (case l10 => k_is)
    (case c10 => k_is)
    (case k10 => k_is)
    (case z0 => k_is)
    (case z1 => k_is)
    (case z2 => k_is)
    (case z3 => k_is)
    (case z4 => k_is)
    (case z5 => k_is)
    (case z6 => k_is)
    (case z7 => k_is)
    (case z8 => k_is)
    (case z9 => k_is)
    (case z10 => k_is)
    (case z11 => k_is)
    (case z12 => k_is)
    (case z13 => k_is)
    (case z14 => k_is)
    (case z15 => k_is)
    (case z16 => k_is)
    (case z17 => k_is)
    (case z18 => k_is)
    (case z19 => k_is)
    (case z20 => k_is)
    (case z21 => k_is)
    (case ea0 => k_is)
    (case el0 => k_is)
    (case er0 => first | k_is | decide +kernel | rfl)
    (case es0 => k_is)
    (case eb0 => k_is)
    (case et0 => k_is)
    (case ek0 => k_is)
    (case en0 => k_is)
    (case ei0 => k_is)
    (case ex0 => first | rfl | decide +kernel)
    (case eg0 => k_is)
    (case eh0 => k_is)
    (case ej0 => k_is)
    (case ea1 => k_is)
    (case el1 => k_is)
    (case er1 => first | k_is | decide +kernel | rfl)
    (case es1 => k_is)
    (case eb1 => k_is)
    (case et1 => k_is)
    (case ek1 => k_is)
    (case en1 => k_is)
    (case ei1 => k_is)
    (case ex1 => first | rfl | decide +kernel)
    (case eg1 => k_is)
    (case eh1 => k_is)
    (case ej1 => k_is)
    (case ea2 => k_is)
    (case el2 => k_is)
    (case er2 => first | k_is | decide +kernel | rfl)
    (case es2 => k_is)
    (case eb2 => k_is)
    (case et2 => k_is)
    (case ek2 => k_is)
    (case en2 => k_is)
    (case ei2 => k_is)
    (case ex2 => first | rfl | decide +kernel)
    (case eg2 => k_is)
    (case eh2 => k_is)
    (case ej2 => k_is)
    (case ea3 => k_is)
    (case el3 => k_is)
    (case er3 => first | k_is | decide +kernel | rfl)
    (case es3 => k_is)
    (case eb3 => k_is)
    (case et3 => k_is)
    (case ek3 => k_is)
    (case en3 => k_is)
    (case ei3 => k_is)
    (case ex3 => first | rfl | decide +kernel)
    (case eg3 => k_is)
    (case eh3 => k_is)
    (case ej3 => k_is)
    (case ea4 => k_is)
    (case el4 => k_is)
    (case er4 => first | k_is | decide +kernel | rfl)
    (case es4 => k_is)
    (case eb4 => k_is)
    (case et4 => k_is)
    (case ek4 => k_is)
    (case en4 => k_is)
    (case ei4 => k_is)
    (case ex4 => first | rfl | decide +kernel)
    (case eg4 => k_is)
    (case eh4 => k_is)
    (case ej4 => k_is)
    (case ea5 => k_is)
    (case el5 => k_is)
    (case er5 => first | k_is | decide +kernel | rfl)
    (case es5 => k_is)
    (case eb5 => k_is)
    (case et5 => k_is)
    (case ek5 => k_is)
    (case en5 => k_is)
    (case ei5 => k_is)
    (case ex5 => first | rfl | decide +kernel)
    (case eg5 => k_is)
    (case eh5 => k_is)
    (case ej5 => k_is)
    (case ea6 => k_is)
    (case el6 => k_is)
    (case er6 => first | k_is | decide +kernel | rfl)
    (case es6 => k_is)
    (case eb6 => k_is)
    (case et6 => k_is)
    (case ek6 => k_is)
    (case en6 => k_is)
    (case ei6 => k_is)
    (case ex6 => first | rfl | decide +kernel)
    (case eg6 => k_is)
    (case eh6 => k_is)
    (case ej6 => k_is)
    (case ea7 => k_is)
    (case el7 => k_is)
    (case er7 => first | k_is | decide +kernel | rfl)
    (case es7 => k_is)
    (case eb7 => k_is)
    (case et7 => k_is)
    (case ek7 => k_is)
    (case en7 => k_is)
    (case ei7 => k_is)
    (case ex7 => first | rfl | decide +kernel)
    (case eg7 => k_is)
    (case eh7 => k_is)
    (case ej7 => k_is)
    (case ea8 => k_is)
    (case el8 => k_is)
    (case er8 => first | k_is | decide +kernel | rfl)
    (case es8 => k_is)
    (case eb8 => k_is)
    (case et8 => k_is)
    (case ek8 => k_is)
    (case en8 => k_is)
    (case ei8 => k_is)
    (case ex8 => first | rfl | decide +kernel)
    (case eg8 => k_is)
    (case eh8 => k_is)
    (case ej8 => k_is)
    (case ea9 => k_is)
    (case el9 => k_is)
    (case er9 => first | k_is | decide +kernel | rfl)
    (case es9 => k_is)
    (case eb9 => k_is)
    (case et9 => k_is)
    (case ek9 => k_is)
    (case en9 => k_is)
    (case ei9 => k_is)
    (case ex9 => first | rfl | decide +kernel)
    (case eg9 => k_is)
    (case eh9 => k_is)
    (case ej9 => k_is)
    (case ea10 => k_is)
    (case el10 => k_is)
    (case er10 => first | k_is | decide +kernel | rfl)
    (case es10 => k_is)
    (case eb10 => k_is)
    (case et10 => k_is)
    (case ek10 => k_is)
    (case en10 => k_is)
    (case ei10 => k_is)
    (case ex10 => first | rfl | decide +kernel)
    (case eg10 => k_is)
    (case eh10 => k_is)
    (case ej10 => k_is)
    (case ea11 => k_is)
    (case el11 => k_is)
    (case er11 => first | k_is | decide +kernel | rfl)
    (case es11 => k_is)
    (case eb11 => k_is)
    (case et11 => k_is)
    (case ek11 => k_is)
    (case en11 => k_is)
    (case ei11 => k_is)
    (case ex11 => first | rfl | decide +kernel)
    (case eg11 => k_is)
    (case eh11 => k_is)
    (case ej11 => k_is)
    (case isn => first | k_is | rfl | decide +kernel)
    (case ist => first | k_is | rfl | decide +kernel)
    (case ia0 => first | k_is | rfl | decide +kernel)
    (case im0 => first | k_is | rfl | decide +kernel)
    (case ia1 => first | k_is | rfl | decide +kernel)
    (case im1 => first | k_is | rfl | decide +kernel)
    (case ia2 => first | k_is | rfl | decide +kernel)
    (case im2 => first | k_is | rfl | decide +kernel)
    (case ia3 => first | k_is | rfl | decide +kernel)
    (case im3 => first | k_is | rfl | decide +kernel)
    (case ia4 => first | k_is | rfl | decide +kernel)
    (case im4 => first | k_is | rfl | decide +kernel)
    (case ia5 => first | k_is | rfl | decide +kernel)
    (case im5 => first | k_is | rfl | decide +kernel)
    (case ia6 => first | k_is | rfl | decide +kernel)
    (case im6 => first | k_is | rfl | decide +kernel)
    (case ia7 => first | k_is | rfl | decide +kernel)
    (case im7 => first | k_is | rfl | decide +kernel)
    (case ia8 => first | k_is | rfl | decide +kernel)
    (case im8 => first | k_is | rfl | decide +kernel)
    (case ia9 => first | k_is | rfl | decide +kernel)
    (case im9 => first | k_is | rfl | decide +kernel)
    (case ia10 => first | k_is | rfl | decide +kernel)
    (case im10 => first | k_is | rfl | decide +kernel)
    (case ia11 => first | k_is | rfl | decide +kernel)
    (case im11 => first | k_is | rfl | decide +kernel)
    (case ki_DoubleName_DoubleName => first | rfl | decide +kernel)
    (case ki_DoubleName_InvalidEffect => first | rfl | decide +kernel)
    (case ki_DoubleName_InvalidName => first | rfl | decide +kernel)
    (case ki_DoubleName_InvalidNumber => first | rfl | decide +kernel)
    (case ki_DoubleName_InvalidPlace => first | rfl | decide +kernel)
    (case ki_DoubleName_InvalidStep => first | rfl | decide +kernel)
    (case ki_DoubleName_MixedBook => first | rfl | decide +kernel)
    (case ki_DoubleName_NothingToUndo => first | rfl | decide +kernel)
    (case ki_DoubleName_PileError => first | rfl | decide +kernel)
    (case ki_DoubleName_TooShallow => first | rfl | decide +kernel)
    (case ki_DoubleName_UnknownWord => first | rfl | decide +kernel)
    (case ki_DoubleName_Unreadable => first | rfl | decide +kernel)
    (case ki_DoubleName_ValueError => first | rfl | decide +kernel)
    (case ki_InvalidEffect_DoubleName => first | rfl | decide +kernel)
    (case ki_InvalidEffect_InvalidEffect => first | rfl | decide +kernel)
    (case ki_InvalidEffect_InvalidName => first | rfl | decide +kernel)
    (case ki_InvalidEffect_InvalidNumber => first | rfl | decide +kernel)
    (case ki_InvalidEffect_InvalidPlace => first | rfl | decide +kernel)
    (case ki_InvalidEffect_InvalidStep => first | rfl | decide +kernel)
    (case ki_InvalidEffect_MixedBook => first | rfl | decide +kernel)
    (case ki_InvalidEffect_NothingToUndo => first | rfl | decide +kernel)
    (case ki_InvalidEffect_PileError => first | rfl | decide +kernel)
    (case ki_InvalidEffect_TooShallow => first | rfl | decide +kernel)
    (case ki_InvalidEffect_UnknownWord => first | rfl | decide +kernel)
    (case ki_InvalidEffect_Unreadable => first | rfl | decide +kernel)
    (case ki_InvalidEffect_ValueError => first | rfl | decide +kernel)
    (case ki_InvalidName_DoubleName => first | rfl | decide +kernel)
    (case ki_InvalidName_InvalidEffect => first | rfl | decide +kernel)
    (case ki_InvalidName_InvalidName => first | rfl | decide +kernel)
    (case ki_InvalidName_InvalidNumber => first | rfl | decide +kernel)
    (case ki_InvalidName_InvalidPlace => first | rfl | decide +kernel)
    (case ki_InvalidName_InvalidStep => first | rfl | decide +kernel)
    (case ki_InvalidName_MixedBook => first | rfl | decide +kernel)
    (case ki_InvalidName_NothingToUndo => first | rfl | decide +kernel)
    (case ki_InvalidName_PileError => first | rfl | decide +kernel)
    (case ki_InvalidName_TooShallow => first | rfl | decide +kernel)
    (case ki_InvalidName_UnknownWord => first | rfl | decide +kernel)
    (case ki_InvalidName_Unreadable => first | rfl | decide +kernel)
    (case ki_InvalidName_ValueError => first | rfl | decide +kernel)
    (case ki_InvalidNumber_DoubleName => first | rfl | decide +kernel)
    (case ki_InvalidNumber_InvalidEffect => first | rfl | decide +kernel)
    (case ki_InvalidNumber_InvalidName => first | rfl | decide +kernel)
    (case ki_InvalidNumber_InvalidNumber => first | rfl | decide +kernel)
    (case ki_InvalidNumber_InvalidPlace => first | rfl | decide +kernel)
    (case ki_InvalidNumber_InvalidStep => first | rfl | decide +kernel)
    (case ki_InvalidNumber_MixedBook => first | rfl | decide +kernel)
    (case ki_InvalidNumber_NothingToUndo => first | rfl | decide +kernel)
    (case ki_InvalidNumber_PileError => first | rfl | decide +kernel)
    (case ki_InvalidNumber_TooShallow => first | rfl | decide +kernel)
    (case ki_InvalidNumber_UnknownWord => first | rfl | decide +kernel)
    (case ki_InvalidNumber_Unreadable => first | rfl | decide +kernel)
    (case ki_InvalidNumber_ValueError => first | rfl | decide +kernel)
    (case ki_InvalidPlace_DoubleName => first | rfl | decide +kernel)
    (case ki_InvalidPlace_InvalidEffect => first | rfl | decide +kernel)
    (case ki_InvalidPlace_InvalidName => first | rfl | decide +kernel)
    (case ki_InvalidPlace_InvalidNumber => first | rfl | decide +kernel)
    (case ki_InvalidPlace_InvalidPlace => first | rfl | decide +kernel)
    (case ki_InvalidPlace_InvalidStep => first | rfl | decide +kernel)
    (case ki_InvalidPlace_MixedBook => first | rfl | decide +kernel)
    (case ki_InvalidPlace_NothingToUndo => first | rfl | decide +kernel)
    (case ki_InvalidPlace_PileError => first | rfl | decide +kernel)
    (case ki_InvalidPlace_TooShallow => first | rfl | decide +kernel)
    (case ki_InvalidPlace_UnknownWord => first | rfl | decide +kernel)
    (case ki_InvalidPlace_Unreadable => first | rfl | decide +kernel)
    (case ki_InvalidPlace_ValueError => first | rfl | decide +kernel)
    (case ki_InvalidStep_DoubleName => first | rfl | decide +kernel)
    (case ki_InvalidStep_InvalidEffect => first | rfl | decide +kernel)
    (case ki_InvalidStep_InvalidName => first | rfl | decide +kernel)
    (case ki_InvalidStep_InvalidNumber => first | rfl | decide +kernel)
    (case ki_InvalidStep_InvalidPlace => first | rfl | decide +kernel)
    (case ki_InvalidStep_InvalidStep => first | rfl | decide +kernel)
    (case ki_InvalidStep_MixedBook => first | rfl | decide +kernel)
    (case ki_InvalidStep_NothingToUndo => first | rfl | decide +kernel)
    (case ki_InvalidStep_PileError => first | rfl | decide +kernel)
    (case ki_InvalidStep_TooShallow => first | rfl | decide +kernel)
    (case ki_InvalidStep_UnknownWord => first | rfl | decide +kernel)
    (case ki_InvalidStep_Unreadable => first | rfl | decide +kernel)
    (case ki_InvalidStep_ValueError => first | rfl | decide +kernel)
    (case ki_MixedBook_DoubleName => first | rfl | decide +kernel)
    (case ki_MixedBook_InvalidEffect => first | rfl | decide +kernel)
    (case ki_MixedBook_InvalidName => first | rfl | decide +kernel)
    (case ki_MixedBook_InvalidNumber => first | rfl | decide +kernel)
    (case ki_MixedBook_InvalidPlace => first | rfl | decide +kernel)
    (case ki_MixedBook_InvalidStep => first | rfl | decide +kernel)
    (case ki_MixedBook_MixedBook => first | rfl | decide +kernel)
    (case ki_MixedBook_NothingToUndo => first | rfl | decide +kernel)
    (case ki_MixedBook_PileError => first | rfl | decide +kernel)
    (case ki_MixedBook_TooShallow => first | rfl | decide +kernel)
    (case ki_MixedBook_UnknownWord => first | rfl | decide +kernel)
    (case ki_MixedBook_Unreadable => first | rfl | decide +kernel)
    (case ki_MixedBook_ValueError => first | rfl | decide +kernel)
    (case ki_NothingToUndo_DoubleName => first | rfl | decide +kernel)
    (case ki_NothingToUndo_InvalidEffect => first | rfl | decide +kernel)
    (case ki_NothingToUndo_InvalidName => first | rfl | decide +kernel)
    (case ki_NothingToUndo_InvalidNumber => first | rfl | decide +kernel)
    (case ki_NothingToUndo_InvalidPlace => first | rfl | decide +kernel)
    (case ki_NothingToUndo_InvalidStep => first | rfl | decide +kernel)
    (case ki_NothingToUndo_MixedBook => first | rfl | decide +kernel)
    (case ki_NothingToUndo_NothingToUndo => first | rfl | decide +kernel)
    (case ki_NothingToUndo_PileError => first | rfl | decide +kernel)
    (case ki_NothingToUndo_TooShallow => first | rfl | decide +kernel)
    (case ki_NothingToUndo_UnknownWord => first | rfl | decide +kernel)
    (case ki_NothingToUndo_Unreadable => first | rfl | decide +kernel)
    (case ki_NothingToUndo_ValueError => first | rfl | decide +kernel)
    (case ki_PileError_DoubleName => first | rfl | decide +kernel)
    (case ki_PileError_InvalidEffect => first | rfl | decide +kernel)
    (case ki_PileError_InvalidName => first | rfl | decide +kernel)
    (case ki_PileError_InvalidNumber => first | rfl | decide +kernel)
    (case ki_PileError_InvalidPlace => first | rfl | decide +kernel)
    (case ki_PileError_InvalidStep => first | rfl | decide +kernel)
    (case ki_PileError_MixedBook => first | rfl | decide +kernel)
    (case ki_PileError_NothingToUndo => first | rfl | decide +kernel)
    (case ki_PileError_PileError => first | rfl | decide +kernel)
    (case ki_PileError_TooShallow => first | rfl | decide +kernel)
    (case ki_PileError_UnknownWord => first | rfl | decide +kernel)
    (case ki_PileError_Unreadable => first | rfl | decide +kernel)
    (case ki_PileError_ValueError => first | rfl | decide +kernel)
    (case ki_TooShallow_DoubleName => first | rfl | decide +kernel)
    (case ki_TooShallow_InvalidEffect => first | rfl | decide +kernel)
    (case ki_TooShallow_InvalidName => first | rfl | decide +kernel)
    (case ki_TooShallow_InvalidNumber => first | rfl | decide +kernel)
    (case ki_TooShallow_InvalidPlace => first | rfl | decide +kernel)
    (case ki_TooShallow_InvalidStep => first | rfl | decide +kernel)
    (case ki_TooShallow_MixedBook => first | rfl | decide +kernel)
    (case ki_TooShallow_NothingToUndo => first | rfl | decide +kernel)
    (case ki_TooShallow_PileError => first | rfl | decide +kernel)
    (case ki_TooShallow_TooShallow => first | rfl | decide +kernel)
    (case ki_TooShallow_UnknownWord => first | rfl | decide +kernel)
    (case ki_TooShallow_Unreadable => first | rfl | decide +kernel)
    (case ki_TooShallow_ValueError => first | rfl | decide +kernel)
    (case ki_UnknownWord_DoubleName => first | rfl | decide +kernel)
    (case ki_UnknownWord_InvalidEffect => first | rfl | decide +kernel)
    (case ki_UnknownWord_InvalidName => first | rfl | decide +kernel)
    (case ki_UnknownWord_InvalidNumber => first | rfl | decide +kernel)
    (case ki_UnknownWord_InvalidPlace => first | rfl | decide +kernel)
    (case ki_UnknownWord_InvalidStep => first | rfl | decide +kernel)
    (case ki_UnknownWord_MixedBook => first | rfl | decide +kernel)
    (case ki_UnknownWord_NothingToUndo => first | rfl | decide +kernel)
    (case ki_UnknownWord_PileError => first | rfl | decide +kernel)
    (case ki_UnknownWord_TooShallow => first | rfl | decide +kernel)
    (case ki_UnknownWord_UnknownWord => first | rfl | decide +kernel)
    (case ki_UnknownWord_Unreadable => first | rfl | decide +kernel)
    (case ki_UnknownWord_ValueError => first | rfl | decide +kernel)
    (case ki_Unreadable_DoubleName => first | rfl | decide +kernel)
    (case ki_Unreadable_InvalidEffect => first | rfl | decide +kernel)
    (case ki_Unreadable_InvalidName => first | rfl | decide +kernel)
    (case ki_Unreadable_InvalidNumber => first | rfl | decide +kernel)
    (case ki_Unreadable_InvalidPlace => first | rfl | decide +kernel)
    (case ki_Unreadable_InvalidStep => first | rfl | decide +kernel)
    (case ki_Unreadable_MixedBook => first | rfl | decide +kernel)
    (case ki_Unreadable_NothingToUndo => first | rfl | decide +kernel)
    (case ki_Unreadable_PileError => first | rfl | decide +kernel)
    (case ki_Unreadable_TooShallow => first | rfl | decide +kernel)
    (case ki_Unreadable_UnknownWord => first | rfl | decide +kernel)
    (case ki_Unreadable_Unreadable => first | rfl | decide +kernel)
    (case ki_Unreadable_ValueError => first | rfl | decide +kernel)
    (case lI => k_is)
    (case cI => k_is)
    (case kI => k_is)
    (case tI => k_is)
    (case gV => k_is)
    (case vV => k_is)
