import PyProof.Rows.All
import Wide.All
import OpenK.AllK
import Wide.FinOn
import PyProof.EqAt
import PyProof.EqKinds
import PyProof.TupleCall
import PySem.Challenge.RW_frontmeets_k36_whole_plan_or_four_lines
import HandS.ForMost
import HandS.Defaults
import HandS.Codes
import HandS.IsInst
import HandS.Walk
import HandS.SortKw
import KE.SortKeyHeap
import HandS.Set
import HandS.SetBool
import HandS.Strs
import HandS.Comp
import HandS.SetFor
import HandS.TupLe
import HandS.Deep
import HandS.TupAny
import HandS.Iter
import KE.GoesEnum
import PyProof.P3In
import PyProof.SetRoads
import HandS.Dict
import KE.KStateDown
import HandS.Head0
import HandS.Head1
import HandS.Head2
import HandS.HeadEnd
import HandS.HeadHook1
import HandS.HeadHook2
set_option Elab.async false
set_option linter.all false
set_option maxRecDepth 100000
namespace FmM
variable {α : Type} [DecidableEq α]

/-! ### four lines, cuts -/
def P4 (kd : α → α → Bool) (c : Bool) (w x y z : α) : Prop :=
  kd w x = c ∧ kd x y = c ∧ kd y z = c ∧ kd w y = !c ∧ kd x z = !c ∧ kd w z = !c
structure IsFour (kd : α → α → Bool) (ls : List α) (w x y z : α) : Prop where
  mw : w ∈ ls
  mx : x ∈ ls
  my : y ∈ ls
  mz : z ∈ ls
  nd : [w, x, y, z].Nodup
  four : ∃ c, P4 kd c w x y z
def HasFour (kd : α → α → Bool) (ls : List α) : Prop := ∃ w x y z, IsFour kd ls w x y z
def Sym (kd : α → α → Bool) : Prop := ∀ a b, kd a b = kd b a
/-- S parts the lines and no pair across has the kind c -/
structure Cut (kd : α → α → Bool) (c : Bool) (ls : List α) (S : α → Bool) : Prop where
  ins : ∃ a, a ∈ ls ∧ S a = true
  out : ∃ b, b ∈ ls ∧ S b = false
  no : ∀ a b, a ∈ ls → b ∈ ls → S a = true → S b = false → kd a b = !c
def Conn (kd : α → α → Bool) (c : Bool) (ls : List α) : Prop := ∀ S, ¬ Cut kd c ls S

theorem HasFour.mono {kd : α → α → Bool} {l m : List α} (h : HasFour kd l) (s : ∀ a, a ∈ l → a ∈ m) : HasFour kd m := by
  obtain ⟨w, x, y, z, f⟩ := h
  exact ⟨w, x, y, z, s _ f.mw, s _ f.mx, s _ f.my, s _ f.mz, f.nd, f.four⟩
theorem Cut.flip {kd : α → α → Bool} (hs : Sym kd) {c : Bool} {ls : List α} {S : α → Bool} (h : Cut kd c ls S) : Cut kd c ls (fun a => !S a) := by
  obtain ⟨⟨a, ha, sa⟩, ⟨b, hb, sb⟩, no⟩ := h
  refine ⟨⟨b, hb, by simp [sb]⟩, ⟨a, ha, by simp [sa]⟩, fun x y hx hy sx sy => ?_⟩
  rw [hs x y]
  exact no y x hy hx (by simpa using sy) (by simpa using sx)

/-- one line more beside lines that are cut in the kind c -/
theorem cut_more {kd : α → α → Bool} (hs : Sym kd) {c : Bool} {v : α} {l : List α} {S : α → Bool} (nv : v ∉ l) (h : Cut kd c l S) :
    HasFour kd (v :: l) ∨ ∃ c' S', Cut kd c' (v :: l) S' := by
  -- a cut one of whose sides has no line of kind c with v
  have side : ∀ T, Cut kd c l T → (∀ a, a ∈ l → T a = true → kd v a = !c) → ∃ c' S', Cut kd c' (v :: l) S' := fun T hT hn => by
    obtain ⟨⟨a, ha, ta⟩, ⟨b, hb, tb⟩, no⟩ := hT
    refine ⟨c, fun x => T x && decide (x ≠ v), ⟨a, List.mem_cons_of_mem _ ha, ?_⟩, ⟨v, List.mem_cons_self, by simp⟩, fun x y hx hy sx sy => ?_⟩
    · have : a ≠ v := fun e => nv (e ▸ ha)
      simp [ta, this]
    · have sx' : T x = true ∧ x ≠ v := by simpa using sx
      have xl : x ∈ l := (List.mem_cons.mp hx).resolve_left sx'.2
      rcases List.mem_cons.mp hy with e | yl
      · subst e
        rw [hs x y]
        exact hn x xl sx'.1
      · have yv : y ≠ v := fun e => nv (e ▸ yl)
        have ty : T y = false := by
          cases q : T y with
          | false => rfl
          | true => simp [q, yv] at sy
        exact no x y xl yl sx'.1 ty
  -- u, not of kind c with v, in the side S of a cut whose other side has a line z of kind c with v
  have go : ∀ T, Cut kd c l T → (∃ u, u ∈ l ∧ T u = true ∧ kd v u = !c) → (∃ z, z ∈ l ∧ T z = false ∧ kd v z = c) →
      HasFour kd (v :: l) ∨ ∃ c' S', Cut kd c' (v :: l) S' := fun T hT hu hz => by
    obtain ⟨u, ul, tu, ku⟩ := hu
    obtain ⟨z, zl, tz, kz⟩ := hz
    by_cases hx : ∃ x y, x ∈ l ∧ y ∈ l ∧ T x = true ∧ T y = true ∧ kd v x = !c ∧ kd v y = c ∧ kd x y = c
    · obtain ⟨x, y, xl, yl, tx, ty, kx, ky, kxy⟩ := hx
      left
      have e1 := hT.no x z xl zl tx tz
      have e2 := hT.no y z yl zl ty tz
      refine ⟨x, y, v, z, List.mem_cons_of_mem _ xl, List.mem_cons_of_mem _ yl, List.mem_cons_self, List.mem_cons_of_mem _ zl, ?_, c, kxy, ?_, kz, ?_, e2, e1⟩
      · have n1 : x ≠ y := fun e => by rw [e, ky] at kx; cases c <;> cases kx
        have n2 : x ≠ v := fun e => nv (e ▸ xl)
        have n3 : x ≠ z := fun e => by rw [e, tz] at tx; cases tx
        have n4 : y ≠ v := fun e => nv (e ▸ yl)
        have n5 : y ≠ z := fun e => by rw [e, tz] at ty; cases ty
        have n6 : v ≠ z := fun e => nv (e ▸ zl)
        simp [n1, n2, n3, n4, n5, n6]
      · rw [hs y v]; exact ky
      · rw [hs x v]; exact kx
    · right
      refine side (fun a => T a && decide (kd v a = !c)) ⟨⟨u, ul, by simp [tu, ku]⟩, ⟨z, zl, by simp [tz]⟩, fun a b al bl sa sb => ?_⟩ fun a al sa => ?_
      · have sa' : T a = true ∧ kd v a = !c := by simpa using sa
        cases tb : T b with
        | false => exact hT.no a b al bl sa'.1 tb
        | true =>
          have kb : kd v b = c := by
            cases q : decide (kd v b = !c) with
            | true => rw [tb, q] at sb; cases sb
            | false =>
              have := of_decide_eq_false q
              cases c <;> cases r : kd v b <;> simp_all
          cases q : decide (kd a b = c) with
          | true => exact absurd ⟨a, b, al, bl, sa'.1, tb, sa'.2, kb, of_decide_eq_true q⟩ hx
          | false =>
            have := of_decide_eq_false q
            cases c <;> cases r : kd a b <;> simp_all
      · have sa' : T a = true ∧ kd v a = !c := by simpa using sa
        exact sa'.2
  have not_c : ∀ {a b : α}, ¬ kd a b = c → kd a b = !c := fun {a b} h => by
    cases c <;> cases r : kd a b <;> simp_all
  by_cases h1 : ∃ y, y ∈ l ∧ S y = true ∧ kd v y = c
  · by_cases h2 : ∃ z, z ∈ l ∧ S z = false ∧ kd v z = c
    · by_cases h3 : ∃ u, u ∈ l ∧ kd v u = !c
      · obtain ⟨u, ul, ku⟩ := h3
        cases su : S u with
        | true => exact go S h ⟨u, ul, su, ku⟩ h2
        | false =>
          obtain ⟨y, yl, sy, ky⟩ := h1
          exact go (fun a => !S a) (h.flip hs) ⟨u, ul, by simp [su], ku⟩ ⟨y, yl, by simp [sy], ky⟩
      · -- v is of kind c with all others
        right
        obtain ⟨y, yl, _, _⟩ := h1
        refine ⟨!c, fun a => decide (a = v), ⟨v, List.mem_cons_self, by simp⟩, ⟨y, List.mem_cons_of_mem _ yl, ?_⟩, fun a b ha hb sa sb => ?_⟩
        · have : y ≠ v := fun e => nv (e ▸ yl)
          simp [this]
        · have ea : a = v := by simpa using sa
          have nb : b ≠ v := by simpa using sb
          subst ea
          have bl := (List.mem_cons.mp hb).resolve_left nb
          cases q : decide (kd a b = !c) with
          | true => exact absurd ⟨b, bl, of_decide_eq_true q⟩ h3
          | false =>
            have := of_decide_eq_false q
            cases c <;> cases r : kd a b <;> simp_all
    · right
      exact side (fun a => !S a) (h.flip hs) fun a al sa => not_c fun e => h2 ⟨a, al, by simpa using sa, e⟩
  · right
    exact side S h fun a al sa => not_c fun e => h1 ⟨a, al, sa, e⟩

/-- lines without four such lines are cut in some kind -/
theorem seinsche {kd : α → α → Bool} (hs : Sym kd) : ∀ {l : List α}, l.Nodup → 2 ≤ l.length → HasFour kd l ∨ ∃ c S, Cut kd c l S
  | [], _, h => by simp at h
  | [_], _, h => by simp at h
  | [a, b], nd, _ => by
    have ne : a ≠ b := by simpa using nd
    right
    refine ⟨!kd a b, fun x => decide (x = a), ⟨a, by simp, by simp⟩, ⟨b, by simp, by simp [Ne.symm ne]⟩, fun x y hx hy sx sy => ?_⟩
    have ex : x = a := by simpa using sx
    have ny : y ≠ a := by simpa using sy
    have ey : y = b := by
      have : y = a ∨ y = b := by simpa using hy
      exact this.resolve_left ny
    subst ex; subst ey
    simp
  | v :: a :: b :: r, nd, _ => by
    have nd' := List.nodup_cons.mp nd
    rcases seinsche hs nd'.2 (by simp) with h | ⟨c, S, h⟩
    · exact .inl (h.mono fun x hx => List.mem_cons_of_mem _ hx)
    · exact cut_more hs nd'.1 h

/-- four such lines hold together in both kinds -/
theorem four_side {kd : α → α → Bool} (hs : Sym kd) {c c' : Bool} {l : List α} {S : α → Bool} {w x y z : α} (hw : w ∈ l) (hx : x ∈ l) (hy : y ∈ l) (hz : z ∈ l) (f : P4 kd c w x y z)
    (no : ∀ a b, a ∈ l → b ∈ l → S a = true → S b = false → kd a b = !c') : S w = S x ∧ S w = S y ∧ S w = S z := by
  obtain ⟨a1, a2, a3, b1, b2, b3⟩ := f
  -- an edge of kind c' is on one side
  have same : ∀ a b, a ∈ l → b ∈ l → kd a b = c' → S a = S b := fun a b ha hb e => by
    cases sa : S a with
    | true =>
      cases sb : S b with
      | true => rfl
      | false =>
        have := no a b ha hb sa sb
        rw [e] at this; cases c' <;> cases this
    | false =>
      cases sb : S b with
      | false => rfl
      | true =>
        have := no b a hb ha sb sa
        rw [hs b a, e] at this; cases c' <;> cases this
  by_cases e : c' = c
  · subst e
    have e1 := same w x hw hx a1
    have e2 := same x y hx hy a2
    have e3 := same y z hy hz a3
    exact ⟨e1, e1.trans e2, (e1.trans e2).trans e3⟩
  · have ec : c' = !c := by cases c <;> cases c' <;> simp_all
    subst ec
    have e1 := same w y hw hy b1
    have e2 := same w z hw hz b3
    have e3 := same x z hx hz b2
    exact ⟨e2.trans e3.symm, e1, e2⟩
theorem four_conn {kd : α → α → Bool} (hs : Sym kd) {c' : Bool} {l : List α} {w x y z : α} (f : IsFour kd l w x y z) (all : ∀ a, a ∈ l → a = w ∨ a = x ∨ a = y ∨ a = z) : Conn kd c' l := fun S h => by
  obtain ⟨c, p⟩ := f.four
  obtain ⟨e1, e2, e3⟩ := four_side hs f.mw f.mx f.my f.mz p h.no
  obtain ⟨a, ha, sa⟩ := h.ins
  obtain ⟨b, hb, sb⟩ := h.out
  have q : ∀ a, a ∈ l → S a = S w := fun a ha => by
    rcases all a ha with e | e | e | e <;> subst e
    · rfl
    · exact e1.symm
    · exact e2.symm
    · exact e3.symm
  rw [q a ha, ← q b hb, sb] at sa
  cases sa

/-! ### lines in groups -/
/-- what the groups of some lines are: together the lines, between two groups never the kind c, each holds together in c -/
structure Groups (kd : α → α → Bool) (c : Bool) (ls : List α) (gs : List (List α)) : Prop where
  perm : gs.flatten.Perm ls
  ne : ∀ g, g ∈ gs → g ≠ []
  cross : gs.Pairwise fun g h => ∀ a b, a ∈ g → b ∈ h → kd a b = !c
  conn : ∀ g, g ∈ gs → Conn kd c g
theorem Groups.mem {kd : α → α → Bool} {c : Bool} {ls : List α} {gs : List (List α)} (G : Groups kd c ls gs) {a : α} : a ∈ ls ↔ ∃ g, g ∈ gs ∧ a ∈ g := by
  rw [← G.perm.mem_iff, List.mem_flatten]
/-- more than one group: a cut -/
theorem Groups.cut {kd : α → α → Bool} {c : Bool} {ls : List α} {gs : List (List α)} (G : Groups kd c ls gs) (nd : ls.Nodup) (h : 1 < gs.length) : ¬ Conn kd c ls := by
  match gs, h, G with
  | g :: g2 :: r, _, G =>
    intro C
    have nd' := (G.perm.nodup_iff).mpr nd
    obtain ⟨a, ha⟩ := List.exists_mem_of_ne_nil _ (G.ne g (by simp))
    obtain ⟨b, hb⟩ := List.exists_mem_of_ne_nil _ (G.ne g2 (by simp))
    have dis : ∀ x, x ∈ g → ∀ h, h ∈ g2 :: r → x ∉ h := fun x hx h hh hxh => by
      rw [List.flatten_cons, List.nodup_append] at nd'
      exact nd'.2.2 x hx x (List.mem_flatten.mpr ⟨h, hh, hxh⟩) rfl
    refine C (fun x => decide (x ∈ g)) ⟨⟨a, G.mem.mpr ⟨g, by simp, ha⟩, by simp [ha]⟩, ⟨b, G.mem.mpr ⟨g2, by simp, hb⟩, ?_⟩, fun x y hx hy sx sy => ?_⟩
    · have : b ∉ g := fun z => dis b z g2 (by simp) hb
      simp [this]
    · have xg : x ∈ g := by simpa using sx
      have yg : y ∉ g := by simpa using sy
      obtain ⟨h, hh, hy'⟩ := G.mem.mp hy
      rcases List.mem_cons.mp hh with e | hh
      · subst e; exact absurd hy' yg
      · exact (List.pairwise_cons.mp G.cross).1 h hh x y xg hy'
/-- one group: the lines hold together -/
theorem Groups.one {kd : α → α → Bool} {c : Bool} {ls : List α} {gs : List (List α)} (G : Groups kd c ls gs) (h : gs.length ≤ 1) : Conn kd c ls := by
  match gs, h, G with
  | [], _, G =>
    intro S C
    obtain ⟨a, ha, _⟩ := C.ins
    obtain ⟨g, hg, _⟩ := G.mem.mp ha
    cases hg
  | [g], _, G =>
    intro S C
    have m : ∀ a, a ∈ ls ↔ a ∈ g := fun a => by rw [G.mem]; simp
    obtain ⟨a, ha, sa⟩ := C.ins
    obtain ⟨b, hb, sb⟩ := C.out
    exact G.conn g (by simp) S ⟨⟨a, (m a).mp ha, sa⟩, ⟨b, (m b).mp hb, sb⟩, fun x y hx hy => C.no x y ((m x).mpr hx) ((m y).mpr hy)⟩
/-- lines of which each but the first has an earlier one of kind c hold together -/
theorem conn_grow {kd : α → α → Bool} (hs : Sym kd) {c : Bool} {g : List α} {y : α} (h : Conn kd c g) (hy : ∃ x, x ∈ g ∧ kd x y = c) : Conn kd c (g ++ [y]) := fun S C => by
  obtain ⟨x, hx, e⟩ := hy
  obtain ⟨⟨a, ha, sa⟩, ⟨b, hb, sb⟩, no⟩ := C
  have mx : x ∈ g ++ [y] := List.mem_append_left _ hx
  have my : y ∈ g ++ [y] := List.mem_append_right _ (by simp)
  have exy : S x = S y := by
    cases sx : S x <;> cases sy : S y
    · rfl
    · have := no y x my mx sy sx; rw [hs y x, e] at this; cases c <;> cases this
    · have := no x y mx my sx sy; rw [e] at this; cases c <;> cases this
    · rfl
  have back : ∀ u, u ∈ g ++ [y] → ∃ u', u' ∈ g ∧ S u' = S u := fun u hu => by
    rcases List.mem_append.mp hu with z | z
    · exact ⟨u, z, rfl⟩
    · have : u = y := by simpa using z
      subst this
      exact ⟨x, hx, exy⟩
  obtain ⟨a', ha', ea⟩ := back a ha
  obtain ⟨b', hb', eb⟩ := back b hb
  exact h S ⟨⟨a', ha', ea.trans sa⟩, ⟨b', hb', eb.trans sb⟩, fun u v hu hv => no u v (List.mem_append_left _ hu) (List.mem_append_left _ hv)⟩
theorem conn_single {kd : α → α → Bool} {c : Bool} (a : α) : Conn kd c [a] := fun S C => by
  obtain ⟨⟨x, hx, sx⟩, ⟨y, hy, sy⟩, _⟩ := C
  have ex : x = a := by simpa using hx
  have ey : y = a := by simpa using hy
  subst ex; subst ey
  rw [sx] at sy; cases sy
theorem conn_perm {kd : α → α → Bool} {c : Bool} {g h : List α} (p : g.Perm h) (C : Conn kd c g) : Conn kd c h := fun S z => by
  obtain ⟨⟨x, hx, sx⟩, ⟨y, hy, sy⟩, no⟩ := z
  exact C S ⟨⟨x, p.mem_iff.mpr hx, sx⟩, ⟨y, p.mem_iff.mpr hy, sy⟩, fun u v hu hv => no u v (p.mem_iff.mp hu) (p.mem_iff.mp hv)⟩
end FmM
namespace FmM
/-! ### plans -/
inductive Plan (α : Type) where
  | leaf (a : α)
  | node (k : Bool) (ps : List (Plan α))
variable {α : Type}
mutual
def Plan.lines : Plan α → List α
  | .leaf a => [a]
  | .node _ ps => linesL ps
def linesL : List (Plan α) → List α
  | [] => []
  | p :: ps => p.lines ++ linesL ps
end
/-! each junction has two parts or more -/
mutual
def Plan.Good : Plan α → Prop
  | .leaf _ => True
  | .node _ ps => 2 ≤ ps.length ∧ GoodL ps
def GoodL : List (Plan α) → Prop
  | [] => True
  | p :: ps => p.Good ∧ GoodL ps
end
theorem linesL_eq : ∀ ps : List (Plan α), linesL ps = ps.flatMap Plan.lines
  | [] => rfl
  | p :: ps => by rw [linesL, linesL_eq ps, List.flatMap_cons]
theorem goodL_mem : ∀ {ps : List (Plan α)}, GoodL ps → ∀ p, p ∈ ps → p.Good
  | p :: ps, h, q, hq => by
    rw [GoodL] at h
    rcases List.mem_cons.mp hq with e | hq
    · rw [e]; exact h.1
    · exact goodL_mem h.2 q hq
theorem goodL_of : ∀ {ps : List (Plan α)}, (∀ p, p ∈ ps → p.Good) → GoodL ps
  | [], _ => by rw [GoodL]; trivial
  | p :: ps, h => by
    rw [GoodL]
    exact ⟨h p List.mem_cons_self, goodL_of fun q hq => h q (List.mem_cons_of_mem _ hq)⟩
mutual
theorem Plan.lines_ne : ∀ {p : Plan α}, p.Good → p.lines ≠ []
  | .leaf a, _ => by rw [Plan.lines]; exact List.cons_ne_nil _ _
  | .node k ps, h => by
    rw [Plan.Good] at h
    rw [Plan.lines]
    exact linesL_ne h.2 (by intro e; rw [e] at h; exact absurd h.1 (by simp))
theorem linesL_ne : ∀ {ps : List (Plan α)}, GoodL ps → ps ≠ [] → linesL ps ≠ []
  | [], _, n => absurd rfl n
  | p :: ps, h, _ => by
    rw [GoodL] at h
    rw [linesL]
    intro e
    exact Plan.lines_ne h.1 (List.append_eq_nil_iff.mp e).1
end
theorem linesL_append (ps qs : List (Plan α)) : linesL (ps ++ qs) = linesL ps ++ linesL qs := by
  rw [linesL_eq, linesL_eq, linesL_eq, List.flatMap_append]
theorem linesL_len {ps : List (Plan α)} (h : GoodL ps) : ps.length ≤ (linesL ps).length := by
  induction ps with
  | nil => exact Nat.zero_le _
  | cons p ps ih =>
    rw [GoodL] at h
    rw [linesL, List.length_append, List.length_cons]
    have h1 := ih h.2
    have h2 : 0 < p.lines.length := List.length_pos_iff.mpr (Plan.lines_ne h.1)
    omega
/-- a part has fewer lines than its junction -/
theorem part_len {k : Bool} {ps : List (Plan α)} (h : (Plan.node k ps).Good) {p : Plan α} (hp : p ∈ ps) : p.lines.length < (Plan.node k ps).lines.length := by
  rw [Plan.Good] at h
  obtain ⟨l, r, e⟩ := List.append_of_mem hp
  subst e
  rw [Plan.lines, linesL_append, linesL, List.length_append, List.length_append]
  have gl : GoodL l := goodL_of fun q hq => goodL_mem h.2 q (List.mem_append_left _ hq)
  have gr : GoodL r := goodL_of fun q hq => goodL_mem h.2 q (List.mem_append_right _ (List.mem_cons_of_mem _ hq))
  have h1 := linesL_len gl
  have h2 := linesL_len gr
  have h3 := h.1
  rw [List.length_append, List.length_cons] at h3
  omega
theorem part_sub {ps : List (Plan α)} {p : Plan α} (hp : p ∈ ps) : p.lines.Sublist (linesL ps) := by
  obtain ⟨l, r, e⟩ := List.append_of_mem hp
  rw [e, linesL_append, linesL]
  exact (List.sublist_append_left _ _).trans (List.sublist_append_right _ _)
theorem flat_perm {β γ : Type} {f g : β → List γ} : ∀ l : List β, (∀ x, x ∈ l → (f x).Perm (g x)) → (l.flatMap f).Perm (l.flatMap g)
  | [], _ => List.Perm.refl _
  | x :: l, h => by
    rw [List.flatMap_cons, List.flatMap_cons]
    exact (h x List.mem_cons_self).append (flat_perm l fun y hy => h y (List.mem_cons_of_mem _ hy))
theorem map_take_succ {β γ : Type} {f : β → γ} {l : List β} {j : Nat} {y : γ} (h : (l.map f)[j]? = some y) : (l.take (j + 1)).map f = (l.take j).map f ++ [y] := by
  rw [List.map_take, List.map_take, List.take_add_one, h]
  rfl
theorem mem_linesL {ps : List (Plan α)} {a : α} : a ∈ linesL ps ↔ ∃ p, p ∈ ps ∧ a ∈ p.lines := by
  rw [linesL_eq, List.mem_flatMap]

/-! ### plans that fit kinds -/
variable [DecidableEq α]
mutual
/-- the kind between two lines is that of the junction at which they meet -/
def Fits (kd : α → α → Bool) : Plan α → Prop
  | .leaf _ => True
  | .node k ps => FitsL kd ps ∧ Cross kd k ps
def FitsL (kd : α → α → Bool) : List (Plan α) → Prop
  | [] => True
  | p :: ps => Fits kd p ∧ FitsL kd ps
def Cross (kd : α → α → Bool) (k : Bool) : List (Plan α) → Prop
  | [] => True
  | p :: ps => (∀ a b, a ∈ p.lines → b ∈ linesL ps → kd a b = k) ∧ Cross kd k ps
end
theorem fitsL_mem {kd : α → α → Bool} : ∀ {ps : List (Plan α)}, FitsL kd ps → ∀ p, p ∈ ps → Fits kd p
  | p :: ps, h, q, hq => by
    rw [FitsL] at h
    rcases List.mem_cons.mp hq with e | hq
    · rw [e]; exact h.1
    · exact fitsL_mem h.2 q hq
theorem fitsL_of {kd : α → α → Bool} : ∀ {ps : List (Plan α)}, (∀ p, p ∈ ps → Fits kd p) → FitsL kd ps
  | [], _ => by rw [FitsL]; trivial
  | p :: ps, h => by
    rw [FitsL]
    exact ⟨h p List.mem_cons_self, fitsL_of fun q hq => h q (List.mem_cons_of_mem _ hq)⟩
/-- lines of two different parts -/
theorem cross_kind {kd : α → α → Bool} (hs : Sym kd) {k : Bool} : ∀ {ps : List (Plan α)} {i j : Nat} {p q : Plan α} {a b : α}, Cross kd k ps → ps[i]? = some p → ps[j]? = some q → i ≠ j → a ∈ p.lines → b ∈ q.lines → kd a b = k
  | [], _, _, _, _, _, _, _, h, _, _, _, _ => by simp at h
  | r :: ps, 0, 0, _, _, _, _, _, _, _, n, _, _ => absurd rfl n
  | r :: ps, 0, j + 1, p, q, a, b, c, h1, h2, _, ha, hb => by
    rw [Cross] at c
    have e : r = p := by simpa using h1
    subst e
    exact c.1 a b ha (mem_linesL.mpr ⟨q, List.mem_of_getElem? (by simpa using h2), hb⟩)
  | r :: ps, i + 1, 0, p, q, a, b, c, h1, h2, _, ha, hb => by
    rw [Cross] at c
    have e : r = q := by simpa using h2
    subst e
    rw [hs a b]
    exact c.1 b a hb (mem_linesL.mpr ⟨p, List.mem_of_getElem? (by simpa using h1), ha⟩)
  | r :: ps, i + 1, j + 1, p, q, a, b, c, h1, h2, n, ha, hb => by
    rw [Cross] at c
    exact cross_kind hs c.2 (by simpa using h1) (by simpa using h2) (fun e => n (by rw [e])) ha hb
theorem cross_of {kd : α → α → Bool} {k : Bool} : ∀ {ps : List (Plan α)}, ps.Pairwise (fun p q => ∀ a b, a ∈ p.lines → b ∈ q.lines → kd a b = k) → Cross kd k ps
  | [], _ => by rw [Cross]; trivial
  | p :: ps, h => by
    rw [Cross]
    obtain ⟨h1, h2⟩ := List.pairwise_cons.mp h
    refine ⟨fun a b ha hb => ?_, cross_of h2⟩
    obtain ⟨q, hq, hb'⟩ := mem_linesL.mp hb
    exact h1 q hq a b ha hb'
/-! ### flat plans -/
/-- no part of a junction is a junction of its kind; the parts ascend by their least lines (lt: less) -/
def Plan.isK (k : Bool) : Plan α → Prop
  | .leaf _ => False
  | .node j _ => j = k
/-- a is the least line -/
def Least (lt : α → α → Prop) (ls : List α) (a : α) : Prop := a ∈ ls ∧ ∀ b, b ∈ ls → b = a ∨ lt a b
mutual
def Flat (lt : α → α → Prop) : Plan α → Prop
  | .leaf _ => True
  | .node k ps => FlatL lt k ps ∧ ps.Pairwise fun p q => ∀ a b, Least lt p.lines a → Least lt q.lines b → lt a b
def FlatL (lt : α → α → Prop) (k : Bool) : List (Plan α) → Prop
  | [] => True
  | p :: ps => Flat lt p ∧ ¬ p.isK k ∧ FlatL lt k ps
end
theorem flatL_mem {lt : α → α → Prop} {k : Bool} : ∀ {ps : List (Plan α)}, FlatL lt k ps → ∀ p, p ∈ ps → Flat lt p ∧ ¬ p.isK k
  | p :: ps, h, q, hq => by
    rw [FlatL] at h
    rcases List.mem_cons.mp hq with e | hq
    · rw [e]; exact ⟨h.1, h.2.1⟩
    · exact flatL_mem h.2.2 q hq
theorem flatL_of {lt : α → α → Prop} {k : Bool} : ∀ {ps : List (Plan α)}, (∀ p, p ∈ ps → Flat lt p ∧ ¬ p.isK k) → FlatL lt k ps
  | [], _ => by rw [FlatL]; trivial
  | p :: ps, h => by
    rw [FlatL]
    obtain ⟨h1, h2⟩ := h p List.mem_cons_self
    exact ⟨h1, h2, flatL_of fun q hq => h q (List.mem_cons_of_mem _ hq)⟩
end FmM
set_option maxHeartbeats 2000000
namespace Fm
open PySem PySem.Spec PyProof.Rows L2
/-! ### the text by places -/
def topS (i : Nat) : Stmt := PySem.Challenge.pw_frontmeets_k36_whole_plan_or_four_lines.main.body.getD i (.Pass ⟨0, 0, 0, 0⟩)
abbrev s_is_kind : Stmt := topS 8
abbrev s_is_line : Stmt := topS 12
abbrev s_is_part : Stmt := topS 13
abbrev s_is_plan : Stmt := topS 14
abbrev s_check_plan : Stmt := topS 15
abbrev s_lines_in : Stmt := topS 16
abbrev s_least_line : Stmt := topS 17
abbrev s_flat_form : Stmt := topS 18
abbrev s_pair_kind : Stmt := topS 19
abbrev s_flatten : Stmt := topS 20
abbrev s_kind_table : Stmt := topS 21
abbrev s_is_triple : Stmt := topS 23
abbrev s_lines_in_table : Stmt := topS 24
abbrev s_check_table : Stmt := topS 25
abbrev s_kinds_by_pair : Stmt := topS 26
abbrev s_linked : Stmt := topS 27
abbrev s_plan_for : Stmt := topS 28
abbrev s_plan_of : Stmt := topS 29
abbrev s_find_plan : Stmt := topS 30
abbrev s_are_four : Stmt := topS 31
abbrev s_rows_of_four : Stmt := topS 32
abbrev s_find_four : Stmt := topS 33
abbrev s_l_cell : Stmt := topS 35
abbrev s_l_pool : Stmt := topS 36
abbrev s_l_draw : Stmt := topS 37
abbrev s_l_mixed : Stmt := topS 38
abbrev s_l_calls : Stmt := topS 39
abbrev s_l_sort : Stmt := topS 40
abbrev s_l_tree : Stmt := topS 41
abbrev s_l_leaves : Stmt := topS 42
abbrev s_l_apart : Stmt := topS 43
abbrev s_l_pairs : Stmt := topS 44
abbrev s_l_chart : Stmt := topS 45
abbrev s_l_sorts : Stmt := topS 46
abbrev s_l_is_four : Stmt := topS 47
abbrev s_l_drawn_chart : Stmt := topS 48
abbrev s_l_every_chart : Stmt := topS 49
abbrev s_l_some : Stmt := topS 50
abbrev s_l_told_right : Stmt := topS 51
abbrev s_l_square : Stmt := topS 52
abbrev s_l_right : Stmt := topS 53
abbrev s_l_law : Stmt := topS 54
/-- a def of the module's top, under its name -/
def Dx (K : PySem.W.Frag) (mg : Str → Option Value) (x : Str) (st : Stmt) (ps : List Str) : Prop :=
  ∃ f fd, FunD K x x (defArgs st) (defBody st) (defScope st) [] [] f fd ∧ mg x = some (.ref f) ∧ Binds K fd ps []
theorem dx_of {K : PySem.W.Frag} {mg : Str → Option Value} {x : Str} {st : Stmt} {ps : List Str} {f : Addr} (h : ∃ fd, FunD K x x (defArgs st) (defBody st) (defScope st) [] [] f fd) (hm : mg x = some (.ref f))
    (hb : ∀ (kV doc pm : Value) (an : Option Addr) (cdv ct : Value) (us : List Value), us.length = ps.length → bindArgs (PySem.W.fnOf x x (defArgs st) (defBody st) (defScope st) .none kV doc pm an cdv ct) ⟨us, []⟩ = pure (ps.zip us)) : Dx K mg x st ps := by
  obtain ⟨fd, F⟩ := h
  exact ⟨f, fd, F, hm, F.bindsN hb⟩
/-- a def that may be called by its name: it keeps its promise at level k -/
def Cal (P : Program) (w : World) (K : PySem.W.Frag) (mg : Str → Option Value) (base : Heap) (k : Nat) (x : Str) (sp : Sp) : Prop :=
  ∃ (f : Addr) (fd : FuncData) (ps : List Str), FnOk P w K mg base CX0 k f fd ps sp ∧ mg x = some (.ref f) ∧ PySem.W.keepIn K (.ref f) = true ∧ Binds K fd ps []
/-- THE RULE for a def of this text -/
theorem cal_of {P : Program} {w : World} {K : PySem.W.Frag} {mg : Str → Option Value} {base : Heap} {x : Str} {st : Stmt} {N ps : List Str} {k : Nat} {sp : Sp} (D : Dx K mg x st ps) (S : FnScope N ps (defScope st)) (len : ∀ vs H Q E, sp vs H Q E → vs.length = ps.length)
    (hbody : ∀ (f : Addr) (cdv : Value) (A : Around) (outer : List Env) (s : Shared) (H : Hp) (vs : List V) (Q : VK) (E : XK), Room k (A.deeper (envOfC x (defScope st) s.heap.objs.size f cdv)) → sp vs H Q E →
      ∃ t, PSs (cxOf CX0 P w K mg base N x (defScope st) f cdv A outer s H E).nox (defBody st) t ∧ t { nx := fun _ H' => Q .non H', rt := Q } (start N vs) H) : Cal P w K mg base (k + 1) x sp := by
  obtain ⟨f, fd, F, hm, hb⟩ := D
  refine ⟨f, fd, ps, F.ok S len fun cdv A outer s H vs Q E hr hsp => ?_, hm, F.kp, hb⟩
  obtain ⟨t, h, q⟩ := hbody f cdv A outer s H vs Q E hr hsp
  exact ⟨t, h.nox, q⟩
theorem Cal.mono {P : Program} {w : World} {K : PySem.W.Frag} {mg : Str → Option Value} {base : Heap} {j k : Nat} {x : Str} {sp : Sp} (c : Cal P w K mg base j x sp) (h : j ≤ k) : Cal P w K mg base k x sp := by
  obtain ⟨f, fd, ps, F, r⟩ := c
  exact ⟨f, fd, ps, F.mono h, r⟩
/-- f(e, ..), f a def of the module -/
theorem pe_d {X : Cx} {k j : Nat} {x : Str} {sp : Sp} {p pos : Pos} {e : Expr} {es : List Expr} {t : TA} (c : Cal X.prog X.w X.K X.mg X.base k x sp) (hr : Room j X.A) (hk : k ≤ j) (ha : PA X (e :: es) t) (hg : Gl X x := by rfl)
    (hdb : (x == ("__debug__" : Str)) = false := by decide) (he : starEach (e :: es) X.env = (false, eval e X.env) :: starEach es X.env := by rfl) (hpl : (backTo pos (starEach es X.env)).any (·.1) = false := by rfl) :
    PE X (.Call (.Name x p) (e :: es) [] pos) (tCall sp [] E0 t) := by
  obtain ⟨f, fd, ps, F, hm, kp, b⟩ := c
  exact pe_call F (hr.mono hk) hg hm kp b .nil pass0 ha hdb he hpl
/-- what the top leaves -/
structure Txt (K : PySem.W.Frag) (mg : Str → Option Value) : Prop where
  d_is_kind : Dx K mg "is_kind" s_is_kind ["value"]
  d_is_line : Dx K mg "is_line" s_is_line ["value"]
  d_is_part : Dx K mg "is_part" s_is_part ["value", "lines"]
  d_is_plan : Dx K mg "is_plan" s_is_plan ["value"]
  d_check_plan : Dx K mg "check_plan" s_check_plan ["plan"]
  d_lines_in : Dx K mg "lines_in" s_lines_in ["plan"]
  d_least_line : Dx K mg "least_line" s_least_line ["plan"]
  d_flat_form : Dx K mg "flat_form" s_flat_form ["plan"]
  d_pair_kind : Dx K mg "pair_kind" s_pair_kind ["plan", "one", "other"]
  d_flatten : Dx K mg "flatten" s_flatten ["plan"]
  d_kind_table : Dx K mg "kind_table" s_kind_table ["plan"]
  d_is_triple : Dx K mg "is_triple" s_is_triple ["value"]
  d_lines_in_table : Dx K mg "lines_in_table" s_lines_in_table ["table"]
  d_check_table : Dx K mg "check_table" s_check_table ["table"]
  d_kinds_by_pair : Dx K mg "kinds_by_pair" s_kinds_by_pair ["table"]
  d_linked : Dx K mg "linked" s_linked ["lines", "kinds", "kind"]
  d_plan_for : Dx K mg "plan_for" s_plan_for ["lines", "kinds"]
  d_plan_of : Dx K mg "plan_of" s_plan_of ["table"]
  d_find_plan : Dx K mg "find_plan" s_find_plan ["table"]
  d_are_four : Dx K mg "are_four" s_are_four ["four", "kinds"]
  d_rows_of_four : Dx K mg "rows_of_four" s_rows_of_four ["lines"]
  d_find_four : Dx K mg "find_four" s_find_four ["table"]
  d_l_cell : Dx K mg "_law_cell" s_l_cell ["_law_script", "_law_k"]
  d_l_pool : Dx K mg "_law_pool" s_l_pool ["_law_cell_here"]
  d_l_draw : Dx K mg "_law_draw" s_l_draw ["_law_pool_here", "_law_upto"]
  d_l_mixed : Dx K mg "_law_mixed" s_l_mixed ["_law_pool_here", "_law_things"]
  d_l_calls : Dx K mg "_law_calls" s_l_calls ["_law_pool_here", "_law_many"]
  d_l_sort : Dx K mg "_law_sort" s_l_sort ["_law_pool_here"]
  d_l_tree : Dx K mg "_law_tree" s_l_tree ["_law_pool_here", "_law_calls_here"]
  d_l_leaves : Dx K mg "_law_leaves" s_l_leaves ["_law_tree_here"]
  d_l_apart : Dx K mg "_law_apart" s_l_apart ["_law_tree_here", "_law_call", "_law_mate"]
  d_l_pairs : Dx K mg "_law_pairs" s_l_pairs ["_law_calls_here"]
  d_l_chart : Dx K mg "_law_chart" s_l_chart ["_law_tree_here"]
  d_l_sorts : Dx K mg "_law_sorts" s_l_sorts ["_law_chart_here"]
  d_l_is_four : Dx K mg "_law_is_four" s_l_is_four ["_law_sorts_here", "_law_four"]
  d_l_drawn_chart : Dx K mg "_law_drawn_chart" s_l_drawn_chart ["_law_pool_here", "_law_calls_here"]
  d_l_every_chart : Dx K mg "_law_every_chart" s_l_every_chart ["_law_calls_here"]
  d_l_some : Dx K mg "_law_some" s_l_some ["_law_chart_here", "_law_calls_here"]
  d_l_told_right : Dx K mg "_law_told_right" s_l_told_right ["_law_chart_here"]
  d_l_square : Dx K mg "_law_square" s_l_square ["_law_sort_here", "_law_contrary"]
  d_l_right : Dx K mg "_law_right" s_l_right ["_law_pool_here"]
  d_l_law : Dx K mg "law" s_l_law ["_law_script"]
  b_isinstance : mg "isinstance" = none
  b_str : mg "str" = none
  b_tuple : mg "tuple" = none
  b_len : mg "len" = none
  b_all : mg "all" = none
  b_sorted : mg "sorted" = none
  b_list : mg "list" = none
  b_set : mg "set" = none
  b_range : mg "range" = none
  b_enumerate : mg "enumerate" = none
  b_abs : mg "abs" = none
  b_divmod : mg "divmod" = none
  b_min : mg "min" = none
  b_max : mg "max" = none
  b_int : mg "int" = none
  k_LOW : ∃ t, mg "LOW" = some (.str "low" t)
  k_HIGH : ∃ t, mg "HIGH" = some (.str "high" t)
  k_LETTERS : ∃ t, mg "LETTERS" = some (.str "abcdefghijklmnopqrstuvwxyz" t)
  k_MOST_LINES : ∃ t, mg "MOST_LINES" = some (.int 8 t)
  k_MOST_LETTERS : ∃ t, mg "MOST_LETTERS" = some (.int 6 t)
end Fm
set_option maxHeartbeats 2000000
namespace Fm
open PySem PySem.Spec PyProof.Rows L2
/-! ### built-ins by name -/
theorem bt_isinstance : bootBuiltins "isinstance" = some (.builtin "isinstance") := by first | exact PyProof.Rows.boot_isinstance | exact PySem.boot_isinstance | decide +kernel
theorem bt_str : bootBuiltins "str" = some (.type "str") := by first | exact PyProof.Rows.boot_str | exact PySem.boot_str | decide +kernel
theorem bt_tuple : bootBuiltins "tuple" = some (.type "tuple") := by first | exact PyProof.Rows.boot_tuple | exact PySem.boot_tuple | decide +kernel
theorem bt_len : bootBuiltins "len" = some (.builtin "len") := by first | exact PyProof.Rows.boot_len | exact PySem.boot_len | decide +kernel
theorem bt_all : bootBuiltins "all" = some (.builtin "all") := by first | exact PyProof.Rows.boot_all | exact PySem.boot_all | decide +kernel
theorem bt_sorted : bootBuiltins "sorted" = some (.builtin "sorted") := by first | exact PyProof.Rows.boot_sorted | exact PySem.boot_sorted | decide +kernel
theorem bt_list : bootBuiltins "list" = some (.type "list") := by first | exact PyProof.Rows.boot_list | exact PySem.boot_list | decide +kernel
theorem bt_set : bootBuiltins "set" = some (.type "set") := by first | exact PyProof.Rows.boot_set | exact PySem.boot_set | decide +kernel
theorem bt_range : bootBuiltins "range" = some (.type "range") := by first | exact PyProof.Rows.boot_range | exact PySem.boot_range | decide +kernel
theorem bt_enumerate : bootBuiltins "enumerate" = some (.type "enumerate") := by first | exact PyProof.Rows.boot_enumerate | exact PySem.boot_enumerate | decide +kernel
theorem bt_abs : bootBuiltins "abs" = some (.builtin "abs") := by first | exact PyProof.Rows.boot_abs | exact PySem.boot_abs | decide +kernel
theorem bt_divmod : bootBuiltins "divmod" = some (.builtin "divmod") := by first | exact PyProof.Rows.boot_divmod | exact PySem.boot_divmod | decide +kernel
theorem bt_min : bootBuiltins "min" = some (.builtin "min") := by first | exact PyProof.Rows.boot_min | exact PySem.boot_min | decide +kernel
theorem bt_max : bootBuiltins "max" = some (.builtin "max") := by first | exact PyProof.Rows.boot_max | exact PySem.boot_max | decide +kernel
theorem bt_int : bootBuiltins "int" = some (.type "int") := by first | exact PyProof.Rows.boot_int | exact PySem.boot_int | decide +kernel
/-! ### kinds as texts -/
def kS (b : Bool) : Str := if b = true then "low" else "high"
theorem kS_inj {a b : Bool} (h : kS a = kS b) : a = b := by
  cases a <;> cases b <;> first | rfl | exact absurd h (by decide)
theorem kS_eq (a b : Bool) : decide (V.str (kS a) = V.str (kS b)) = decide (a = b) := by
  cases a <;> cases b <;> decide
/-! ### heaps -/
theorem same_new {H : Hp} {p : Addr} {o : HO} (h : H p = none) : Same H (upd H p o) := fun b x e => by
  rw [upd_ne (ne_of_none e h)]
  exact e
theorem sm_new {H H1 : Hp} {p : Addr} {o : HO} (s : Same H H1) (h : H1 p = none) : Same H (upd H1 p o) := s.trans (same_new h)
/-- all but the object at a stays -/
def SameBut (a : Addr) (H H' : Hp) : Prop := ∀ b o, b ≠ a → H b = some o → H' b = some o
theorem sm_but {H H' : Hp} (s : Same H H') (a : Addr) : SameBut a H H' := fun b o _ e => s b o e
theorem SameBut.trans {a : Addr} {H H1 H2 : Hp} (s : SameBut a H H1) (t : SameBut a H1 H2) : SameBut a H H2 := fun b o n e => t b o n (s b o n e)
theorem sameBut_upd {a : Addr} {H : Hp} {o : HO} : SameBut a H (upd H a o) := fun b x n e => by rw [upd_ne n]; exact e
theorem ne_lt {H : Hp} {a b : Addr} {xs : List V} {ys : List V} (h : H a = some (.lst xs)) (h' : H b = some (.tup ys)) : b ≠ a := fun e => by
  rw [e, h] at h'; cases h'
/-- tuples stay -/
def Tups (H H' : Hp) : Prop := ∀ b xs, H b = some (.tup xs) → H' b = some (.tup xs)
theorem sm_tups {H H' : Hp} (s : Same H H') : Tups H H' := fun b xs e => s b _ e
theorem Tups.refl (H : Hp) : Tups H H := fun _ _ e => e
theorem Tups.trans {H H1 H2 : Hp} (s : Tups H H1) (t : Tups H1 H2) : Tups H H2 := fun b xs e => t b xs (s b xs e)
theorem tups_lst {H : Hp} {a : Addr} {xs : List V} {o : HO} (h : H a = some (.lst xs)) : Tups H (upd H a o) := fun b ys e => by rw [upd_ne (ne_lt h e)]; exact e
theorem tups_new {H : Hp} {a : Addr} {o : HO} (h : H a = none) : Tups H (upd H a o) := sm_tups (same_new h)
theorem SameBut.tups {H H' : Hp} {a : Addr} {xs : List V} (h : H a = some (.lst xs)) (s : SameBut a H H') : Tups H H' := fun b ys e => s b _ (ne_lt h e) e
/-- what was there ahead of a new list stays while the list grows -/
theorem sm_grow {H0 H : Hp} {D : Addr} {o : HO} (hD : H0 D = none) (s : Same H0 H) : Same H0 (upd H D o) := fun b x e => by
  rw [upd_ne (ne_of_none e hD)]
  exact s b x e
/-! ### a comprehension whose turns only make things: D the list so far -/
def LcI (H0 : Hp) (D : Addr) (Rel : Nat → List V → Hp → Prop) (i : Nat) (H : Hp) : Prop := ∃ acc, H D = some (.lst acc) ∧ Same H0 H ∧ Rel i acc H
theorem LcI.start {H0 : Hp} {D : Addr} {Rel : Nat → List V → Hp → Prop} (hD : H0 D = none) (r : Rel 0 [] (upd H0 D (.lst []))) : LcI H0 D Rel 0 (upd H0 D (.lst [])) := ⟨[], upd_same, same_new hD, r⟩
theorem LcI.push {H0 H : Hp} {D : Addr} {Rel : Nat → List V → Hp → Prop} {i : Nat} {acc : List V} {y : V} (hD : H0 D = none) (s : Same H0 H) (r : Rel i (acc ++ [y]) (upd H D (.lst (acc ++ [y])))) : LcI H0 D Rel i (upd H D (.lst (acc ++ [y]))) :=
  ⟨acc ++ [y], upd_same, sm_grow hD s, r⟩
/-- no test: the item is kept -/
theorem kept {σ : L2.St} {H : Hp} {A B : Hp → Prop} (h : A H) : tYes σ H (fun b H3 => if b = true then A H3 else B H3) := by
  show if true = true then A H else B H
  rw [if_pos rfl]
  exact h
/-- a truth value that is known -/
theorem bl_to {Q : VK} {b b' : Bool} {H : Hp} (e : b = b') (q : Q (.bl b') H) : Q (.bl b) H := by rw [e]; exact q
theorem ifb {b : Bool} {A B : Prop} (h1 : b = true → A) (h2 : b = false → B) : if b = true then A else B := by
  cases b with
  | true => exact iteT (h1 rfl)
  | false => exact iteF (h2 rfl)
theorem small_of {n m : Nat} (h : n ≤ m) (hm : m ≤ 100000 := by decide) : n < sizeLine := Nat.lt_of_le_of_lt (Nat.le_trans h hm) (by decide)
theorem small_le {n m : Nat} (h : n ≤ m) (hm : m ≤ 100000 := by decide) : n ≤ sizeLine := Nat.le_of_lt (small_of h hm)
/-- a walk's turns, whatever is done in a turn (a comprehension's loop, the outer and the inner one) -/
theorem loop_it {J : It} {n : Nat} {G : Hp → Prop} {Y : Nat → Hp → V → Hp → Prop} (w : Walk J n G Y) {B : V → Hp → (Hp → Prop) → Prop} {H0 : Hp} {Qd : Hp → Prop} (Pv : Nat → Hp → Prop) (h0 : Pv 0 H0) (hG : ∀ i H, i ≤ n → Pv i H → G H)
    (hs : ∀ i x H H', i < n → Pv i H → Y i H x H' → B x H' (Pv (i + 1))) (hd : ∀ H, Pv n H → Qd H) :
    ∃ W : Nat → Nat → Hp → Prop, (∃ m, W 0 m H0) ∧ ∀ i m H, W i m H →
      (J.stop i H ∧ Qd H) ∨ (J.go i H ∧ ∃ Nx : Hp → Prop, (∀ H', Nx H' → ∃ m', m' < m ∧ W (i + 1) m' H') ∧ ∀ x H', J.yld i H x H' → B x H' Nx) := by
  refine ⟨fun i m H => i + m = n ∧ Pv i H, ⟨n, Nat.zero_add n, h0⟩, ?_⟩
  intro i m H hW
  obtain ⟨e, p⟩ := hW
  have q := hG i H (by omega) p
  cases m with
  | zero =>
    have ei : i = n := by omega
    subst ei
    exact .inl ⟨w.stops H q, hd H p⟩
  | succ m =>
    have hi : i < n := by omega
    exact .inr ⟨w.goes i H hi q, Pv (i + 1), fun H' p' => ⟨m, Nat.lt_succ_self m, by omega, p'⟩, fun x H' y => hs i x H H' hi p (w.yields i H x H' hi q y)⟩
/-! ### lines -/
/-- a text of one to six small letters -/
def Line (z : Str) : Prop := 1 ≤ z.cps.size ∧ z.cps.size ≤ 6 ∧ ∀ c, c ∈ z.cps.toList → 97 ≤ c ∧ c ≤ 122
theorem isi_str {K : PySem.W.Frag} : PySem.W.kitOne K (.type "str") (.type "str") = some true := kit_ty (by decide +kernel)
theorem isi_tup_str {K : PySem.W.Frag} : PySem.W.kitOne K (.type "tuple") (.type "str") = some false := kit_ty (by decide +kernel)
theorem isi_tup {K : PySem.W.Frag} : PySem.W.kitOne K (.type "tuple") (.type "tuple") = some true := kit_ty (by decide +kernel)
theorem isi_str_tup {K : PySem.W.Frag} : PySem.W.kitOne K (.type "str") (.type "tuple") = some false := kit_ty (by decide +kernel)
end Fm
set_option maxHeartbeats 2000000
namespace Fm
open PySem PySem.Spec PyProof.Rows L2
section
variable {P : Program} {w : World} {K : PySem.W.Frag} {mg : Str → Option Value} {base : Heap}
theorem sc_is_kind : FnScope ["value"] ["value"] (defScope s_is_kind) := ⟨rfl, rfl, rfl, by decide +kernel, rfl, by decide +kernel, by decide +kernel⟩
def spIsKind : Sp := fun vs H Q _ => ∃ k, vs = [.str (kS k)] ∧ ∀ H', Same H H' → Q (.bl true) H'
theorem kit_str_str : PySem.W.kitOne K (.type "str") (.type "str") = some true := by rfl
theorem c_is_kind (T : Txt K mg) : Cal P w K mg base 1 "is_kind" spIsKind := by
  refine cal_of T.d_is_kind sc_is_kind (fun vs H Q E h => ?_) (fun f cdv A outer s H vs Q E hr h => ?_)
  · obtain ⟨k, rfl, _⟩ := h
    rfl
  · obtain ⟨k, rfl, q⟩ := h
    obtain ⟨tl, hl⟩ := T.k_LOW
    obtain ⟨th, hh⟩ := T.k_HIGH
    refine ⟨_, pss_one (ps_ret (pe_and (pe_callB call_isi (by rfl) T.b_isinstance bt_isinstance (pa_cons (pv 0) (pa_cons (pe_bltn (v := .ty "str") (by rfl) T.b_str bt_str rfl) pa_nil)))
      (pe_one (pe_cmpR op_in_seq (pv 0) (pe_tup (pa_cons (pe_glob (v := .str "low") (by rfl) hl ⟨_, rfl⟩) (pa_cons (pe_glob (v := .str "high") (by rfl) hh ⟨_, rfl⟩) pa_nil))) rfl)))), ?_⟩
    refine ⟨.str (kS k), rfl, _, _, .type "str", .type "str", true, rfl, .ty _, .base (.str _), kit_str_str, true, rfl, ?_⟩
    refine iteT ⟨.str (kS k), rfl, by show 2 ≤ sizeLine; decide, fun p hp => ⟨p, _, rfl, .inr (.inl (.inl upd_same)), rfl, rfl, ?_⟩⟩
    have e : inV (.str (kS k)) [.str "low", .str "high"] = true := by cases k <;> decide
    rw [e]
    exact q _ (same_new hp)
end
end Fm
set_option maxHeartbeats 2000000
namespace Fm
open PySem PySem.Spec PyProof.Rows L2
section
variable {P : Program} {w : World} {K : PySem.W.Frag} {mg : Str → Option Value} {base : Heap}
theorem sc_is_line : FnScope ["value", "sign"] ["value"] (defScope s_is_line) := ⟨rfl, rfl, rfl, by decide +kernel, rfl, by decide +kernel, by decide +kernel⟩
def spIsLine : Sp := fun vs H Q _ => (∃ z, Line z ∧ vs = [.str z] ∧ ∀ H', Same H H' → Q (.bl true) H') ∨ (∃ a xs, vs = [.ref a] ∧ H a = some (.tup xs) ∧ ∀ H', Same H H' → Q (.bl false) H')
theorem letters_mem {c : Nat} (h : 97 ≤ c ∧ c ≤ 122) : c ∈ (("abcdefghijklmnopqrstuvwxyz" : Str)).cps.toList := by
  have e : (("abcdefghijklmnopqrstuvwxyz" : Str)).cps.toList = (List.range 26).map (· + 97) := by decide +kernel
  rw [e, List.mem_map]
  exact ⟨c - 97, List.mem_range.mpr (by omega), by omega⟩
theorem c_is_line (T : Txt K mg) : Cal P w K mg base 1 "is_line" spIsLine := by
  refine cal_of T.d_is_line sc_is_line (fun vs H Q E h => ?_) (fun f cdv A outer s H vs Q E hr h => ?_)
  · rcases h with ⟨z, _, rfl, _⟩ | ⟨a, xs, rfl, _⟩ <;> rfl
  · obtain ⟨tL, hL⟩ := T.k_LETTERS
    obtain ⟨tM, hM⟩ := T.k_MOST_LETTERS
    refine ⟨_, pss_cons (ps_if (PW.pt (pw_or (pt_not (pt_val (pe_callB call_isi (by rfl) T.b_isinstance bt_isinstance (pa_cons (pv 0) (pa_cons (pe_bltn (v := .ty "str") (by rfl) T.b_str bt_str rfl) pa_nil)))))
        (pw_or1 (pt_not (pt_chain op_le op_le pe_int (pe_callB call_len (by rfl) T.b_len bt_len (pa_cons (pv 0) pa_nil)) (pe_glob (v := .int 6) (by rfl) hM ⟨_, rfl⟩))))))
        (pss_one (ps_ret pe_bl)) pss_nil)
      (pss_one (ps_ret (pe_callB (cr_all rfl) (by rfl) T.b_all bt_all (pa_cons (pe_lc (own := [("sign", 1)]) (g := gName 1) (tt := tYes) rfl sc_is_line.nd (pi_str (pv 0)) (blkOk_by (N := ["value", "sign"]) (sc := defScope s_is_line) (by decide +kernel))
        (fun _ _ _ _ _ => pg_name (i := 1) sc_is_line.nd rfl (Or.inl rfl)) (fun _ _ _ _ _ => pts_nil)
        (fun _ _ _ _ _ => pe_cmpR op_in_sign (pv 1) (pe_glob (v := .str "abcdefghijklmnopqrstuvwxyz") (by rfl) hL ⟨_, rfl⟩) rfl)) pa_nil)))), ?_⟩
    rcases h with ⟨z, hz, rfl, q⟩ | ⟨a, xs, rfl, ha, q⟩
    · obtain ⟨z1, z2, z3⟩ := hz
      refine ⟨.str z, rfl, _, _, .type "str", .type "str", true, rfl, .ty _, .base (.str _), isi_str, true, rfl, ?_⟩
      refine iteF ?_
      refine ⟨.str z, rfl, .str z, (z.length : Nat), rfl, ⟨small_le z2, rfl⟩, 1, _, rfl, rfl, _, rfl, ?_⟩
      rw [decide_eq_true (show (1 : Int) ≤ (z.length : Nat) from by have : z.length = z.cps.size := rfl; omega)]
      refine iteT ⟨_, _, rfl, rfl, _, rfl, ?_⟩
      rw [decide_eq_true (show ((z.length : Nat) : Int) ≤ 6 from by have : z.length = z.cps.size := rfl; omega)]
      refine iteF ?_
      refine ⟨.str z, rfl, z, rfl, fun D hD => ?_⟩
      refine lc_it walk_str (LcI H D fun i acc _ => acc = List.replicate i (.bl true)) (LcI.start hD rfl) (fun _ _ _ _ => trivial) (fun i x H1 H1' hi hp hy => ?_) fun H1 hp => ?_
      · obtain ⟨acc, hDa, sm, ea⟩ := hp
        obtain ⟨rfl, c, hc, rfl⟩ := hy
        refine ⟨rfl, kept ?_⟩
        refine ⟨.str ⟨#[c]⟩, rfl, c, _, rfl, rfl, acc, hDa, ?_, ?_⟩
        · rw [ea, List.length_replicate]
          exact small_of (Nat.le_of_lt (Nat.lt_of_lt_of_le hi z2))
        · refine LcI.push hD sm ?_
          have hcm : c ∈ z.cps.toList := Array.mem_toList_iff.mpr (Array.mem_of_getElem? hc)
          rw [decide_eq_true (letters_mem (z3 c hcm)), ea, List.replicate_succ']
      · obtain ⟨acc, hDa, sm, ea⟩ := hp
        refine ⟨D, List.replicate z.cps.size true, rfl, .inl (.inl ?_), ?_⟩
        · rw [hDa, ea, List.map_replicate]
        · have e : (List.replicate z.cps.size true).all id = true := by simp
          rw [e]
          exact q _ sm
    · refine ⟨.ref a, rfl, _, _, .type "tuple", .type "str", false, rfl, .ty _, .base (.tup ha), isi_tup_str, false, rfl, ?_⟩
      exact iteT (iteT (q _ (Same.refl _)))
end
end Fm
set_option maxHeartbeats 2000000
namespace Fm
open PySem PySem.Spec PyProof.Rows L2 FmM
/-! ### a plan in the heap -/
mutual
def PlanAt (H : Hp) : V → Plan Str → Prop
  | v, .leaf z => v = .str z
  | v, .node k ps => ∃ a b vs, v = .ref a ∧ H a = some (.tup [.str (kS k), .ref b]) ∧ H b = some (.tup vs) ∧ PlansAt H vs ps
def PlansAt (H : Hp) : List V → List (Plan Str) → Prop
  | vs, [] => vs = []
  | vs, p :: ps => ∃ v r, vs = v :: r ∧ PlanAt H v p ∧ PlansAt H r ps
end
mutual
theorem PlanAt.tups {H H' : Hp} (t : Tups H H') : ∀ {p : Plan Str} {v : V}, PlanAt H v p → PlanAt H' v p
  | .leaf z, v, h => by rw [PlanAt] at h ⊢; exact h
  | .node k ps, v, h => by
    rw [PlanAt] at h ⊢
    obtain ⟨a, b, vs, e, h1, h2, h3⟩ := h
    exact ⟨a, b, vs, e, t _ _ h1, t _ _ h2, PlansAt.tups t h3⟩
theorem PlansAt.tups {H H' : Hp} (t : Tups H H') : ∀ {ps : List (Plan Str)} {vs : List V}, PlansAt H vs ps → PlansAt H' vs ps
  | [], vs, h => by rw [PlansAt] at h ⊢; exact h
  | p :: ps, vs, h => by
    rw [PlansAt] at h ⊢
    obtain ⟨v, r, e, h1, h2⟩ := h
    exact ⟨v, r, e, PlanAt.tups t h1, PlansAt.tups t h2⟩
end
theorem PlansAt.nil {H : Hp} : PlansAt H [] [] := by rw [PlansAt]
theorem PlansAt.cons {H : Hp} {v : V} {p : Plan Str} {vs : List V} {ps : List (Plan Str)} (h1 : PlanAt H v p) (h2 : PlansAt H vs ps) : PlansAt H (v :: vs) (p :: ps) := by
  rw [PlansAt]; exact ⟨v, vs, rfl, h1, h2⟩
theorem PlansAt.len {H : Hp} : ∀ {ps : List (Plan Str)} {vs : List V}, PlansAt H vs ps → vs.length = ps.length
  | [], vs, h => by rw [PlansAt] at h; rw [h] <;> rfl
  | p :: ps, vs, h => by
    rw [PlansAt] at h
    obtain ⟨v, r, e, _, h2⟩ := h
    rw [e, List.length_cons, List.length_cons, PlansAt.len h2]
theorem PlansAt.get {H : Hp} : ∀ {ps : List (Plan Str)} {vs : List V} {i : Nat} {v : V}, PlansAt H vs ps → vs[i]? = some v → ∃ p, ps[i]? = some p ∧ PlanAt H v p
  | [], vs, i, v, h, e => by rw [PlansAt] at h; rw [h] at e; simp at e
  | p :: ps, vs, 0, v, h, e => by
    rw [PlansAt] at h
    obtain ⟨v', r, e', h1, h2⟩ := h
    rw [e'] at e
    have : v' = v := by simpa using e
    exact ⟨p, rfl, this ▸ h1⟩
  | p :: ps, vs, i + 1, v, h, e => by
    rw [PlansAt] at h
    obtain ⟨v', r, e', h1, h2⟩ := h
    rw [e'] at e
    obtain ⟨q, e1, e2⟩ := PlansAt.get (i := i) h2 (by simpa using e)
    exact ⟨q, by simpa using e1, e2⟩
theorem PlansAt.append {H : Hp} : ∀ {ps qs : List (Plan Str)} {vs ws : List V}, PlansAt H vs ps → PlansAt H ws qs → PlansAt H (vs ++ ws) (ps ++ qs)
  | [], qs, vs, ws, h, h' => by
    rw [PlansAt] at h
    rw [h]; exact h'
  | p :: ps, qs, vs, ws, h, h' => by
    rw [PlansAt] at h
    obtain ⟨v, r, e, h1, h2⟩ := h
    rw [e]
    exact PlansAt.cons h1 (PlansAt.append h2 h')
/-! a plan as data -/
mutual
def planD : Plan Str → PyData
  | .leaf z => .str z
  | .node k ps => .tuple [.str (kS k), .tuple (plansD ps)]
def plansD : List (Plan Str) → List PyData
  | [] => []
  | p :: ps => planD p :: plansD ps
end
mutual
theorem PlanAt.dp {K : PySem.W.Frag} {H : Hp} : ∀ {p : Plan Str} {v : V}, PlanAt H v p → Dp K H v (planD p)
  | .leaf z, v, h => by
    rw [PlanAt] at h
    rw [planD, h]
    exact .str z
  | .node k ps, v, h => by
    rw [PlanAt] at h
    obtain ⟨a, b, vs, e, h1, h2, h3⟩ := h
    rw [planD, e]
    exact .tup (.inl (.inl h1)) (.cons (.str _) (.cons (.tup (.inl (.inl h2)) (PlansAt.dp h3)) .nil))
theorem PlansAt.dp {K : PySem.W.Frag} {H : Hp} : ∀ {ps : List (Plan Str)} {vs : List V}, PlansAt H vs ps → DpAll K H vs (plansD ps)
  | [], vs, h => by
    rw [PlansAt] at h
    rw [plansD, h]
    exact .nil
  | p :: ps, vs, h => by
    rw [PlansAt] at h
    obtain ⟨v, r, e, h1, h2⟩ := h
    rw [plansD, e]
    exact .cons (PlanAt.dp h1) (PlansAt.dp h2)
end
/-! ### a tuple of lines, a table -/
def LinesAt (H : Hp) (v : V) (ls : List Str) : Prop := ∃ a, v = .ref a ∧ H a = some (.tup (ls.map V.str))
theorem LinesAt.tups {H H' : Hp} {v : V} {ls : List Str} (t : Tups H H') (h : LinesAt H v ls) : LinesAt H' v ls := let ⟨a, e, h⟩ := h; ⟨a, e, t _ _ h⟩
abbrev Tri := Str × Str × Bool
def triV (t : Tri) : List V := [.str t.1, .str t.2.1, .str (kS t.2.2)]
def TriAt (H : Hp) (v : V) (t : Tri) : Prop := ∃ a, v = .ref a ∧ H a = some (.tup (triV t))
def TrisAt (H : Hp) : List V → List Tri → Prop := Paired (TriAt H)
def TabAt (H : Hp) (v : V) (ts : List Tri) : Prop := ∃ a vs, v = .ref a ∧ H a = some (.tup vs) ∧ TrisAt H vs ts
theorem TriAt.tups {H H' : Hp} {v : V} {t : Tri} (s : Tups H H') (h : TriAt H v t) : TriAt H' v t := let ⟨a, e, h⟩ := h; ⟨a, e, s _ _ h⟩
theorem TrisAt.tups {H H' : Hp} {vs : List V} {ts : List Tri} (s : Tups H H') (h : TrisAt H vs ts) : TrisAt H' vs ts := Paired.mapP h fun _ _ q => q.tups s
theorem TabAt.tups {H H' : Hp} {v : V} {ts : List Tri} (s : Tups H H') (h : TabAt H v ts) : TabAt H' v ts := let ⟨a, vs, e, h, q⟩ := h; ⟨a, vs, e, s _ _ h, q.tups s⟩
theorem paired_get {α β : Type} {R : α → β → Prop} : ∀ {l : List α} {m : List β} {i : Nat} {x : α}, Paired R l m → l[i]? = some x → ∃ y, m[i]? = some y ∧ R x y
  | _, _, _, _, .nil, e => by simp at e
  | _, _, 0, _, .cons r _, e => by simp at e; subst e; exact ⟨_, rfl, r⟩
  | _, _, i + 1, x, .cons _ t, e => by
    obtain ⟨u, h1, h2⟩ := paired_get (i := i) (x := x) t (by simpa using e)
    exact ⟨u, by simpa using h1, h2⟩
theorem paired_get' {α β : Type} {R : α → β → Prop} : ∀ {l : List α} {m : List β} {i : Nat} {y : β}, Paired R l m → m[i]? = some y → ∃ x, l[i]? = some x ∧ R x y
  | _, _, _, _, .nil, e => by simp at e
  | _, _, 0, _, .cons r _, e => by simp at e; subst e; exact ⟨_, rfl, r⟩
  | _, _, i + 1, x, .cons _ t, e => by
    obtain ⟨u, h1, h2⟩ := paired_get' (i := i) (y := x) t (by simpa using e)
    exact ⟨u, by simpa using h1, h2⟩
theorem paired_append {α β : Type} {R : α → β → Prop} : ∀ {l l' : List α} {m m' : List β}, Paired R l m → Paired R l' m' → Paired R (l ++ l') (m ++ m')
  | _, _, _, _, .nil, s => s
  | _, _, _, _, .cons r t, s => .cons r (paired_append t s)
def triD (t : Tri) : PyData := .tuple [.str t.1, .str t.2.1, .str (kS t.2.2)]
def tabD (ts : List Tri) : PyData := .tuple (ts.map triD)
theorem TriAt.dp {K : PySem.W.Frag} {H : Hp} {v : V} {t : Tri} (h : TriAt H v t) : Dp K H v (triD t) := by
  obtain ⟨a, e, h⟩ := h
  rw [e]
  exact .tup (.inl (.inl h)) (.cons (.str _) (.cons (.str _) (.cons (.str _) .nil)))
theorem TrisAt.dp {K : PySem.W.Frag} {H : Hp} : ∀ {vs : List V} {ts : List Tri}, TrisAt H vs ts → DpAll K H vs (ts.map triD)
  | _, _, .nil => .nil
  | _, _, .cons r t => .cons r.dp (TrisAt.dp t)
theorem TabAt.dp {K : PySem.W.Frag} {H : Hp} {v : V} {ts : List Tri} (h : TabAt H v ts) : Dp K H v (tabD ts) := by
  obtain ⟨a, vs, e, h, q⟩ := h
  rw [e]
  exact .tup (.inl (.inl h)) q.dp
theorem TrisAt.len {H : Hp} {vs : List V} {ts : List Tri} (h : TrisAt H vs ts) : vs.length = ts.length := Paired.length h
end Fm
set_option maxHeartbeats 2000000
namespace Fm
open PySem PySem.Spec PyProof.Rows L2
/-! ### xs.count(z), texts -/
def rCountS (K : PySem.W.Frag) : V → List V → Hp → VK → Prop := fun x xs H Q => ∃ (l : Addr) (ys : List Str) (z : Str), x = .ref l ∧ xs = [.str z] ∧ SqL K H l (ys.map V.str) ∧ Q (.int ((ys.count z : Nat) : Int)) H
theorem countIn_strs (z : Str) : ∀ ys : List Str, countIn (.str z) (ys.map PyData.str) = ((ys.count z : Nat) : Int)
  | [] => rfl
  | y :: ys => by
    have h1 : countIn (.str z) ((y :: ys).map PyData.str) = (if (y == z) = true then 1 else 0) + countIn (.str z) (ys.map PyData.str) := rfl
    rw [h1, countIn_strs z ys, List.count_cons]
    by_cases e : (y == z) = true
    · rw [if_pos e, if_pos e]; omega
    · rw [if_neg e, if_neg e]; omega
theorem mt_countS {X : Cx} : MtR X "list.count" (rCountS X.K) := by
  intro pins s σ H x xs v us Q I rx rxs h
  obtain ⟨l, ys, z, rfl, rfl, hl, q⟩ := h
  obtain ⟨its, rv, pl, _⟩ := I.list hl
  cases rx
  obtain ⟨u, rfl, t, rfl⟩ := rxs.one
  refine count_list_strs pl.isList rv.strs ?_
  rw [countIn_strs]
  exact ⟨.int _, H, I.tok _, ⟨_, rfl⟩, q⟩
end Fm
set_option maxHeartbeats 2000000
namespace Fm
open PySem PySem.Spec PyProof.Rows L2 FmM
section
variable {P : Program} {w : World} {K : PySem.W.Frag} {mg : Str → Option Value} {base : Heap}
theorem sc_is_part : FnScope ["value", "lines", "part"] ["value", "lines"] (defScope s_is_part) := ⟨rfl, rfl, rfl, by decide +kernel, rfl, by decide +kernel, by decide +kernel⟩
def spIsPart (n : Nat) : Sp := fun vs H Q _ => ∃ v p l acc, vs = [v, .ref l] ∧ PlanAt H v p ∧ H l = some (.lst (acc.map V.str)) ∧ p.Good ∧ p.lines.length ≤ n ∧ (∀ z, z ∈ p.lines → Line z) ∧ (acc ++ p.lines).Nodup ∧ (acc ++ p.lines).length ≤ 8 ∧
  ∀ H', SameBut l H H' → H' l = some (.lst ((acc ++ p.lines).map V.str)) → Q (.bl true) H'
theorem c_is_part (T : Txt K mg) : ∀ n, Cal P w K mg base (n + 2) "is_part" (spIsPart n) := by
  intro n
  induction n with
  | zero =>
    refine cal_of T.d_is_part sc_is_part (fun vs H Q E h => ?_) (fun f cdv A outer s H vs Q E hr h => ?_)
    · obtain ⟨v, p, l, acc, rfl, _⟩ := h
      rfl
    · obtain ⟨v, p, l, acc, rfl, _, _, g, hn, _⟩ := h
      have := List.length_pos_iff.mpr (Plan.lines_ne g)
      omega
  | succ n ih =>
    refine cal_of T.d_is_part sc_is_part (fun vs H Q E h => ?_) (fun f cdv A outer s H vs Q E hr h => ?_)
    · obtain ⟨v, p, l, acc, rfl, _⟩ := h
      rfl
    · obtain ⟨v, p, l, acc, rfl, hv, hl, g, hn, hz, nd, h8, q⟩ := h
      obtain ⟨tM, hM⟩ := T.k_MOST_LINES
      have hE : ∀ X : Cx, True := fun _ => trivial
      refine ⟨_, pss_cons (ps_if (pt_val (pe_d (c_is_line T) hr (by omega) (pa_cons (pv 0) pa_nil)))
          (pss_cons (ps_expr (pe_bm PySem.F.plainAttrs_list PySem.F.slot_list_append PySem.F.type_list_append mt_append (pv 1) (pa_cons (pv 0) pa_nil)))
            (pss_one (ps_ret (pe_and (pe_cmpR op_eq (pe_bm PySem.F.plainAttrs_list PySem.F.slot_list_count PySem.F.type_list_count mt_countS (pv 1) (pa_cons (pv 0) pa_nil)) pe_int (nomark _))
              (pe_one (pe_cmpR op_le (pe_callB call_len (by rfl) T.b_len bt_len (pa_cons (pv 1) pa_nil)) (pe_glob (v := .int 8) (by rfl) hM ⟨_, rfl⟩) (nomark _))))))) pss_nil)
        (pss_cons (ps_if (PW.pt (pw_or (pt_not (pt_val (pe_callB call_isi (by rfl) T.b_isinstance bt_isinstance (pa_cons (pv 0) (pa_cons (pe_bltn (v := .ty "tuple") (by rfl) T.b_tuple bt_tuple rfl) pa_nil)))))
            (pw_or (pt_cmpR op_ne (pe_callB call_len (by rfl) T.b_len bt_len (pa_cons (pv 0) pa_nil)) pe_int (nomark _))
              (pw_or1 (pt_not (pt_val (pe_d (c_is_kind T) hr (by omega) (pa_cons (pe_ix ix_tup (pv 0) pe_int (fun _ _ => rfl)) pa_nil))))))))
            (pss_one (ps_ret pe_bl)) pss_nil)
        (pss_cons (ps_if (PW.pt (pw_or (pt_not (pt_val (pe_callB call_isi (by rfl) T.b_isinstance bt_isinstance (pa_cons (pe_ix ix_tup (pv 0) pe_int (fun _ _ => rfl)) (pa_cons (pe_bltn (v := .ty "tuple") (by rfl) T.b_tuple bt_tuple rfl) pa_nil)))))
            (pw_or1 (pt_cmpR op_lt (pe_callB call_len (by rfl) T.b_len bt_len (pa_cons (pe_ix ix_tup (pv 0) pe_int (fun _ _ => rfl)) pa_nil)) pe_int (nomark _)))))
            (pss_one (ps_ret pe_bl)) pss_nil)
        (pss_cons (ps_for PassesOwn.never rfl (pi_tup (pe_ix ix_tup (pv 0) pe_int (fun _ _ => rfl))) (pg_name (i := 2) sc_is_part.nd rfl (Or.inl rfl))
            (pss_one (ps_if (pt_not (pt_val (pe_d ih hr (by omega) (pa_cons (pv 2) (pa_cons (pv 1) pa_nil))))) (pss_one (ps_ret pe_bl)) pss_nil)))
        (pss_one (ps_ret pe_bl))))), ?_⟩
      cases p with
      | leaf z =>
        rw [PlanAt] at hv
        rw [Plan.lines] at hz nd h8 q
        subst hv
        refine ⟨_, rfl, .inl ⟨z, hz z (by simp), rfl, fun H1 s1 => ?_⟩⟩
        refine ⟨true, rfl, iteT ?_⟩
        have hl1 := s1 _ _ hl
        have hlen : acc.length < 8 := by
          rw [List.length_append, List.length_singleton] at h8
          omega
        refine ⟨_, rfl, .inl ⟨rfl, _, .inl (.inl hl1)⟩, _, rfl, l, _, _, rfl, rfl, hl1, ?_, ?_⟩
        · rw [List.length_map]
          exact small_of (Nat.le_of_lt hlen)
        · have el : acc.map V.str ++ [V.str z] = (acc ++ [z]).map V.str := by simp
          have hl2 : (upd H1 l (.lst (acc.map V.str ++ [V.str z]))) l = some (.lst ((acc ++ [z]).map V.str)) := by rw [upd_same, el]
          refine ⟨_, rfl, .inl ⟨rfl, _, .inl (.inl hl2)⟩, _, rfl, l, _, z, rfl, rfl, .inl (.inl hl2), ?_⟩
          have ec : (acc ++ [z]).count z = 1 := by
            have nz : z ∉ acc := fun m => by
              rw [List.nodup_append] at nd
              exact nd.2.2 z m z (by simp) rfl
            rw [List.count_append, List.count_eq_zero.mpr nz]
            simp
          rw [ec]
          refine ⟨rfl, true, rfl, iteT ?_⟩
          refine ⟨_, rfl, _, _, rfl, .inl ⟨_, .inl (.inl hl2), rfl⟩, _, _, rfl, rfl, ?_⟩
          exact bl_to (decide_eq_true (show (((acc ++ [z]).map V.str).length : Int) ≤ 8 by rw [List.length_map]; omega)) (q _ ((sm_but s1 l).trans sameBut_upd) hl2)
      | node k ps =>
        rw [PlanAt] at hv
        obtain ⟨a, b, ws, rfl, ha, hb, hp⟩ := hv
        have hg := g
        rw [Plan.Good] at hg
        rw [Plan.lines] at hz nd h8 q
        refine ⟨_, rfl, .inr ⟨a, _, rfl, ha, fun H1 s1 => ?_⟩⟩
        refine ⟨false, rfl, iteF ?_⟩
        have ha1 := s1 _ _ ha
        have hb1 := s1 _ _ hb
        have hl1 := s1 _ _ hl
        have sa1 : SqT K H1 a [.str (kS k), .ref b] := .inl (.inl ha1)
        refine ⟨_, rfl, _, _, .type "tuple", .type "tuple", true, rfl, .ty _, .base (.tup ha1), isi_tup, true, rfl, ?_⟩
        refine iteF ⟨_, rfl, _, 2, rfl, .inr ⟨_, sa1, rfl⟩, rfl, false, rfl, ?_⟩
        refine iteF ⟨_, rfl, a, _, 0, _, rfl, rfl, sa1, atI_nat (j := 0) rfl, k, rfl, fun H2 s2 => ?_⟩
        refine ⟨true, rfl, iteF ?_⟩
        have sa2 : SqT K H2 a [.str (kS k), .ref b] := .inl (.inl (s2 _ _ ha1))
        have hb2 := s2 _ _ hb1
        have hl2 := s2 _ _ hl1
        have hwl : ws.length = ps.length := hp.len
        refine ⟨_, rfl, a, _, 1, _, rfl, rfl, sa2, atI_nat (j := 1) rfl, _, _, .type "tuple", .type "tuple", true, rfl, .ty _, .base (.tup hb2), isi_tup, true, rfl, ?_⟩
        refine iteF ⟨_, rfl, a, _, 1, _, rfl, rfl, sa2, atI_nat (j := 1) rfl, _, _, rfl, .inr ⟨ws, .inl (.inl hb2), rfl⟩, _, _, rfl, rfl, _, rfl, ?_⟩
        rw [decide_eq_false (show ¬ ((ws.length : Nat) : Int) < 2 by have := hg.1; omega)]
        refine iteF ?_
        refine ⟨_, rfl, a, _, 1, _, rfl, rfl, sa2, atI_nat (j := 1) rfl, b, rfl, ⟨ws, .inl (.inl hb2)⟩, ?_⟩
        refine for_tup (xs := ws) (fun i σ H3 => ∃ y, σ = [some (.ref a), some (.ref l), y] ∧ SameBut l H2 H3 ∧ H3 l = some (.lst ((acc ++ linesL (ps.take i)).map V.str))) ⟨none, rfl, fun _ _ _ e => e, ?_⟩ (fun i σ H3 hi p => ?_) (fun i x σ H3 hx p => ?_) (fun σ H3 p => ?_)
        · rw [List.take_zero, linesL, List.append_nil]
          exact hl2
        · obtain ⟨y, rfl, sb, _⟩ := p
          exact .inl (.inl (sb b _ (ne_lt hl2 hb2) hb2))
        · obtain ⟨y, rfl, sb, e3⟩ := p
          obtain ⟨pi, hpi, hxp⟩ := hp.get hx
          have hmem : pi ∈ ps := List.mem_of_getElem? hpi
          have et : ps.take (i + 1) = ps.take i ++ [pi] := by rw [List.take_add_one, hpi]; rfl
          have el : acc ++ linesL (ps.take i) ++ pi.lines = acc ++ linesL (ps.take (i + 1)) := by
            rw [et, linesL_append, linesL, linesL, List.append_nil, List.append_assoc]
          have esub : (acc ++ linesL (ps.take (i + 1))).Sublist (acc ++ linesL ps) := by
            refine List.Sublist.append_left ?_ _
            conv => rhs; rw [← List.take_append_drop (i + 1) ps, linesL_append]
            exact List.sublist_append_left _ _
          have t3 : Tups H H3 := (sm_tups s1).trans ((sm_tups s2).trans (sb.tups hl2))
          refine ⟨_, rfl, _, rfl, x, pi, l, acc ++ linesL (ps.take i), rfl, hxp.tups t3, e3, goodL_mem hg.2 pi hmem, ?_, fun z hz' => hz z (mem_linesL.mpr ⟨pi, hmem, hz'⟩), ?_, ?_, fun H4 s4 e4 => ?_⟩
          · have := part_len g hmem
            omega
          · rw [el]; exact nd.sublist esub
          · rw [el]; exact Nat.le_trans esub.length_le h8
          · refine ⟨true, rfl, iteF ⟨some x, rfl, sb.trans s4, ?_⟩⟩
            rw [el] at e4
            exact e4
        · obtain ⟨y, rfl, sb, e3⟩ := p
          rw [List.take_of_length_le (by omega)] at e3
          exact q _ (((sm_but s1 l).trans (sm_but s2 l)).trans sb) e3
end
end Fm
set_option maxHeartbeats 2000000
namespace Fm
open PySem PySem.Spec PyProof.Rows L2
/-! ### the order of texts -/
def LtS (a b : Str) : Prop := a.cps.toList < b.cps.toList
instance (a b : Str) : Decidable (LtS a b) := by unfold LtS; infer_instance
theorem LtS.irrefl (a : Str) : ¬ LtS a a := List.lt_irrefl _
theorem LtS.trans {a b c : Str} (h : LtS a b) (k : LtS b c) : LtS a c := List.lt_trans h k
theorem LtS.asymm {a b : Str} (h : LtS a b) : ¬ LtS b a := List.lt_asymm h
theorem str_ext {a b : Str} (h : a.cps.toList = b.cps.toList) : a = b := by
  cases a; cases b
  congr
  exact Array.toList_inj.mp h
theorem LtS.tri (a b : Str) : LtS a b ∨ a = b ∨ LtS b a := by
  by_cases h : LtS a b
  · exact .inl h
  · by_cases k : LtS b a
    · exact .inr (.inr k)
    · exact .inr (.inl (str_ext (List.le_antisymm (List.not_lt.mp k) (List.not_lt.mp h))))
theorem LtS.ne {a b : Str} (h : LtS a b) : a ≠ b := fun e => LtS.irrefl b (e ▸ h)
def leS (a b : Str) : Bool := !decide (LtS b a)
theorem leS_trans (a b c : Str) (h : leS a b = true) (k : leS b c = true) : leS a c = true := by
  unfold leS at *
  simp only [Bool.not_eq_true', decide_eq_false_iff_not] at *
  intro z
  rcases LtS.tri a b with e | e | e
  · exact k (z.trans e)
  · exact k (e ▸ z)
  · exact h e
theorem leS_total (a b : Str) : (leS a b || leS b a) = true := by
  unfold leS
  rw [Bool.or_eq_true, Bool.not_eq_true', Bool.not_eq_true', decide_eq_false_iff_not, decide_eq_false_iff_not]
  by_cases h : LtS b a
  · exact .inr h.asymm
  · exact .inl h
theorem leS_antisymm {a b : Str} (h : leS a b = true) (k : leS b a = true) : a = b := by
  unfold leS at *
  simp only [Bool.not_eq_true', decide_eq_false_iff_not] at *
  rcases LtS.tri a b with e | e | e
  · exact absurd e k
  · exact e
  · exact absurd e h
/-- ascending -/
def Asc (l : List Str) : Prop := l.Pairwise LtS
def srt (l : List Str) : List Str := l.mergeSort leS
theorem srt_perm (l : List Str) : (srt l).Perm l := List.mergeSort_perm _ _
theorem srt_pw (l : List Str) : (srt l).Pairwise fun a b => leS a b = true := List.pairwise_mergeSort leS_trans leS_total l
theorem LtS.le {a b : Str} (h : LtS a b) : leS a b = true := by
  unfold leS
  rw [Bool.not_eq_true', decide_eq_false_iff_not]
  exact h.asymm
theorem Asc.nodup {l : List Str} (h : Asc l) : l.Nodup := h.imp fun a => a.ne
theorem asc_of {l : List Str} (h : l.Pairwise fun a b => leS a b = true) (nd : l.Nodup) : Asc l := by
  refine (List.pairwise_and_iff.mpr ⟨h, nd⟩).imp fun {a b} ⟨h, n⟩ => ?_
  unfold leS at h
  rw [Bool.not_eq_true', decide_eq_false_iff_not] at h
  rcases LtS.tri a b with e | e | e
  · exact e
  · exact absurd e n
  · exact absurd e h
theorem srt_asc {l : List Str} (nd : l.Nodup) : Asc (srt l) := asc_of (srt_pw l) ((srt_perm l).nodup_iff.mpr nd)
theorem srt_eq {l m : List Str} (p : l.Perm m) (h : m.Pairwise fun a b => leS a b = true) : srt l = m :=
  List.Perm.eq_of_pairwise (fun a b _ _ => leS_antisymm) (srt_pw l) h ((srt_perm l).trans p)
theorem srt_of_asc {l m : List Str} (p : l.Perm m) (h : Asc m) : srt l = m := srt_eq p (h.imp LtS.le)
theorem srt_self {l : List Str} (h : Asc l) : srt l = l := srt_of_asc (List.Perm.refl _) h
theorem srt_congr {l m : List Str} (p : l.Perm m) : srt l = srt m := srt_eq (p.trans (srt_perm m).symm) (srt_pw m)
theorem srt_mem {l : List Str} {a : Str} : a ∈ srt l ↔ a ∈ l := (srt_perm l).mem_iff
theorem srt_len (l : List Str) : (srt l).length = l.length := (srt_perm l).length_eq
theorem leS_cps (a b : Str) : leS a b = !ltCps b.cps.toList a.cps.toList := by
  rw [ltCps_eq]
  rfl
theorem rising_pw : ∀ (l : List Str) (p : Str), risingS p l = true → (p :: l).Pairwise fun a b => leS a b = true
  | [], p, _ => by simp
  | x :: r, p, h => by
    have h2 : (!ltCps x.cps.toList p.cps.toList && risingS x r) = true := h
    rw [Bool.and_eq_true, ← leS_cps] at h2
    have ih := rising_pw r x h2.2
    refine List.pairwise_cons.mpr ⟨fun y hy => ?_, ih⟩
    rcases List.mem_cons.mp hy with e | hy
    · rw [e]; exact h2.1
    · exact leS_trans _ _ _ h2.1 ((List.pairwise_cons.mp ih).1 y hy)
theorem sorted_pw : ∀ {l : List Str}, sortedS l = true → l.Pairwise fun a b => leS a b = true
  | [], _ => List.Pairwise.nil
  | x :: r, h => rising_pw r x h
/-- what sorted gives -/
theorem sorted_is {xs ys : List Str} (p : ys.Perm xs) (h : sortedS ys = true) : ys = srt xs := (srt_eq p.symm (sorted_pw h)).symm
end Fm
set_option maxHeartbeats 2000000
namespace Fm
open PySem PySem.Spec PyProof.Rows L2 FmM
section
variable {P : Program} {w : World} {K : PySem.W.Frag} {mg : Str → Option Value} {base : Heap}
/-- a plan as the document has it -/
structure PlanOk (p : Plan Str) : Prop where
  good : p.Good
  line : ∀ z, z ∈ p.lines → Line z
  nd : p.lines.Nodup
  le : p.lines.length ≤ 8
/-! ### is_plan, check_plan -/
theorem sc_is_plan : FnScope ["value"] ["value"] (defScope s_is_plan) := ⟨rfl, rfl, rfl, by decide +kernel, rfl, by decide +kernel, by decide +kernel⟩
def spIsPlan : Sp := fun vs H Q _ => ∃ v p, vs = [v] ∧ PlanAt H v p ∧ PlanOk p ∧ ∀ H', Same H H' → Q (.bl true) H'
theorem c_is_plan (T : Txt K mg) : Cal P w K mg base 11 "is_plan" spIsPlan := by
  refine cal_of T.d_is_plan sc_is_plan (fun vs H Q E h => ?_) (fun f cdv A outer s H vs Q E hr h => ?_)
  · obtain ⟨v, p, rfl, _⟩ := h
    rfl
  · obtain ⟨v, p, rfl, hv, ok, q⟩ := h
    refine ⟨_, pss_one (ps_ret (pe_d (c_is_part T 8) hr (by omega) (pa_cons (pv 0) (pa_cons (pe_lst pa_nil) pa_nil)))), ?_⟩
    refine ⟨_, rfl, Nat.zero_le _, fun l hl => ⟨v, p, l, [], rfl, hv.tups (tups_new hl), upd_same, ok.good, ok.le, ok.line, ?_, ?_, fun H' sb e => ?_⟩⟩
    · rw [List.nil_append]; exact ok.nd
    · rw [List.nil_append]; exact ok.le
    · exact q _ fun b o e => sb b o (ne_of_none e hl) (by rw [upd_ne (ne_of_none e hl)]; exact e)
theorem sc_check_plan : FnScope ["plan"] ["plan"] (defScope s_check_plan) := ⟨rfl, rfl, rfl, by decide +kernel, rfl, by decide +kernel, by decide +kernel⟩
def spCheckPlan : Sp := fun vs H Q _ => ∃ v p, vs = [v] ∧ PlanAt H v p ∧ PlanOk p ∧ ∀ H', Same H H' → Q .non H'
theorem c_check_plan (T : Txt K mg) : Cal P w K mg base 12 "check_plan" spCheckPlan := by
  refine cal_of T.d_check_plan sc_check_plan (fun vs H Q E h => ?_) (fun f cdv A outer s H vs Q E hr h => ?_)
  · obtain ⟨v, p, rfl, _⟩ := h
    rfl
  · obtain ⟨v, p, rfl, hv, ok, q⟩ := h
    refine ⟨_, pss_one (ps_if (pt_not (pt_val (pe_d (c_is_plan T) hr (by omega) (pa_cons (pv 0) pa_nil)))) (pss_one ps_never) pss_nil), ?_⟩
    exact ⟨_, rfl, v, p, rfl, hv, ok, fun H' s' => ⟨true, rfl, iteF (q _ s')⟩⟩
/-! ### lines_in -/
theorem sc_lines_in : FnScope ["plan", "part", "line"] ["plan"] (defScope s_lines_in) := ⟨rfl, rfl, rfl, by decide +kernel, rfl, by decide +kernel, by decide +kernel⟩
def spLinesIn (n : Nat) : Sp := fun vs H Q _ => ∃ v p, vs = [v] ∧ PlanAt H v p ∧ p.Good ∧ p.lines.Nodup ∧ p.lines.length ≤ n ∧ p.lines.length ≤ 8 ∧ ∀ H' r, Same H H' → LinesAt H' r (srt p.lines) → Q r H'
theorem c_lines_in_n (T : Txt K mg) : ∀ n, Cal P w K mg base (n + 1) "lines_in" (spLinesIn n) := by
  intro n
  induction n with
  | zero =>
    refine cal_of T.d_lines_in sc_lines_in (fun vs H Q E h => ?_) (fun f cdv A outer s H vs Q E hr h => ?_)
    · obtain ⟨v, p, rfl, _⟩ := h
      rfl
    · obtain ⟨v, p, rfl, _, g, _, hn, _⟩ := h
      have := List.length_pos_iff.mpr (Plan.lines_ne g)
      omega
  | succ n ih =>
    refine cal_of T.d_lines_in sc_lines_in (fun vs H Q E h => ?_) (fun f cdv A outer s H vs Q E hr h => ?_)
    · obtain ⟨v, p, rfl, _⟩ := h
      rfl
    · obtain ⟨v, p, rfl, hv, g, nd, hn, h8, q⟩ := h
      refine ⟨_, pss_cons (ps_if (pt_val (pe_callB call_isi (by rfl) T.b_isinstance bt_isinstance (pa_cons (pv 0) (pa_cons (pe_bltn (v := .ty "str") (by rfl) T.b_str bt_str rfl) pa_nil))))
          (pss_one (ps_ret (pe_tup (pa_cons (pv 0) pa_nil)))) pss_nil)
        (pss_one (ps_ret (pe_callTy call_tuple_of (by rfl) T.b_tuple bt_tuple (pa_cons (pe_callB cr_sortedS (by rfl) T.b_sorted bt_sorted (pa_cons
          (pe_lc2 (own := [("part", 1), ("line", 2)]) (vs1 := [2]) (g := gName 1) (g1 := gName 2) (tt := tYes) (tt1 := tYes) (wi1 := iTup K (tCall (spLinesIn n) [] E0 (tCons (tVar 1) tNil))) rfl sc_lines_in.nd (pi_tup (pe_ix ix_tup (pv 0) pe_int (fun _ _ => rfl)))
            (blkOk_by (N := ["plan", "part", "line"]) (sc := defScope s_lines_in) (by decide +kernel)) (by decide)
            (fun _ _ _ _ _ => pg_name (i := 1) sc_lines_in.nd rfl (Or.inl rfl)) (fun _ _ _ _ _ => pts_nil)
            (fun _ _ _ _ _ => pi_tup (pe_d ih hr (by omega) (pa_cons (pv 1) pa_nil)))
            (fun _ _ _ _ _ => pg_name (i := 2) sc_lines_in.nd rfl (Or.inl rfl)) (fun _ _ _ _ _ => pts_nil)
            (fun _ _ _ _ _ => pv 2)) pa_nil)) pa_nil)))), ?_⟩
      cases p with
      | leaf z =>
        rw [PlanAt] at hv
        subst hv
        refine ⟨_, rfl, _, _, .type "str", .type "str", true, rfl, .ty _, .base (.str _), isi_str, true, rfl, ?_⟩
        refine iteT ⟨_, rfl, by show 1 ≤ sizeLine; decide, fun a ha => q _ _ (same_new ha) ⟨a, rfl, ?_⟩⟩
        rw [upd_same, Plan.lines, srt_self (show Asc [z] from List.pairwise_singleton _ _)]
        rfl
      | node k ps =>
        rw [PlanAt] at hv
        obtain ⟨a, b, ws, rfl, ha, hb, hp⟩ := hv
        have hg := g
        rw [Plan.Good] at hg
        refine ⟨_, rfl, _, _, .type "tuple", .type "str", false, rfl, .ty _, .base (.tup ha), isi_tup_str, false, rfl, ?_⟩
        refine iteF ⟨_, rfl, a, _, 1, _, rfl, rfl, .inl (.inl ha), atI_nat (j := 1) rfl, b, rfl, ⟨ws, .inl (.inl hb)⟩, fun D hD => ?_⟩
        have hwl := hp.len
        -- the outer loop: the lines of the parts so far
        refine loop_it (walk_tup (xs := ws)) (LcI H D fun i acc _ => acc = ((ps.take i).flatMap fun p => srt p.lines).map V.str) (LcI.start hD (by simp)) (fun i H1 _ p1 => ?_) (fun i x H1 H1' hi p1 hy => ?_) fun H1 p1 => ?_
        · obtain ⟨acc, _, sm, _⟩ := p1
          exact .inl (.inl (sm _ _ hb))
        · obtain ⟨acc, hDa, sm, ea⟩ := p1
          obtain ⟨rfl, hx⟩ := hy
          obtain ⟨pi, hpi, hxp⟩ := hp.get hx
          have hmem : pi ∈ ps := List.mem_of_getElem? hpi
          have hlt := part_len g hmem
          have sub : pi.lines.Sublist (Plan.node k ps).lines := by
            rw [Plan.lines]
            exact part_sub hmem
          refine ⟨rfl, kept ?_⟩
          refine ⟨x, rfl, x, pi, rfl, hxp.tups (sm_tups sm), goodL_mem hg.2 pi hmem, nd.sublist sub, by omega, by omega, fun H2 r s2 hr2 => ?_⟩
          obtain ⟨c, rfl, hc⟩ := hr2
          refine ⟨c, rfl, ⟨_, .inl (.inl hc)⟩, ?_⟩
          -- the inner loop
          have hD2 := s2 _ _ hDa
          refine loop_it (walk_tup (xs := (srt pi.lines).map V.str)) (LcI H D fun j acc' H3 => acc' = acc ++ ((srt pi.lines).take j).map V.str ∧ H3 c = some (.tup ((srt pi.lines).map V.str))) ⟨acc, hD2, sm.trans s2, by simp, hc⟩ (fun j H3 _ p3 => ?_) (fun j y H3 H3' hj p3 hy3 => ?_) fun H3 p3 => ?_
          · obtain ⟨acc', _, _, _, h3⟩ := p3
            exact .inl (.inl h3)
          · obtain ⟨acc', hD3, sm3, ea3, h3⟩ := p3
            obtain ⟨rfl, hy4⟩ := hy3
            refine ⟨rfl, kept ⟨y, rfl, acc', hD3, ?_, LcI.push hD sm3 ⟨?_, ?_⟩⟩⟩
            · rw [ea3, ea, List.length_append, List.length_map, List.length_map]
              have l1 : ((ps.take i).flatMap fun p => srt p.lines).length ≤ 8 := by
                have : ((ps.take i).flatMap fun p => srt p.lines).length = (linesL (ps.take i)).length := by
                  rw [linesL_eq, List.length_flatMap, List.length_flatMap]
                  simp only [srt_len]
                rw [this]
                have sb2 : (linesL (ps.take i)).Sublist (Plan.node k ps).lines := by
                  rw [Plan.lines]
                  conv => rhs; rw [← List.take_append_drop i ps, linesL_append]
                  exact List.sublist_append_left _ _
                exact Nat.le_trans sb2.length_le h8
              have l2 : ((srt pi.lines).take j).length ≤ 8 := by
                rw [List.length_take, srt_len]
                omega
              exact small_of (Nat.add_le_add l1 l2)
            · have e4 : ((srt pi.lines).take (j + 1)).map V.str = ((srt pi.lines).take j).map V.str ++ [y] := map_take_succ hy4
              rw [ea3, e4, List.append_assoc]
            · rw [upd_ne (ne_lt hD3 h3)]
              exact h3
          · obtain ⟨acc', hD3, sm3, ea3, h3⟩ := p3
            refine ⟨acc', hD3, sm3, ?_⟩
            rw [List.length_map, List.take_length] at ea3
            rw [ea3, ea, List.take_add_one, hpi]
            simp
        · obtain ⟨acc, hDa, sm, ea⟩ := p1
          rw [List.take_of_length_le (by omega)] at ea
          have pp : (ps.flatMap fun p => srt p.lines).Perm (Plan.node k ps).lines := by
            rw [Plan.lines, linesL_eq]
            exact flat_perm _ fun p _ => srt_perm _
          refine ⟨D, _, rfl, .inl (.inl (ea ▸ hDa)), ?_, fun ys c py sy hc => ?_⟩
          · have := pp.length_eq
            omega
          · have ey : ys = srt (Plan.node k ps).lines := (sorted_is py sy).trans (srt_congr pp)
            refine ⟨c, _, rfl, .inl ⟨.inl (.inl upd_same), fun t ht => ?_⟩⟩
            refine q _ _ ((sm.trans (same_new hc)).trans (same_new ht)) ⟨t, rfl, ?_⟩
            rw [upd_same, ey]
theorem c_lines_in (T : Txt K mg) : Cal P w K mg base 9 "lines_in" (spLinesIn 8) := c_lines_in_n T 8
end
end Fm
set_option maxHeartbeats 2000000
namespace Fm
open PySem PySem.Spec PyProof.Rows L2 FmM
theorem inV_strs (a : Str) : ∀ ls : List Str, inV (.str a) (ls.map V.str) = decide (a ∈ ls)
  | [] => rfl
  | x :: ls => by
    have h1 : inV (.str a) ((x :: ls).map V.str) = (eqV (.str x) (.str a) || inV (.str a) (ls.map V.str)) := rfl
    rw [h1, inV_strs a ls]
    have h2 : eqV (.str x) (.str a) = (x == a) := rfl
    rw [h2]
    by_cases e : x = a
    · subst e; simp
    · have e' : ¬ a = x := fun z => e z.symm
      simp [e, e']
theorem flat_strs : ∀ ls : List Str, (ls.map V.str).all flatV = true
  | [] => rfl
  | _ :: ls => flat_strs ls
section
variable {P : Program} {w : World} {K : PySem.W.Frag} {mg : Str → Option Value} {base : Heap}
/-! ### least_line -/
theorem sc_least_line : FnScope ["plan"] ["plan"] (defScope s_least_line) := ⟨rfl, rfl, rfl, by decide +kernel, rfl, by decide +kernel, by decide +kernel⟩
def spLeast : Sp := fun vs H Q _ => ∃ v p, vs = [v] ∧ PlanAt H v p ∧ p.Good ∧ p.lines.Nodup ∧ p.lines.length ≤ 8 ∧ ∀ H' a r, Same H H' → srt p.lines = a :: r → Q (.str a) H'
theorem srt_cons {p : Plan Str} (g : p.Good) : ∃ a r, srt p.lines = a :: r := by
  cases e : srt p.lines with
  | nil =>
    have h1 := srt_len p.lines
    rw [e] at h1
    exact absurd (List.length_eq_zero_iff.mp h1.symm) (Plan.lines_ne g)
  | cons a r => exact ⟨a, r, rfl⟩
theorem c_least_line (T : Txt K mg) : Cal P w K mg base 10 "least_line" spLeast := by
  refine cal_of T.d_least_line sc_least_line (fun vs H Q E h => ?_) (fun f cdv A outer s H vs Q E hr h => ?_)
  · obtain ⟨v, p, rfl, _⟩ := h
    rfl
  · obtain ⟨v, p, rfl, hv, g, nd, h8, q⟩ := h
    refine ⟨_, pss_one (ps_ret (pe_ix ix_tup (pe_d (c_lines_in T) hr (by omega) (pa_cons (pv 0) pa_nil)) pe_int (fun _ _ => rfl))), ?_⟩
    refine ⟨v, rfl, v, p, rfl, hv, g, nd, h8, h8, fun H' r s' hr' => ?_⟩
    obtain ⟨c, rfl, hc⟩ := hr'
    obtain ⟨a, t, e⟩ := srt_cons g
    refine ⟨c, _, 0, .str a, rfl, rfl, .inl (.inl hc), ?_, q _ a t s' e⟩
    rw [e]
    exact atI_nat (j := 0) rfl
/-! ### pair_kind -/
theorem sc_pair_kind : FnScope ["plan", "one", "other", "kind", "parts", "part", "lines"] ["plan", "one", "other"] (defScope s_pair_kind) := ⟨rfl, rfl, rfl, by decide +kernel, rfl, by decide +kernel, by decide +kernel⟩
def spPairKind (n : Nat) : Sp := fun vs H Q _ => ∃ (v : V) (p : Plan Str) (kd : Str → Str → Bool) (a b : Str), vs = [v, .str a, .str b] ∧ PlanAt H v p ∧ p.Good ∧ p.lines.Nodup ∧ p.lines.length ≤ n ∧ p.lines.length ≤ 8 ∧ Fits kd p ∧ Sym kd ∧
  a ∈ p.lines ∧ b ∈ p.lines ∧ a ≠ b ∧ ∀ H', Same H H' → Q (.str (kS (kd a b))) H'
theorem c_pair_kind_n (T : Txt K mg) : ∀ n, Cal P w K mg base (n + 10) "pair_kind" (spPairKind n) := by
  intro n
  induction n with
  | zero =>
    refine cal_of T.d_pair_kind sc_pair_kind (fun vs H Q E h => ?_) (fun f cdv A outer s H vs Q E hr h => ?_)
    · obtain ⟨v, p, kd, a, b, rfl, _⟩ := h
      rfl
    · obtain ⟨v, p, kd, a, b, rfl, _, g, _, hn, _⟩ := h
      have := List.length_pos_iff.mpr (Plan.lines_ne g)
      omega
  | succ n ih =>
    refine cal_of T.d_pair_kind sc_pair_kind (fun vs H Q E h => ?_) (fun f cdv A outer s H vs Q E hr h => ?_)
    · obtain ⟨v, p, kd, a, b, rfl, _⟩ := h
      rfl
    · obtain ⟨v, p, kd, a, b, rfl, hv, g, nd, hn, h8, fit, hs, ma, mb, nab, q⟩ := h
      refine ⟨_, pss_cons (ps_asg (pv 0) (pg_tup rfl (pgs_cons (pg_name (i := 3) sc_pair_kind.nd rfl (.inl rfl)) (pgs_cons (pg_name (i := 4) sc_pair_kind.nd rfl (.inl rfl)) pgs_nil))))
        (pss_cons (ps_for PassesOwn.never rfl (pi_tup (pv 4)) (pg_name (i := 5) sc_pair_kind.nd rfl (.inl rfl))
          (pss_cons (ps_set (i := 6) sc_pair_kind.nd rfl (.inl rfl) (pe_d (c_lines_in T) hr (by omega) (pa_cons (pv 5) pa_nil)))
          (pss_one (ps_if (PW.pt (pw_and (pt_cmpR op_in_seq (pv 1) (pv 6) rfl) (pw_and1 (pt_cmpR op_in_seq (pv 2) (pv 6) rfl))))
            (pss_one (ps_ret (pe_d ih hr (by omega) (pa_cons (pv 5) (pa_cons (pv 1) (pa_cons (pv 2) pa_nil)))))) pss_nil))))
        (pss_one (ps_ret (pv 3)))), ?_⟩
      cases p with
      | leaf z =>
        rw [Plan.lines] at ma mb
        exact absurd ((List.mem_singleton.mp ma).trans (List.mem_singleton.mp mb).symm) nab
      | node k ps =>
        rw [PlanAt] at hv
        obtain ⟨x, y, ws, rfl, hx, hy, hp⟩ := hv
        have hg := g
        rw [Plan.Good] at hg
        rw [Fits] at fit
        have hwl := hp.len
        refine ⟨_, rfl, x, _, rfl, .inl (.inl hx), rfl, _, _, rfl, _, _, rfl, rfl, ?_⟩
        refine ⟨_, rfl, y, rfl, ⟨ws, .inl (.inl hy)⟩, ?_⟩
        refine for_tup (xs := ws) (fun i σ H1 => ∃ y5 y6, σ = [some (.ref x), some (.str a), some (.str b), some (.str (kS k)), some (.ref y), y5, y6] ∧ Same H H1 ∧ ∀ j r, j < i → ps[j]? = some r → ¬ (a ∈ r.lines ∧ b ∈ r.lines))
          ⟨none, none, rfl, Same.refl _, fun j r hj => absurd hj (Nat.not_lt_zero _)⟩ (fun i σ H1 hi p1 => ?_) (fun i v σ H1 hi p1 => ?_) (fun σ H1 p1 => ?_)
        · obtain ⟨y5, y6, rfl, sm, _⟩ := p1
          exact .inl (.inl (sm _ _ hy))
        · obtain ⟨y5, y6, rfl, sm, no⟩ := p1
          obtain ⟨r, hr1, hvr⟩ := hp.get hi
          have hmem : r ∈ ps := List.mem_of_getElem? hr1
          have gr := goodL_mem hg.2 r hmem
          have ndr : r.lines.Nodup := nd.sublist (by rw [Plan.lines]; exact part_sub hmem)
          have hlt := part_len g hmem
          refine ⟨v, rfl, v, r, rfl, hvr.tups (sm_tups sm), gr, ndr, by omega, by omega, fun H2 u s2 hu => ?_⟩
          obtain ⟨c, rfl, hc⟩ := hu
          have hq : SqT K H2 c ((srt r.lines).map V.str) := .inl (.inl hc)
          refine ⟨_, rfl, _, rfl, c, _, rfl, .inr hq, rfl, flat_strs _, _, rfl, ?_⟩
          have e1 : inV (.str a) ((srt r.lines).map V.str) = decide (a ∈ r.lines) := by rw [inV_strs]; simp only [srt_mem]
          have e2 : inV (.str b) ((srt r.lines).map V.str) = decide (b ∈ r.lines) := by rw [inV_strs]; simp only [srt_mem]
          have next : ¬ (a ∈ r.lines ∧ b ∈ r.lines) → ∃ y5 y6, [some (.ref x), some (.str a), some (.str b), some (.str (kS k)), some (.ref y), some v, some (.ref c)] = [some (.ref x), some (.str a), some (.str b), some (.str (kS k)), some (.ref y), y5, y6] ∧ Same H H2 ∧ ∀ j r, j < i + 1 → ps[j]? = some r → ¬ (a ∈ r.lines ∧ b ∈ r.lines) := fun hn2 =>
            ⟨_, _, rfl, sm.trans s2, fun j r' hj hj' => by
              rcases Nat.lt_succ_iff_lt_or_eq.mp hj with h | h
              · exact no j r' h hj'
              · subst h
                rw [hr1] at hj'
                cases hj'
                exact hn2⟩
          refine ifb (fun ha => ?_) (fun ha => ?_)
          · have ha' : a ∈ r.lines := of_decide_eq_true (e1.symm.trans ha)
            refine ⟨_, rfl, _, rfl, c, _, rfl, .inr hq, rfl, flat_strs _, _, rfl, ?_⟩
            refine ifb (fun hb => ?_) (fun hb => ?_)
            · have hb' : b ∈ r.lines := of_decide_eq_true (e2.symm.trans hb)
              refine ⟨v, rfl, _, rfl, _, rfl, v, r, kd, a, b, rfl, hvr.tups (sm_tups (sm.trans s2)), gr, ndr, by omega, by omega, fitsL_mem fit.1 r hmem, hs, ha', hb', nab, fun H3 s3 => q _ ((sm.trans s2).trans s3)⟩
            · exact next fun z => of_decide_eq_false (e2.symm.trans hb) z.2
          · exact iteF (next fun z => of_decide_eq_false (e1.symm.trans ha) z.1)
        · obtain ⟨y5, y6, rfl, sm, no⟩ := p1
          rw [Plan.lines] at ma mb
          obtain ⟨pa, hpa, ha⟩ := mem_linesL.mp ma
          obtain ⟨pb, hpb, hb⟩ := mem_linesL.mp mb
          obtain ⟨i, hi⟩ := List.getElem?_of_mem hpa
          obtain ⟨j, hj⟩ := List.getElem?_of_mem hpb
          have nij : i ≠ j := fun e => by
            subst e
            rw [hi] at hj
            cases hj
            have hil : i < ws.length := by rw [hwl]; exact (List.getElem?_eq_some_iff.mp hi).1
            exact no i _ hil hi ⟨ha, hb⟩
          refine ⟨_, rfl, ?_⟩
          have ek : kd a b = k := cross_kind hs fit.2 hi hj nij ha hb
          have := q _ sm
          rw [ek] at this
          exact this
theorem c_pair_kind (T : Txt K mg) : Cal P w K mg base 18 "pair_kind" (spPairKind 8) := c_pair_kind_n T 8
end
end Fm
set_option maxHeartbeats 2000000
namespace Fm
open PySem PySem.Spec PyProof.Rows L2 FmM
/-! ### the pairs of lines, a table of kinds -/
def pairs : List Str → List (Str × Str)
  | [] => []
  | a :: r => r.map (fun b => (a, b)) ++ pairs r
def triOf (kd : Str → Str → Bool) (p : Str × Str) : Tri := (p.1, p.2, kd p.1 p.2)
def chart (kd : Str → Str → Bool) (ls : List Str) : List Tri := (pairs ls).map (triOf kd)
theorem flatMap_congr {α β : Type} {f g : α → List β} : ∀ {l : List α}, (∀ x, x ∈ l → f x = g x) → l.flatMap f = l.flatMap g
  | [], _ => rfl
  | x :: l, h => by
    rw [List.flatMap_cons, List.flatMap_cons, h x List.mem_cons_self, flatMap_congr fun y hy => h y (List.mem_cons_of_mem _ hy)]
/-- all pairs by two walks -/
theorem pairs_walk {β : Type} (f : Str → Str → β) : ∀ {ls : List Str}, Asc ls → ls.flatMap (fun a => (ls.filter fun b => decide (LtS a b)).map (f a)) = (pairs ls).map fun p => f p.1 p.2
  | [], _ => rfl
  | a :: r, h => by
    obtain ⟨h1, h2⟩ := List.pairwise_cons.mp h
    rw [List.flatMap_cons, pairs, List.map_append, List.map_map]
    have e1 : (a :: r).filter (fun b => decide (LtS a b)) = r := by
      rw [List.filter_cons, if_neg (by simpa using LtS.irrefl a)]
      exact List.filter_eq_self.mpr fun b hb => decide_eq_true (h1 b hb)
    have e2 : r.flatMap (fun x => ((a :: r).filter fun b => decide (LtS x b)).map (f x)) = r.flatMap (fun x => (r.filter fun b => decide (LtS x b)).map (f x)) := by
      refine flatMap_congr fun x hx => ?_
      rw [List.filter_cons, if_neg (by simpa using (h1 x hx).asymm)]
    rw [e1, e2, pairs_walk f h2]
    rfl
theorem flatMap_len {α β : Type} {f : α → List β} {n : Nat} : ∀ {l : List α}, (∀ x, x ∈ l → (f x).length ≤ n) → (l.flatMap f).length ≤ l.length * n
  | [], _ => Nat.zero_le _
  | x :: l, h => by
    rw [List.flatMap_cons, List.length_append, List.length_cons, Nat.succ_mul]
    have h1 := h x List.mem_cons_self
    have h2 := flatMap_len fun y hy => h y (List.mem_cons_of_mem _ hy)
    omega
theorem paired_snoc {α β : Type} {R : α → β → Prop} {l : List α} {m : List β} {x : α} {y : β} (h : Paired R l m) (r : R x y) : Paired R (l ++ [x]) (m ++ [y]) := paired_append h (.cons r .nil)
theorem flat_take_succ {α β : Type} {f : α → List β} {l : List α} {i : Nat} {x : α} (h : l[i]? = some x) : (l.take (i + 1)).flatMap f = (l.take i).flatMap f ++ f x := by
  rw [List.take_add_one, h, List.flatMap_append]
  show _ ++ ([x] : List α).flatMap f = _
  rw [List.flatMap_cons, List.flatMap_nil, List.append_nil]
theorem filter_take_succ {α : Type} {p : α → Bool} {l : List α} {i : Nat} {x : α} (h : l[i]? = some x) : (l.take (i + 1)).filter p = (l.take i).filter p ++ (if p x = true then [x] else []) := by
  rw [List.take_add_one, h, List.filter_append]
  show _ ++ ([x] : List α).filter p = _
  rw [List.filter_cons, List.filter_nil]
theorem strs_at {ls : List Str} {i : Nat} {v : V} (h : (ls.map V.str)[i]? = some v) : ∃ a, ls[i]? = some a ∧ v = .str a := by
  rw [List.getElem?_map] at h
  cases e : ls[i]? with
  | none => rw [e] at h; cases h
  | some a => rw [e] at h; cases h; exact ⟨a, rfl, rfl⟩
end Fm
set_option maxHeartbeats 2000000
namespace Fm
open PySem PySem.Spec PyProof.Rows L2 FmM
section
variable {P : Program} {w : World} {K : PySem.W.Frag} {mg : Str → Option Value} {base : Heap}
theorem sc_kind_table : FnScope ["plan", "lines", "one", "other"] ["plan"] (defScope s_kind_table) := ⟨rfl, rfl, rfl, by decide +kernel, rfl, by decide +kernel, by decide +kernel⟩
def spKindTable : Sp := fun vs H Q _ => ∃ (v : V) (p : Plan Str) (kd : Str → Str → Bool), vs = [v] ∧ PlanAt H v p ∧ PlanOk p ∧ Fits kd p ∧ Sym kd ∧ ∀ H' r, Same H H' → TabAt H' r (chart kd (srt p.lines)) → Q r H'
theorem c_kind_table (T : Txt K mg) : Cal P w K mg base 19 "kind_table" spKindTable := by
  refine cal_of T.d_kind_table sc_kind_table (fun vs H Q E h => ?_) (fun f cdv A outer s H vs Q E hr h => ?_)
  · obtain ⟨v, p, kd, rfl, _⟩ := h
    rfl
  · obtain ⟨v, p, kd, rfl, hv, ok, fit, hs, q⟩ := h
    refine ⟨_, pss_cons (ps_expr (pe_d (c_check_plan T) hr (by omega) (pa_cons (pv 0) pa_nil)))
      (pss_cons (ps_set (i := 1) sc_kind_table.nd rfl (.inr rfl) (pe_d (c_lines_in T) hr (by omega) (pa_cons (pv 0) pa_nil)))
      (pss_one (ps_ret (pe_callTy call_tuple_of (by rfl) T.b_tuple bt_tuple (pa_cons
        (pe_lc2 (own := [("one", 2), ("other", 3)]) (vs1 := [3]) (g := gName 2) (g1 := gName 3) (tt := tYes) (wi1 := iTup K (tVar 1)) rfl sc_kind_table.nd (pi_tup (pv 1))
          (blkOk_by (N := ["plan", "lines", "one", "other"]) (sc := defScope s_kind_table) (by decide +kernel)) (by decide)
          (fun _ _ _ _ _ => pg_name (i := 2) sc_kind_table.nd rfl (Or.inl rfl)) (fun _ _ _ _ _ => pts_nil)
          (fun _ _ _ _ _ => pi_tup (pv 1))
          (fun _ _ _ _ _ => pg_name (i := 3) sc_kind_table.nd rfl (Or.inl rfl)) (fun _ _ _ _ _ => pts_one (pt_cmpR op_lt_str (pv 2) (pv 3) (nomark _)))
          (fun _ _ _ _ _ => pe_tup (pa_cons (pv 2) (pa_cons (pv 3) (pa_cons (pe_d (c_pair_kind T) hr (by omega) (pa_cons (pv 0) (pa_cons (pv 2) (pa_cons (pv 3) pa_nil)))) pa_nil))))) pa_nil))))), ?_⟩
    refine ⟨v, rfl, v, p, rfl, hv, ok, fun H1 s1 => ?_⟩
    refine ⟨v, rfl, v, p, rfl, hv.tups (sm_tups s1), ok.good, ok.nd, ok.le, ok.le, fun H2 r s2 hr2 => ?_⟩
    obtain ⟨c, rfl, hc⟩ := hr2
    have asc : Asc (srt p.lines) := srt_asc ok.nd
    have hlen : (srt p.lines).length ≤ 8 := by rw [srt_len]; exact ok.le
    have hmem : ∀ a, a ∈ srt p.lines → a ∈ p.lines := fun a h => srt_mem.mp h
    generalize hls : srt p.lines = ls at hc asc hlen hmem
    refine ⟨_, rfl, c, rfl, ⟨_, .inl (.inl hc)⟩, fun D hD => ?_⟩
    have row : Str → List Tri := fun a => []
    refine loop_it (walk_tup (xs := ls.map V.str)) (LcI H2 D fun i acc H' => TrisAt H' acc ((ls.take i).flatMap fun a => (ls.filter fun b => decide (LtS a b)).map fun b => (a, b, kd a b))) (LcI.start hD .nil) (fun i H3 _ p1 => ?_) (fun i x H3 H3' hi p1 hy => ?_) fun H3 p1 => ?_
    · obtain ⟨acc, _, sm, _⟩ := p1
      exact .inl (.inl (sm _ _ hc))
    · obtain ⟨acc, hDa, sm, ra⟩ := p1
      obtain ⟨rfl, hx⟩ := hy
      obtain ⟨a, ha, rfl⟩ := strs_at hx
      have ma : a ∈ ls := List.mem_of_getElem? ha
      refine ⟨rfl, kept ⟨_, rfl, c, rfl, ⟨_, .inl (.inl (sm _ _ hc))⟩, ?_⟩⟩
      refine loop_it (walk_tup (xs := ls.map V.str)) (LcI H2 D fun j acc' H' => TrisAt H' acc' (((ls.take i).flatMap fun a => (ls.filter fun b => decide (LtS a b)).map fun b => (a, b, kd a b)) ++ ((ls.take j).filter fun b => decide (LtS a b)).map fun b => (a, b, kd a b)))
        ⟨acc, hDa, sm, by simpa using ra⟩ (fun j H4 _ p3 => ?_) (fun j y H4 H4' hj p3 hy3 => ?_) fun H4 p3 => ?_
      · obtain ⟨acc', _, sm4, _⟩ := p3
        exact .inl (.inl (sm4 _ _ hc))
      · obtain ⟨acc', hD4, sm4, r4⟩ := p3
        obtain ⟨rfl, hy4⟩ := hy3
        obtain ⟨b, hb, rfl⟩ := strs_at hy4
        have mb : b ∈ ls := List.mem_of_getElem? hb
        refine ⟨rfl, .str a, rfl, .str b, rfl, a, b, rfl, rfl, _, rfl, ?_⟩
        have e5 := filter_take_succ (p := fun b => decide (LtS a b)) hb
        have hlt : ∀ {t : Bool}, decide (a.cps.toList < b.cps.toList) = t → decide (LtS a b) = t := fun h => h
        refine ifb (fun hab => ?_) (fun hab => ?_)
        · have hab' : LtS a b := of_decide_eq_true (hlt hab)
          refine ⟨.str a, rfl, .str b, rfl, v, rfl, .str a, rfl, .str b, rfl, v, p, kd, a, b, rfl, hv.tups (sm_tups (s1.trans (s2.trans sm4))), ok.good, ok.nd, ok.le, ok.le, fit, hs, hmem a ma, hmem b mb, hab'.ne, fun H5 s5 => ?_⟩
          refine ⟨by show 3 ≤ sizeLine; decide, fun t ht => ?_⟩
          have hD5 : (upd H5 t (.tup [.str a, .str b, .str (kS (kd a b))])) D = some (.lst acc') := by
            rw [upd_ne (ne_of_none (s5 _ _ hD4) ht)]
            exact s5 _ _ hD4
          have sm5 : Same H2 (upd H5 t (.tup [.str a, .str b, .str (kS (kd a b))])) := (sm4.trans s5).trans (same_new ht)
          refine ⟨acc', hD5, ?_, LcI.push hD sm5 ?_⟩
          · rw [r4.len, List.length_append, List.length_map]
            have l1 : ((ls.take i).flatMap fun a => (ls.filter fun b => decide (LtS a b)).map fun b => (a, b, kd a b)).length ≤ (ls.take i).length * 8 := flatMap_len fun x _ => by
              rw [List.length_map]
              exact Nat.le_trans (List.length_filter_le _ _) hlen
            have l2 : (ls.take i).length ≤ 8 := Nat.le_trans (List.length_take_le' _ _) hlen
            have l3 : ((ls.take j).filter fun b => decide (LtS a b)).length ≤ 8 := Nat.le_trans (List.length_filter_le _ _) (Nat.le_trans (List.length_take_le' _ _) hlen)
            exact small_of (m := 72) (by omega)
          · rw [e5, decide_eq_true hab', if_pos rfl, List.map_append, ← List.append_assoc]
            have tt : Tups H4' (upd (upd H5 t (.tup [.str a, .str b, .str (kS (kd a b))])) D (.lst (acc' ++ [V.ref t]))) := ((sm_tups s5).trans (tups_new ht)).trans (tups_lst hD5)
            refine paired_snoc (r4.tups tt) ⟨t, rfl, ?_⟩
            rw [upd_ne (Ne.symm (ne_of_none (s5 _ _ hD4) ht))]
            exact upd_same
        · refine ⟨acc', hD4, sm4, ?_⟩
          show TrisAt H4' acc' (_ ++ List.map _ (List.filter _ (List.take (j + 1) ls)))
          rw [e5, hlt hab, if_neg Bool.false_ne_true, List.append_nil]
          exact r4
      · obtain ⟨acc', hD4, sm4, r4⟩ := p3
        refine ⟨acc', hD4, sm4, ?_⟩
        rw [List.length_map, List.take_length] at r4
        show TrisAt H4 acc' (List.flatMap _ (List.take (i + 1) ls))
        rw [flat_take_succ ha]
        exact r4
    · obtain ⟨acc, hDa, sm, ra⟩ := p1
      rw [List.length_map, List.take_length] at ra
      rw [pairs_walk (fun a b => (a, b, kd a b)) asc] at ra
      refine ⟨D, acc, rfl, .inl ⟨.inl (.inl hDa), fun t ht => ?_⟩⟩
      refine q _ _ (((s1.trans s2).trans sm).trans (same_new ht)) ⟨t, acc, rfl, upd_same, ?_⟩
      rw [hls]
      exact ra.tups (tups_new ht)
end
end Fm
set_option maxHeartbeats 4000000
namespace Fm
open PySem PySem.Spec PyProof.Rows L2 FmM
section
variable {X : Cx} {pins : List (Addr × Obj)} {σ : L2.St} {H : Hp} {s : Shared}
/-- an own list that was not tracked so far -/
theorem inv_track {a : Addr} {xs : List V} {its : List Value} {n : Nat} (I : Inv X pins σ H s) (hs : X.s_0.heap.objs.size ≤ a) (f : FpOk X pins H a) (e : s.heap.get? a = some { cls := .type "list", data := .seq its.toArray n }) (r : Vals xs its) (hz : xs.length ≤ sizeLine) :
    Inv X pins σ (upd H a (.lst xs)) s := by
  obtain ⟨f0, f1, f2, _, f4, f5⟩ := f
  have old : ∀ b o, X.s_0.heap.get? b = some o → b ≠ a := fun b o q => Nat.ne_of_lt (Nat.lt_of_lt_of_le (Heap.lt_size q) hs)
  have tr : ∀ b o, H b = some o → b ≠ a := fun b o q => ne_of_none q f0
  refine ⟨I.ok, I.os, I.bare, ⟨I.base.keep, I.base.slot, fun b o q n hx => ?_, I.base.there, fun b ys q => ?_, fun b o u q => ?_, fun b ps q => ?_⟩, I.loc, I.cell, ?_, fun x c q => ?_, fun p hp => ?_, fun b o q => ?_, I.len⟩
  · rw [upd_ne (old b o q)]
    exact I.base.free b o q n hx
  · have h1 := I.base.tups b ys q
    rw [upd_ne (tr b _ h1)]
    exact h1
  · have h1 := I.base.frzs b o u q
    rw [upd_ne (tr b _ h1)]
    exact h1
  · obtain ⟨m, h1⟩ := I.base.tbls b ps q
    exact ⟨m, by rw [upd_ne (tr b _ h1)]; exact h1⟩
  · rw [upd_ne (Ne.symm f1)]
    exact I.free
  · rw [upd_ne (f4 x c q)]
    exact I.freeC x c q
  · obtain ⟨k1, k2, k3⟩ := I.pin p hp
    exact ⟨k1, by rw [upd_ne (f5 p hp)]; exact k2, k3⟩
  · by_cases hb : b = a
    · subst hb
      rw [upd_same] at q
      cases q
      exact ⟨hz, its, n, r, e⟩
    · rw [upd_ne hb] at q
      exact (I.hok b o q).stay (fun c v _ z => z) (fun c z => by rw [upd_ne (tr c _ z)]; exact z) fun c ys z => by rw [upd_ne (tr c _ z)]; exact z
/-- an own record changes -/
theorem inv_turn {a : Addr} {h' : Heap} (I : Inv X pins σ H s) (f : FpOk X pins H a) (sb : Heap.SameBut a s.heap h') : Inv X pins σ H { s with heap := h' } := by
  obtain ⟨f0, f1, f2, f3, f4, f5⟩ := f
  exact I.turned (t' := s.toks) (fun b o hb q => (sb.2 b hb).trans q) f0 f1 f3 f4 f5
/-- two own records change -/
theorem inv_turn2 {a c : Addr} {h' : Heap} {t' : Nat} (I : Inv X pins σ H s) (fa : FpOk X pins H a) (fc : FpOk X pins H c) (k : ∀ b o, b ≠ a → b ≠ c → s.heap.get? b = some o → h'.get? b = some o) : Inv X pins σ H { s with heap := h', toks := t' } := by
  have out : ∀ {b : Addr}, b ∉ [a, c] → b ≠ a ∧ b ≠ c := fun {b} z => by simpa using z
  have trk : ∀ b u, H b = some u → b ≠ a ∧ b ≠ c := fun b u e => ⟨ne_of_none e fa.1, ne_of_none e fc.1⟩
  refine I.step (g' := s.gens) (d' := s.drawn) (ch := [a, c]) (fun b hb => ?_) (fun b o _ _ hc e _ => k b o (out hc).1 (out hc).2 e) (fun b o _ _ hc e _ => ⟨o.slots, k b o (out hc).1 (out hc).2 e⟩) (fun _ _ _ _ n => n)
    (fun b o hc e => ⟨o, k b o (out hc).1 (out hc).2 e⟩) (fun _ _ e => e) (fun _ _ _ e => e) (fun b ps e => ⟨#[], by rw [e]; simp⟩) (fun m hm => ?_) (fun b u e => ?_) I.bare
  · have hb' : b = a ∨ b = c := by simpa using hb
    rcases hb' with rfl | rfl
    · exact ⟨fa.2.2.2.1, fa.2.1, fa.2.2.2.2.1, fa.2.2.2.2.2⟩
    · exact ⟨fc.2.2.2.1, fc.2.1, fc.2.2.2.2.1, fc.2.2.2.2.2⟩
  · obtain ⟨o, es, ep, ho, r⟩ := hm
    exact ⟨o, es, ep, k _ o (Ne.symm fa.2.1) (Ne.symm fc.2.1) ho, r⟩
  · refine (I.hok b u e).stay (fun d v hd q => ?_) (fun _ q => q) fun _ _ q => q
    have hd' : d ≠ a ∧ d ≠ c := by
      rcases hd with z | z
      · rw [z]; exact trk b u e
      · exact trk d _ z
    exact k d v hd'.1 hd'.2 q
theorem fp_stack {a : Addr} (I : Inv X pins σ H s) (f : FpOk X pins H a) : a ∉ frs X.stack := fun z => by
  rcases List.mem_cons.mp (I.stkSub a z) with e | e
  · exact f.2.1 e
  · exact f.2.2.1 e
/-- the key function's call, at any place within -/
theorem key_call {k : Nat} {f : Addr} {fd : FuncData} {ps : List Str} {sp : Sp} {A : Around} {x : V} {u : Value} {z : Str} (hA : Env0 X.prog X.w X.K X.mg X.base A X.stack s H) (hr : Room k A) (F : FnOk X.prog X.w X.K X.mg X.base CX0 k f fd ps sp) (hb : Binds X.K fd ps [])
    (I : Inv X pins σ H s) (r : RelV x u) (hsp : ∀ Q : VK, (∀ H', Same H H' → Q (.str z) H') → sp [x] H Q E0) {Q : Value → Shared → Prop} {E : Value → Shared → Prop}
    (hq : ∀ t H' s', Inv X pins σ H' s' → Same H H' → (∀ b, b ∉ frs X.stack → H b = none → ∀ o, s.heap.get? b = some o → s'.heap.get? b = some o ∧ H' b = none) → Q (.str z t) s') : wpAny (model X.prog X.w) A (call (.ref f) [u]) Q E s := by
  have hs := hsp (fun v H' => v = .str z ∧ Same H H') fun H' q => ⟨rfl, q⟩
  have rv : Vals [x] [u] := .cons r .nil
  have hl : ([u] ++ [] : List Value).length = ps.length := F.len _ _ _ _ hs
  refine wpAny_call (codeAny_mono (F.run A X.stack s H ⟨[u], []⟩ [u] [x] _ E0 hr hA (hb s [u] I.kIn hl) rv hs) fun r s' h => ?_)
  cases r with
  | error e => exact False.elim h
  | ok fl =>
    cases fl with
    | ret u' =>
      obtain ⟨v, H', os, bare, un, hok, rr, rfl, sm⟩ := h
      obtain ⟨t, rfl⟩ := rr
      exact hq t H' s' (I.call' (ch := []) os un hok bare fun b z => absurd z (by simp)) sm fun b hb hn o e => ⟨un.keep b o e hn hb (by simp), un.free b o e hn (by simp)⟩
    | next => exact False.elim h
    | brk => exact False.elim h
    | cont => exact False.elim h
/-- sorted(xs, key=f), f a def: the items ascend by their keys already -/
def rSortKey (K : PySem.W.Frag) (f : Addr) (sp : Sp) : List V → List V → Hp → VK → Prop := fun vs zs H Q => ∃ (l : Addr) (xs : List V) (κ : V → Str), vs = [.ref l] ∧ zs = [.ref f] ∧ SqL K H l xs ∧ xs.Pairwise (fun x y => LtS (κ x) (κ y)) ∧
  (∀ x, x ∈ xs → ∀ H1, Same H H1 → ∀ Q1 : VK, (∀ H2, Same H1 H2 → Q1 (.str (κ x)) H2) → sp [x] H1 Q1 E0) ∧ ∀ H' p, Same H H' → H' p = some (.lst xs) → Q (.ref p) H'
theorem each_of : ∀ {xs : List V} {us : List Value}, Vals xs us → PySem.W.EachIs (fun v x => RelV x v) us xs
  | _, _, .nil => .nil
  | _, _, .cons r t => .cons r (each_of t)
theorem vals_of : ∀ {us : List Value} {xs : List V}, PySem.W.EachIs (fun v x => RelV x v) us xs → Vals xs us
  | _, _, .nil => .nil
  | _, _, .cons r t => .cons r (vals_of t)
theorem each_get {α β : Type} {R : α → β → Prop} : ∀ {l : List α} {m : List β}, PySem.W.EachIs R l m → ∀ {l' : List α} {m' : List β}, PySem.W.EachIs R l' m' → PySem.W.EachIs R (l ++ l') (m ++ m')
  | _, _, .nil, _, _, h => h
  | _, _, .cons r t, _, _, h => .cons r (each_get t h)
theorem cr_sortKey {k : Nat} {f : Addr} {fd : FuncData} {ps : List Str} {sp : Sp} (hr : Room (k + 2) X.A) (F : FnOk X.prog X.w X.K X.mg X.base CX0 k f fd ps sp) (hb : Binds X.K fd ps []) : CallRK X (.builtin "sorted") [Str.ofString "key"] (rSortKey X.K f sp) := by
  intro pins s σ H vs zs us ws Q I r rz h
  obtain ⟨l, xs, κ, rfl, rfl, hl, asc, hsp, q⟩ := h
  obtain rfl := Vals.ref1 r
  obtain rfl := Vals.ref1 rz
  obtain ⟨its, rv, pl, hz⟩ := I.list hl
  have hlen := rv.length
  have hZ : its.length ≤ sizeLine := by omega
  show wpAny _ _ (call (.builtin "sorted") [.ref l] [(Str.ofString "key", .ref f)]) _ _ _
  refine PySem.W.sorted_of_sort pl.isList hZ (ksk_s1 _ _) (fun _ => ksk_l1 _ _) fun E' => ?_
  rw [ksk_t1]
  generalize hAd : s.heap.objs.size + 1 = a
  have ha0 : s.heap.objs.size ≤ a := by rw [← hAd]; exact Nat.le_succ _
  have fa0 : FpOk X pins H a := I.fpOk ha0 (I.hok.fresh ha0)
  have hat : (PySem.W.copyHeap s.heap its).get? a = some (seqObj "list" its.toArray 0) := by rw [← hAd]; exact PySem.W.copyHeap_at s.heap its
  have I1 : Inv X pins σ H { s with heap := PySem.W.copyHeap s.heap its } := I.kept (t' := s.toks) fun b o e => PySem.W.copyHeap_old e
  have h0a : X.s_0.heap.objs.size ≤ a := Nat.le_trans I.sz ha0
  generalize hs1 : ({ s with heap := PySem.W.copyHeap s.heap its } : Shared) = s1 at I1 ⊢
  have hat1 : s1.heap.get? a = some (seqObj "list" its.toArray 0) := by rw [← hs1]; exact hat
  have hE1 : Env0 X.prog X.w X.K X.mg X.base X.A.in1.in1 X.stack s1 H := I1.env0.in1.in1
  obtain ⟨e1, hoe⟩ : ∃ e1, (s1.heap.update a (Obj.mapSeq fun _ => (#[] : Array Value))).get? a = some (seqObj "list" #[] e1) := ⟨_, get?_update_seq hat1 fun _ => #[]⟩
  unfold ksk_tree
  refine wpAny_bind (listItems_at hat1 rfl ?_)
  refine wpAny_bind (listUpdate_at hat1 rfl ?_ (by rw [List.size_toArray]; exact hZ) (Nat.zero_le _))
  refine wpAny_bind (seqEpoch_at hoe rfl ?_)
  have I2 := inv_turn I1 fa0 (Heap.SameBut.update s1.heap a (Obj.mapSeq fun _ => (#[] : Array Value)))
  generalize hs2 : ({ s1 with heap := s1.heap.update a (Obj.mapSeq fun _ => (#[] : Array Value)) } : Shared) = s2 at I2 ⊢
  have hoe2 : s2.heap.get? a = some (seqObj "list" #[] e1) := by rw [← hs2]; exact hoe
  refine wpAny_bind (wpAny_newTuple ?_ (by show its.length ≤ _; exact hZ))
  have I3 : Inv X pins σ H { s2 with heap := s2.heap.push { cls := .type "tuple", data := .seq (its.toArray.toList).toArray } } := I2.kept (t' := s2.toks) fun b o e => Heap.get?_push_of_some _ e
  generalize hs3 : ({ s2 with heap := s2.heap.push { cls := .type "tuple", data := .seq (its.toArray.toList).toArray } } : Shared) = s3 at I3 ⊢
  have hoe3 : s3.heap.get? a = some (seqObj "list" #[] e1) := by rw [← hs3]; exact Heap.get?_push_of_some _ hoe2
  refine wpAny_bind (wpAny_newList ?_ (Nat.zero_le _))
  refine wpAny_holding ?_
  have I4 : Inv X pins σ H { s3 with heap := s3.heap.push { cls := .type "list", data := .seq ([] : List Value).toArray } } := I3.kept (t' := s3.toks) fun b o e => Heap.get?_push_of_some _ e
  have hkn : s3.heap.get? s3.heap.objs.size = none := Heap.get?_none_of_le (Nat.le_refl _)
  have fk0 : FpOk X pins H s3.heap.objs.size := I3.fpOk (Nat.le_refl _) (I3.hok.fresh (Nat.le_refl _))
  have hka : s3.heap.objs.size ≠ a := fun e => by rw [e, hoe3] at hkn; cases hkn
  have hok4 : (s3.heap.push { cls := .type "list", data := .seq ([] : List Value).toArray }).get? s3.heap.objs.size = some (seqObj "list" #[] 0) := Heap.get?_push_size _ rfl
  have hoe4 : (s3.heap.push { cls := .type "list", data := .seq ([] : List Value).toArray }).get? a = some (seqObj "list" #[] e1) := Heap.get?_push_of_some _ hoe3
  generalize hkS : s3.heap.objs.size = kS at fk0 hka hok4 ⊢
  generalize hs4 : ({ s3 with heap := s3.heap.push { cls := .type "list", data := .seq ([] : List Value).toArray } } : Shared) = s4 at I4 ⊢
  have hok4' : s4.heap.get? kS = some (seqObj "list" #[] 0) := by rw [← hs4]; exact hok4
  have hoe4' : s4.heap.get? a = some (seqObj "list" #[] e1) := by rw [← hs4]; exact hoe4
  unfold ksk_rest
  refine wpAny_bind (wpAny_rule ?_)
  first
    | rw [List.forIn_toArray]
    | (rw [← Array.forIn_toList]; simp only [List.toList_toArray])
  refine wpAny_bind (ksk_fold (fun i s' => ∃ Hi kA e, Inv X pins σ Hi s' ∧ Same H Hi ∧ FpOk X pins Hi a ∧ FpOk X pins Hi kS ∧ s'.heap.get? kS = some (seqObj "list" kA e) ∧ s'.heap.get? a = some (seqObj "list" #[] e1) ∧ PySem.W.EachIs (fun v z => ∃ t, v = Value.str z t) kA.toList ((xs.take i).map κ)) its 0 s4
    ⟨H, #[], 0, I4, Same.refl H, fa0, fk0, hok4', hoe4', .nil⟩ ?turn ?fin)
  case turn =>
    intro j u s' hu hJ
    rw [Nat.zero_add] at hJ ⊢
    obtain ⟨Hi, kA, e, Ii, sm, fa, fk, gk, ga, ek⟩ := hJ
    have hj : j < its.length := (List.getElem?_eq_some_iff.mp hu).1
    obtain ⟨x, hx⟩ : ∃ x, xs[j]? = some x := ⟨_, List.getElem?_eq_getElem (by omega)⟩
    obtain ⟨u', hu', ru⟩ := rv.get hx
    rw [hu] at hu'
    cases hu'
    have hxm : x ∈ xs := List.mem_of_getElem? hx
    have rA : Room k X.A.in1.in1 := Room.in1 (Room.in1 hr)
    have fsk := fp_stack Ii fk
    have fsa := fp_stack Ii fa
    refine wpAny_bind (wpAny_attempt (key_call (z := κ x) Ii.env0.in1.in1 rA F hb Ii ru (fun Q1 h1 => hsp x hxm Hi sm Q1 h1) fun t H' s'' I' sm' keep => ?_))
    obtain ⟨gk', nk'⟩ := keep kS fsk fk.1 _ gk
    obtain ⟨ga', na'⟩ := keep a fsa fa.1 _ ga
    have fk' : FpOk X pins H' kS := ⟨nk', fk.2⟩
    have fa' : FpOk X pins H' a := ⟨na', fa.2⟩
    have sz : kA.size ≤ its.length := by
      have h1 := ek.length
      rw [Array.length_toList, List.length_map, List.length_take] at h1
      omega
    have sb := Heap.SameBut.update s''.heap kS (Obj.mapSeq (·.push (Value.str (κ x) t)))
    obtain ⟨c2, hc2⟩ : ∃ c2, (s''.heap.update kS (Obj.mapSeq (·.push (Value.str (κ x) t)))).get? kS = some (seqObj "list" (kA.push (Value.str (κ x) t)) c2) := ⟨_, get?_update_seq gk' (·.push _)⟩
    refine wpAny_bind (listUpdate_at gk' rfl ?_ (Nat.le_trans sz hZ) (by rw [Array.size_push]; exact Nat.succ_le_succ (Nat.le_trans sz hZ)))
    refine wpAny_pure ⟨rfl, H', kA.push (Value.str (κ x) t), c2, inv_turn I' fk' sb, sm.trans sm', fa', fk', hc2, (sb.2 a (Ne.symm hka)).trans ga', ?_⟩
    have e3 : (xs.take (j + 1)).map κ = (xs.take j).map κ ++ [κ x] := by rw [List.take_add_one, hx, List.map_append]; rfl
    rw [e3, Array.toList_push]
    exact each_get ek (.cons ⟨t, rfl⟩ .nil)
  case fin =>
    intro s' hJ
    obtain ⟨Hi, kA, e, Ii, sm, fa, fk, gk, ga, ek⟩ := hJ
    rw [Nat.zero_add, List.take_of_length_le (by omega)] at ek
    try dsimp only
    refine wpAny_bind (listItems_at gk rfl ?_)
    have hk' : PySem.W.EachIs (fun v d => ∃ as, Reads s'.heap v d as) kA.toList (xs.map fun x => PyData.str (κ x)) := by
      have em : (xs.map κ).map PyData.str = xs.map fun x => PyData.str (κ x) := by rw [List.map_map]; rfl
      rw [← em]
      clear em
      generalize xs.map κ = zs at ek
      generalize kA.toList = us at ek
      induction ek with
      | nil => exact .nil
      | cons r t ih =>
        obtain ⟨t', rfl⟩ := r
        exact .cons ⟨_, Reads.str _ _⟩ ih
    have hal : PySem.W.AllAlike (xs.map fun x => PyData.str (κ x)) := fun d hd d' hd' => by
      obtain ⟨x, _, rfl⟩ := List.mem_map.mp hd
      obtain ⟨y, _, rfl⟩ := List.mem_map.mp hd'
      rfl
    have hso : PySem.W.Sortable (xs.map fun x => PyData.str (κ x)) := .inr fun d hd => by
      obtain ⟨x, _, rfl⟩ := List.mem_map.mp hd
      exact ⟨(fun z => nomatch z), (fun ys z => nomatch z)⟩
    have hsz : kA.size = its.length := by
      have h1 := ek.length
      rw [Array.length_toList, List.length_map] at h1
      omega
    have rU := (Room.in1 (Room.in1 hr)).units0
    have hidn : (PySem.W.hideAll s'.heap [kS]).get? kS = none := PySem.W.hideAll_none [kS] (by simp)
    refine PySem.W.keyH_end (κ := PySem.W.dataKind s'.heap (xs.map fun x => PyData.str (κ x))) (h₁ := PySem.W.hideAll s'.heap [kS]) (fun b o _ z => PySem.W.of_hideAll [kS] z) hidn gk ga hka
      (PySem.W.SortsAt.data hk' hal hso fun d hd => ?_) hsz hZ fun h3 tk3 c k3 n3 => ?_
    · obtain ⟨x, _, rfl⟩ := List.mem_map.mp hd
      exact rU
    · have ko : PySem.W.KeyedOut false (xs.map fun x => PyData.str (κ x)) its (PySem.W.sortVals (PySem.W.dataKind s'.heap (xs.map fun x => PyData.str (κ x))) false kA.toList its) := ⟨s'.heap, kA.toList, hal, rfl, hk'⟩
      have ee := PySem.W.keyedOut_each (fun x => PyData.str (κ x)) ko (each_of rv)
      have em : xs.mergeSort (PySem.W.dataLe false fun x => PyData.str (κ x)) = xs := by
        refine List.mergeSort_of_pairwise (asc.imp fun {x y} h => ?_)
        rw [PySem.W.dataLe_str]
        exact decide_eq_true (List.not_lt.mp h.asymm)
      rw [em] at ee
      refine ⟨rfl, ?_⟩
      have keep : ∀ b o, b ≠ a → b ≠ kS → s'.heap.get? b = some o → h3.get? b = some o := fun b o nb nk z => k3 b o nb (PySem.W.hideAll_get [kS] z (by simpa using nk))
      have I9 : Inv X pins σ Hi { s' with heap := h3, toks := tk3 } := inv_turn2 Ii fa fk keep
      exact ⟨.ref a, upd Hi a (.lst xs), inv_track I9 h0a fa n3 (vals_of ee) hz, rfl, q _ a (sm.trans (same_new fa.1)) upd_same⟩
end
end Fm
set_option maxHeartbeats 4000000
namespace Fm
open PySem PySem.Spec PyProof.Rows L2 FmM
mutual
theorem PlanAt.inj {H : Hp} : ∀ {p q : Plan Str} {v : V}, PlanAt H v p → PlanAt H v q → p = q
  | .leaf z, .leaf y, v, h, h' => by
    rw [PlanAt] at h
    rw [PlanAt] at h'
    rw [h] at h'
    cases h'
    rfl
  | .leaf z, .node k ps, v, h, h' => by
    rw [PlanAt] at h
    rw [PlanAt] at h'
    obtain ⟨a, b, vs, e, _⟩ := h'
    rw [h] at e
    cases e
  | .node k ps, .leaf z, v, h, h' => by
    rw [PlanAt] at h
    rw [PlanAt] at h'
    obtain ⟨a, b, vs, e, _⟩ := h
    rw [h'] at e
    cases e
  | .node k ps, .node j qs, v, h, h' => by
    rw [PlanAt] at h
    rw [PlanAt] at h'
    obtain ⟨a, b, vs, e, h1, h2, h3⟩ := h
    obtain ⟨a', b', vs', e', h1', h2', h3'⟩ := h'
    rw [e] at e'
    cases e'
    rw [h1] at h1'
    have h4 := HO.tup.inj (Option.some.inj h1')
    have hb : b = b' := by
      have := (List.cons.inj (List.cons.inj h4).2).1
      exact V.ref.inj this
    subst hb
    have hk : k = j := kS_inj (V.str.inj (List.cons.inj h4).1)
    rw [h2] at h2'
    have h5 : vs = vs' := HO.tup.inj (Option.some.inj h2')
    subst h5
    rw [hk, PlansAt.inj h3 h3']
theorem PlansAt.inj {H : Hp} : ∀ {ps qs : List (Plan Str)} {vs : List V}, PlansAt H vs ps → PlansAt H vs qs → ps = qs
  | [], [], _, _, _ => rfl
  | [], q :: qs, vs, h, h' => by
    rw [PlansAt] at h
    rw [PlansAt] at h'
    obtain ⟨v, r, e, _⟩ := h'
    rw [h] at e
    cases e
  | p :: ps, [], vs, h, h' => by
    rw [PlansAt] at h
    rw [PlansAt] at h'
    obtain ⟨v, r, e, _⟩ := h
    rw [h'] at e
    cases e
  | p :: ps, q :: qs, vs, h, h' => by
    rw [PlansAt] at h
    rw [PlansAt] at h'
    obtain ⟨v, r, e, h1, h2⟩ := h
    obtain ⟨v', r', e', h1', h2'⟩ := h'
    rw [e] at e'
    cases e'
    rw [PlanAt.inj h1 h1', PlansAt.inj h2 h2']
end
/-- the least line of the plan that stands at a value -/
noncomputable def keyAt (H : Hp) (v : V) : Str := by
  classical exact if h : ∃ a p r, PlanAt H v p ∧ srt p.lines = a :: r then h.choose else Str.empty
theorem keyAt_eq {H : Hp} {v : V} {p : Plan Str} {a : Str} {r : List Str} (h : PlanAt H v p) (e : srt p.lines = a :: r) : keyAt H v = a := by
  have hx : ∃ a p r, PlanAt H v p ∧ srt p.lines = a :: r := ⟨a, p, r, h, e⟩
  unfold keyAt
  rw [dif_pos hx]
  obtain ⟨q, r', hq, e'⟩ := hx.choose_spec
  have := PlanAt.inj h hq
  subst this
  rw [e] at e'
  exact (List.cons.inj e').1.symm
theorem least_of {p : Plan Str} (nd : p.lines.Nodup) {a : Str} {r : List Str} (e : srt p.lines = a :: r) : Least LtS p.lines a := by
  have asc := srt_asc nd
  rw [e] at asc
  refine ⟨srt_mem.mp (by rw [e]; simp), fun b hb => ?_⟩
  have hb' := srt_mem.mpr hb
  rw [e] at hb'
  rcases List.mem_cons.mp hb' with h | h
  · exact .inl h
  · exact .inr ((List.pairwise_cons.mp asc).1 b h)
theorem plans_asc {H : Hp} : ∀ {ps : List (Plan Str)} {vs : List V}, PlansAt H vs ps → GoodL ps → (linesL ps).Nodup → ps.Pairwise (fun p q => ∀ a b, Least LtS p.lines a → Least LtS q.lines b → LtS a b) → vs.Pairwise fun x y => LtS (keyAt H x) (keyAt H y)
  | [], vs, h, _, _, _ => by
    rw [PlansAt] at h
    rw [h]
    exact List.Pairwise.nil
  | p :: ps, vs, h, g, nd, pw => by
    rw [PlansAt] at h
    obtain ⟨v, r, e, h1, h2⟩ := h
    rw [GoodL] at g
    rw [linesL, List.nodup_append] at nd
    obtain ⟨pw1, pw2⟩ := List.pairwise_cons.mp pw
    rw [e]
    refine List.pairwise_cons.mpr ⟨fun y hy => ?_, plans_asc h2 g.2 nd.2.1 pw2⟩
    obtain ⟨i, hi⟩ := List.getElem?_of_mem hy
    obtain ⟨q, hq, hyq⟩ := h2.get hi
    have hqm : q ∈ ps := List.mem_of_getElem? hq
    obtain ⟨a, t, ea⟩ := srt_cons g.1
    obtain ⟨b, t', eb⟩ := srt_cons (goodL_mem g.2 q hqm)
    rw [keyAt_eq h1 ea, keyAt_eq hyq eb]
    exact pw1 q hqm a b (least_of nd.1 ea) (least_of (nd.2.1.sublist (part_sub hqm)) eb)
section
variable {P : Program} {w : World} {K : PySem.W.Frag} {mg : Str → Option Value} {base : Heap}
theorem sc_flat_form : FnScope ["plan", "kind", "parts", "found", "part"] ["plan"] (defScope s_flat_form) := ⟨rfl, rfl, rfl, by decide +kernel, rfl, by decide +kernel, by decide +kernel⟩
def spFlat (n : Nat) : Sp := fun vs H Q _ => ∃ v p, vs = [v] ∧ PlanAt H v p ∧ p.Good ∧ p.lines.Nodup ∧ p.lines.length ≤ n ∧ p.lines.length ≤ 8 ∧ Flat LtS p ∧ ∀ H' r, Same H H' → PlanAt H' r p → Q r H'
theorem c_flat_form_n (T : Txt K mg) : ∀ n, Cal P w K mg base (n + 13) "flat_form" (spFlat n) := by
  intro n
  induction n with
  | zero =>
    refine cal_of T.d_flat_form sc_flat_form (fun vs H Q E h => ?_) (fun f cdv A outer s H vs Q E hr h => ?_)
    · obtain ⟨v, p, rfl, _⟩ := h
      rfl
    · obtain ⟨v, p, rfl, _, g, _, hn, _⟩ := h
      have := List.length_pos_iff.mpr (Plan.lines_ne g)
      omega
  | succ n ih =>
    obtain ⟨fl, fdl, psl, Fl, hml, kpl, bl⟩ := c_least_line (P := P) (w := w) (base := base) T
    refine cal_of T.d_flat_form sc_flat_form (fun vs H Q E h => ?_) (fun f cdv A outer s H vs Q E hr h => ?_)
    · obtain ⟨v, p, rfl, _⟩ := h
      rfl
    · obtain ⟨v, p, rfl, hv, g, nd, hn, h8, fl8, q⟩ := h
      refine ⟨_, pss_cons (ps_if (pt_val (pe_callB call_isi (by rfl) T.b_isinstance bt_isinstance (pa_cons (pv 0) (pa_cons (pe_bltn (v := .ty "str") (by rfl) T.b_str bt_str rfl) pa_nil))))
          (pss_one (ps_ret (pv 0))) pss_nil)
        (pss_cons (ps_asg (pv 0) (pg_tup rfl (pgs_cons (pg_name (i := 1) sc_flat_form.nd rfl (.inl rfl)) (pgs_cons (pg_name (i := 2) sc_flat_form.nd rfl (.inl rfl)) pgs_nil))))
        (pss_cons (ps_set (i := 3) sc_flat_form.nd rfl (.inl rfl) (pe_lst pa_nil))
        (pss_cons (ps_for PassesOwn.never rfl (pi_list (pe_lc (own := [("part", 4)]) (g := gName 4) (tt := tYes) rfl sc_flat_form.nd (pi_tup (pv 2)) (blkOk_by (N := ["plan", "kind", "parts", "found", "part"]) (sc := defScope s_flat_form) (by decide +kernel))
              (fun _ _ _ _ _ => pg_name (i := 4) sc_flat_form.nd rfl (Or.inl rfl)) (fun _ _ _ _ _ => pts_nil)
              (fun _ _ _ _ _ => pe_d ih hr (by omega) (pa_cons (pv 4) pa_nil)))) (pg_name (i := 4) sc_flat_form.nd rfl (.inl rfl))
            (pss_one (ps_if (PW.pt (pw_and (pt_not (pt_val (pe_callB call_isi (by rfl) T.b_isinstance bt_isinstance (pa_cons (pv 4) (pa_cons (pe_bltn (v := .ty "str") (by rfl) T.b_str bt_str rfl) pa_nil)))))
                (pw_and1 (pt_cmpR op_eq (pe_ix ix_tup (pv 4) pe_int (fun _ _ => rfl)) (pv 1) (nomark _)))))
              (pss_one ps_never)
              (pss_one (ps_expr (pe_bm PySem.F.plainAttrs_list PySem.F.slot_list_append PySem.F.type_list_append mt_append (pv 3) (pa_cons (pv 4) pa_nil)))))))
        (pss_one (ps_ret (pe_tup (pa_cons (pv 1) (pa_cons (pe_callTy call_tuple_of (by rfl) T.b_tuple bt_tuple (pa_cons
          (pe_callBK (cr_sortKey (k := 10) (hr.mono (by omega)) Fl bl) (by rfl) T.b_sorted bt_sorted (pa_cons (pv 3) pa_nil) (pk_cons (pe_glob (v := .ref fl) (by rfl) hml rfl) pk_nil)) pa_nil)) pa_nil)))))))), ?_⟩
      cases p with
      | leaf z =>
        have hz := hv
        rw [PlanAt] at hz
        subst hz
        refine ⟨_, rfl, _, _, .type "str", .type "str", true, rfl, .ty _, .base (.str _), isi_str, true, rfl, ?_⟩
        exact iteT ⟨_, rfl, q _ _ (Same.refl _) hv⟩
      | node k ps =>
        rw [PlanAt] at hv
        obtain ⟨x, y, ws, rfl, hx, hy, hp⟩ := hv
        have hg := g
        rw [Plan.Good] at hg
        rw [Flat] at fl8
        have hwl := hp.len
        have ndl : (linesL ps).Nodup := by rw [Plan.lines] at nd; exact nd
        have hps : ps.length ≤ 8 := by
          have := linesL_len hg.2
          rw [Plan.lines] at h8
          omega
        refine ⟨_, rfl, _, _, .type "tuple", .type "str", false, rfl, .ty _, .base (.tup hx), isi_tup_str, false, rfl, ?_⟩
        refine iteF ⟨_, rfl, x, _, rfl, .inl (.inl hx), rfl, _, _, rfl, _, _, rfl, rfl, ?_⟩
        refine ⟨Nat.zero_le _, fun l hl => ?_⟩
        generalize hH1 : upd H l (.lst []) = H1
        have s1 : Same H H1 := by rw [← hH1]; exact same_new hl
        have e1 : H1 l = some (.lst []) := by rw [← hH1]; exact upd_same
        -- the flat forms of the parts
        refine ⟨_, rfl, y, rfl, ⟨ws, .inl (.inl (s1 _ _ hy))⟩, fun D hD => ?_⟩
        refine loop_it (walk_tup (xs := ws)) (LcI H1 D fun i acc H' => PlansAt H' acc (ps.take i)) (LcI.start hD PlansAt.nil) (fun i H2 _ p1 => ?_) (fun i v H2 H2' hi p1 hy' => ?_) fun H2 p1 => ?_
        · obtain ⟨acc, _, sm, _⟩ := p1
          exact .inl (.inl (sm _ _ (s1 _ _ hy)))
        · obtain ⟨acc, hDa, sm, ra⟩ := p1
          obtain ⟨rfl, hxv⟩ := hy'
          obtain ⟨r, hr1, hvr⟩ := hp.get hxv
          have hmem : r ∈ ps := List.mem_of_getElem? hr1
          have hlt := part_len g hmem
          refine ⟨rfl, kept ⟨v, rfl, v, r, rfl, hvr.tups (sm_tups (s1.trans sm)), goodL_mem hg.2 r hmem, ndl.sublist (part_sub hmem), by omega, by omega, (flatL_mem fl8.1 r hmem).1, fun H3 u s3 hu => ?_⟩⟩
          refine ⟨acc, s3 _ _ hDa, ?_, LcI.push hD (sm.trans s3) ?_⟩
          · rw [ra.len, List.length_take]
            exact small_of (m := 8) (by omega)
          · have tt : Tups H2' (upd H3 D (.lst (acc ++ [u]))) := (sm_tups s3).trans (tups_lst (s3 _ _ hDa))
            have et : ps.take (i + 1) = ps.take i ++ [r] := by rw [List.take_add_one, hr1]; rfl
            rw [et]
            exact (ra.tups tt).append (PlansAt.cons (hu.tups (tups_lst (s3 _ _ hDa))) PlansAt.nil)
        · obtain ⟨acc, hDa, sm, ra⟩ := p1
          rw [List.take_of_length_le (by omega)] at ra
          have e2 : H2 l = some (.lst []) := sm _ _ e1
          have nlD : l ≠ D := ne_of_none e1 hD
          refine ⟨D, rfl, ⟨acc, .inl (.inl hDa)⟩, ?_⟩
          refine for_list (xs := acc) (fun i σ H3 => ∃ y4, σ = [some (.ref x), some (.str (kS k)), some (.ref y), some (.ref l), y4] ∧ SameBut l H2 H3 ∧ H3 l = some (.lst (acc.take i))) ⟨none, rfl, fun _ _ _ e => e, e2⟩ (fun i σ H3 hi p3 => ?_) (fun i v σ H3 hi p3 => ?_) (fun σ H3 p3 => ?_)
          · obtain ⟨y4, rfl, sb, _⟩ := p3
            exact .inl (.inl (sb D _ (Ne.symm nlD) hDa))
          · obtain ⟨y4, rfl, sb, e3⟩ := p3
            obtain ⟨r, hr1, hvr⟩ := ra.get hi
            have hmem : r ∈ ps := List.mem_of_getElem? hr1
            have t3 : Tups H2 H3 := sb.tups e2
            have hvr3 := hvr.tups t3
            have app : ∃ v1, [some (V.ref x), some (V.str (kS k)), some (V.ref y), some (V.ref l), some v][3]? = some (some v1) ∧ (tyV K "list" v1 H3 ∧ ∃ v2, [some (V.ref x), some (V.str (kS k)), some (V.ref y), some (V.ref l), some v][4]? = some (some v2) ∧ rAppend v1 [v2] H3 fun _ H4 => ∃ y4, [some (V.ref x), some (V.str (kS k)), some (V.ref y), some (V.ref l), some v] = [some (V.ref x), some (V.str (kS k)), some (V.ref y), some (V.ref l), y4] ∧ SameBut l H2 H4 ∧ H4 l = some (.lst (acc.take (i + 1)))) := by
              refine ⟨_, rfl, .inl ⟨rfl, _, .inl (.inl e3)⟩, _, rfl, l, _, v, rfl, rfl, e3, ?_, _, rfl, sb.trans sameBut_upd, ?_⟩
              · rw [List.length_take]
                have := ra.len
                exact small_of (m := 8) (by omega)
              · rw [upd_same, List.take_add_one, hi]
                rfl
            refine ⟨_, rfl, ?_⟩
            cases r with
            | leaf z =>
              rw [PlanAt] at hvr3
              subst hvr3
              exact ⟨_, _, .type "str", .type "str", true, rfl, .ty _, .base (.str _), isi_str, true, rfl, iteF (iteF app)⟩
            | node j qs =>
              have hnk := (flatL_mem fl8.1 _ hmem).2
              rw [PlanAt] at hvr3
              obtain ⟨x', y', ws', rfl, hx', _⟩ := hvr3
              refine ⟨_, _, .type "tuple", .type "str", false, rfl, .ty _, .base (.tup hx'), isi_tup_str, false, rfl, ?_⟩
              refine iteT ⟨_, rfl, x', _, 0, _, rfl, rfl, .inl (.inl hx'), atI_nat (j := 0) rfl, _, rfl, rfl, _, rfl, ?_⟩
              have ej : decide (V.str (kS j) = V.str (kS k)) = false := by
                rw [kS_eq]
                exact decide_eq_false fun e => hnk e
              refine ifb (fun h => absurd (ej.symm.trans h) Bool.false_ne_true) (fun _ => app)
          · obtain ⟨y4, rfl, sb, e3⟩ := p3
            rw [List.take_length] at e3
            have t3 : Tups H2 H3 := sb.tups e2
            have ra3 := ra.tups t3
            have sm3 : Same H H3 := fun b o e => by
              by_cases hb : b = l
              · subst hb
                rw [hl] at e
                cases e
              · exact sb b o hb (sm b o (s1 b o e))
            refine ⟨_, rfl, _, rfl, l, acc, keyAt H3, rfl, rfl, .inl (.inl e3), plans_asc ra3 hg.2 ndl fl8.2, fun v hv H4 s4 Q1 h1 => ?_, fun H4 p s4 hp4 => ?_⟩
            · obtain ⟨i, hi⟩ := List.getElem?_of_mem hv
              obtain ⟨r, hr1, hvr⟩ := ra3.get hi
              have hmem : r ∈ ps := List.mem_of_getElem? hr1
              have hlt := part_len g hmem
              refine ⟨v, r, rfl, hvr.tups (sm_tups s4), goodL_mem hg.2 r hmem, ndl.sublist (part_sub hmem), by omega, fun H5 a t s5 ea => ?_⟩
              have := h1 H5 s5
              rw [keyAt_eq hvr ea] at this
              exact this
            · refine ⟨p, acc, rfl, .inl ⟨.inl (.inl hp4), fun t ht => ?_⟩⟩
              refine ⟨by show 2 ≤ sizeLine; decide, fun u hu => ?_⟩
              refine q _ _ (((sm3.trans s4).trans (same_new ht)).trans (same_new hu)) ?_
              rw [PlanAt]
              refine ⟨u, t, acc, rfl, upd_same, ?_, ?_⟩
              · rw [upd_ne (ne_of_none upd_same hu)]
                exact upd_same
              · exact ra3.tups (((sm_tups s4).trans (tups_new ht)).trans (tups_new hu))
/-! ### flatten -/
theorem sc_flatten : FnScope ["plan"] ["plan"] (defScope s_flatten) := ⟨rfl, rfl, rfl, by decide +kernel, rfl, by decide +kernel, by decide +kernel⟩
def spFlatten : Sp := fun vs H Q _ => ∃ v p, vs = [v] ∧ PlanAt H v p ∧ PlanOk p ∧ Flat LtS p ∧ ∀ H' r, Same H H' → PlanAt H' r p → Q r H'
theorem c_flatten (T : Txt K mg) : Cal P w K mg base 22 "flatten" spFlatten := by
  refine cal_of T.d_flatten sc_flatten (fun vs H Q E h => ?_) (fun f cdv A outer s H vs Q E hr h => ?_)
  · obtain ⟨v, p, rfl, _⟩ := h
    rfl
  · obtain ⟨v, p, rfl, hv, ok, fl, q⟩ := h
    refine ⟨_, pss_cons (ps_expr (pe_d (c_check_plan T) hr (by omega) (pa_cons (pv 0) pa_nil))) (pss_one (ps_ret (pe_d (c_flat_form_n T 8) hr (by omega) (pa_cons (pv 0) pa_nil)))), ?_⟩
    refine ⟨v, rfl, v, p, rfl, hv, ok, fun H1 s1 => ⟨v, rfl, v, p, rfl, hv.tups (sm_tups s1), ok.good, ok.nd, ok.le, ok.le, fl, fun H2 r s2 h2 => q _ _ (s1.trans s2) h2⟩⟩
end
end Fm
set_option maxHeartbeats 4000000
namespace Fm
open PySem PySem.Spec PyProof.Rows L2
/-! ### a set of texts whose members can be walked; M: the members, as they came -/
abbrev KS (P : Program) (w : World) : PySem.KeyKind P w Str := PySem.strKind P w
structure OkS (P : Program) (w : World) (es : Array (Int × Value)) (t : SetTable) (M : List Str) : Prop where
  el : ElemsOf (KS P w) es.toList
  pm : (es.toList.map fun e => strOf e.2).Perm M
  nd : M.Nodup
  sz : es.size < scanBound
  fit : t.fits es.size = true
  ris : Ris t.place.toList
  led : w.params.followText "set-order" = true ∨ t.led = true
def SetT (P : Program) (w : World) (h : Heap) (a : Addr) (M : List Str) : Prop :=
  ∃ o es ep t, h.get? a = some o ∧ o.ExactSet ∧ o.data = .set es ep t ∧ OkS P w es t M
section
variable {P : Program} {w : World} {es : Array (Int × Value)} {t : SetTable} {M : List Str}
theorem OkS.len (k : OkS P w es t M) : es.size = M.length := by
  have := k.pm.length_eq
  rwa [List.length_map, Array.length_toList] at this
theorem el_is {e : Int × Value} (h : ∃ k, (KS P w).is k e.2 = true ∧ e.1 = (KS P w).hash k) (z : Str) : (KS P w).is z e.2 = true ↔ strOf e.2 = z := by
  obtain ⟨k, hk, _⟩ := h
  obtain ⟨tk, ev⟩ := Value.isStrOf_shape hk
  rw [ev]
  constructor
  · intro h
    obtain ⟨tk', e'⟩ := Value.isStrOf_shape (show Value.isStrOf z (.str k tk) = true from h)
    cases e'
    rfl
  · intro h
    have h' : k = z := h
    subst h'
    exact strKind_is _ _ _ _
theorem OkS.mem (k : OkS P w es t M) (z : Str) : z ∈ M ↔ ∃ e ∈ es.toList, (KS P w).is z e.2 = true := by
  rw [← k.pm.mem_iff, List.mem_map]
  exact ⟨fun ⟨e, he, q⟩ => ⟨e, he, (el_is (k.el e he).1 z).mpr q⟩, fun ⟨e, he, q⟩ => ⟨e, he, (el_is (k.el e he).1 z).mp q⟩⟩
/-- all laid anew in another table -/
theorem OkS.relay (k : OkS P w es t M) (n : Nat) : OkS P w (relayAll t es n).1 (relayAll t es n).2.1 M := by
  have pr := relayAll_perm t es n
  exact ⟨k.el.perm pr, (pr.map _).trans k.pm, k.nd, by rw [← Array.length_toList, pr.length_eq, Array.length_toList]; exact k.sz, relayAll_fits t es n, relayAll_ris t es n,
    k.led.imp id fun z => (relayAll_led t es n).trans z⟩
/-- one more -/
theorem OkS.lay (k : OkS P w es t M) {z : Str} {tk : Tok} (hz : z ∉ M) (room : M.length + 1 < scanBound) : OkS P w (layNew t es ((KS P w).hash z) (.str z tk)).1 (layNew t es ((KS P w).hash z) (.str z tk)).2.1 (M ++ [z]) := by
  have pr := layNew_perm t es ((KS P w).hash z) (.str z tk)
  rw [Array.toList_push] at pr
  refine ⟨(k.el.push (strKind_is P w z tk) rfl).perm pr, ?_, ?_, ?_, layNew_fits t es _ _, layNew_ris t es _ _ k.ris, k.led.imp id fun q => (layNew_led t es _ _).trans q⟩
  · refine (pr.map _).trans ?_
    rw [List.map_append]
    exact k.pm.append (List.Perm.refl _)
  · refine List.nodup_append.mpr ⟨k.nd, by simp, fun a ha b hb => ?_⟩
    rw [List.mem_singleton.mp hb]
    exact fun e => hz (e ▸ ha)
  · rw [← Array.length_toList, pr.length_eq, List.length_append, Array.length_toList, k.len]
    exact room
theorem OkS.plainOff (k : OkS P w es t M) : OkS P w es { t with plain := false } M := ⟨k.el, k.pm, k.nd, k.sz, SetTable.fits_plain_off k.fit, k.ris, k.led⟩
end
section
variable {P : Program} {w : World} {A : Around} {E : Value → Shared → Prop} {s : Shared} {a : Addr} {M : List Str}
theorem put_get {h : Heap} {o : Obj} {es es' : Array (Int × Value)} {ep : Nat} {t t' : SetTable} (ho : h.get? a = some o) (hd : o.data = .set es ep t) : (h.update a (Obj.putSet es' t')).get? a = some { o with data := .set es' (ep + 1) t' } :=
  PpSet.storeB_at ho hd
/-- behind the laying: the store, and the table that grows -/
theorem store_grow {act : Bool → Sem Unit} (hact : ∀ b s1 (Q1 : Unit → Shared → Prop), Q1 () s1 → wpAny (model P w) A (act b) Q1 E s1) {o : Obj} {es es1 : Array (Int × Value)} {ep : Nat} {t t1 : SetTable} {M1 : List Str} (ho : s.heap.get? a = some o) (hx : o.ExactSet) (hd : o.data = .set es ep t)
    (k : OkS P w es1 t1 M1) {dummy : Bool} {Q : Option Bool → Shared → Prop} (hQ : ∀ h', Heap.SameBut a s.heap h' → SetT P w h' a M1 → Q (some true) { s with heap := h' }) :
    wpAny (model P w) A (do
      storeSet a es1 t1
      if (!dummy && t1.tooFull) = true then do
        act (relayAll t1 es1 (SetTable.grown es1.size)).2.2
        storeSet a (relayAll t1 es1 (SetTable.grown es1.size)).1 (relayAll t1 es1 (SetTable.grown es1.size)).2.1
        pure (some true)
      else pure (some true)) Q E s := by
  have ho1 := put_get (es' := es1) (t' := t1) ho hd
  have sb := Heap.SameBut.update s.heap a (Obj.putSet es1 t1)
  refine wpAny_bind (wpAny_storeSet_of ho hd ?_ (fits_of_scanBound k.sz))
  split
  · have k2 := k.relay (SetTable.grown es1.size)
    revert k2
    generalize relayAll t1 es1 (SetTable.grown es1.size) = Z
    rcases Z with ⟨es2, t2, gv⟩
    intro k2
    refine wpAny_bind (hact _ _ _ (wpAny_bind (wpAny_storeSet_of ho1 rfl (wpAny_pure (hQ _ (sb.trans (Heap.SameBut.update _ a _)) ?_)) (fits_of_scanBound k2.sz))))
    exact ⟨_, es2, _, t2, put_get ho1 rfl, hx, rfl, k2⟩
  · exact wpAny_pure (hQ _ sb ⟨_, es1, _, t1, ho1, hx, rfl, k⟩)
theorem addHashed_t {z : Str} {tk : Tok} {Q : Bool → Shared → Prop} (R : SetT P w s.heap a M) (room : M.length + 1 < scanBound)
    (hQ : ∀ h' b, Heap.SameBut a s.heap h' → SetT P w h' a (if z ∈ M then M else M ++ [z]) → Q b { s with heap := h' }) :
    wpAny (model P w) A (setAddHashed a (.str z tk) ((KS P w).hash z)) Q E s := by
  obtain ⟨o, es, ep, t, ho, hx, hd, k⟩ := R
  have sc : (Value.str z tk).scannable = true := rfl
  have ki : (KS P w).is z (.str z tk) = true := strKind_is P w z tk
  unfold setAddHashed setAddHashedIn
  refine wpAny_holding (wpAny_bind (wpAny_setState_of ho hd k.fit ?_))
  dsimp only
  rw [byScan_of sc k.sz k.el]
  simp only [↓reduceIte]
  unfold setAddByScan
  refine wpAny_bind (wpAny_bind (wpAny_rule (wpAny_bind (wpAny_setScan_of ki ho hd k.fit k.el ?_))))
  cases found : List.findIdx? (fun e => (KS P w).is z e.2) es.toList with
  | some j =>
    dsimp only
    obtain ⟨hj, pj, _⟩ := List.findIdx?_eq_some_iff_getElem.mp found
    have hz : z ∈ M := (k.mem z).mpr ⟨_, List.getElem_mem hj, pj⟩
    refine wpAny_pure (wpAny_pure (hQ s.heap _ (Heap.SameBut.refl a s.heap) ?_))
    rw [if_pos hz]
    exact ⟨o, es, ep, t, ho, hx, hd, k⟩
  | none =>
    dsimp only
    have hz : z ∉ M := fun m => by
      obtain ⟨e, he, q⟩ := (k.mem z).mp m
      have := List.findIdx?_eq_none_iff.mp found e he
      rw [q] at this
      cases this
    have k1 := k.lay (tk := tk) hz room
    have quiet : ∀ (b : Bool) s1 (Q1 : Unit → Shared → Prop), Q1 () s1 → wpAny (model P w) A (match b with | true => rule "set.scan.the-table-gave-way" | false => pure ()) Q1 E s1 := fun b s1 Q1 q => by
      cases b
      · exact wpAny_pure q
      · exact wpAny_rule q
    have fin : ∀ h', Heap.SameBut a s.heap h' → SetT P w h' a (M ++ [z]) → Q true { s with heap := h' } := fun h' sb r => hQ h' true sb (by rw [if_neg hz]; exact r)
    revert k1
    generalize layNew t es ((KS P w).hash z) (.str z tk) = Z
    rcases Z with ⟨es1, t1, dummy, gv⟩
    intro k1
    dsimp only at k1 ⊢
    refine wpAny_bind (quiet _ _ _ ?_)
    split
    · rw [hashByValue_scannable 8 sc]
      refine wpAny_bind (wpAny_pure ?_)
      refine store_grow (M1 := M ++ [z]) (fun b s1 Q1 q => by cases b <;> first | exact wpAny_pure q | exact wpAny_rule q) ho hx hd ?_ ?_
      · first
          | (split <;> first | exact k1 | exact k1.plainOff)
          | exact k1
      · intro h' sb r
        dsimp only
        exact wpAny_pure (fin h' sb r)
    · refine wpAny_bind (wpAny_pure ?_)
      simp only [↓reduceIte]
      refine store_grow (fun b s1 Q1 q => by cases b <;> first | exact wpAny_pure q | exact wpAny_rule q) ho hx hd k1 ?_
      intro h' sb r
      dsimp only
      exact wpAny_pure (fin h' sb r)
theorem SetT.setOf (R : SetT P w s.heap a M) : s.heap.SetOf (KS P w) a (fun z => decide (z ∈ M)) M.length := by
  obtain ⟨o, es, ep, t, ho, hx, hd, k⟩ := R
  exact ⟨o, es, ep, t, ho, hx, hd, k.el, fun z => by rw [decide_eq_true_eq]; exact k.mem z, k.sz, k.fit, k.len⟩
/-- the builtin that a set's walk ends a turn with -/
theorem call_add_t {z : Str} {tk : Tok} {Q : Value → Shared → Prop} (R : SetT P w s.heap a M) (room : M.length + 1 < scanBound)
    (hQ : ∀ h' tk', Heap.SameBut a s.heap h' → SetT P w h' a (if z ∈ M then M else M ++ [z]) → Q .none { s with heap := h', toks := tk' }) :
    wpAny (model P w) A (call (.builtin "set.add") [.ref a, .str z tk]) Q E s := by
  refine wpAny_call_entry F.slot_set_add (R.setOf).typeIs F.entry_set_add ?_ (F.args_set_add_2 _ _)
  unfold Builtin.«set.add» Builtin.Frozenset.oneOther
  simp only [List.isEmpty_nil, bind_assoc]
  unfold Builtin.Frozenset.addrOf setAdd
  refine wpAny_bind (wpAny_pure (wpAny_bind (wpAny_pure (wpAny_bind (wpAny_holding (wpAny_bind ((KS P w).pyHash (strKind_is P w z tk) ?_)))))))
  refine addHashed_t (s := { s with toks := s.toks + 1 }) R room fun h' b sb r => ?_
  show wpAny _ _ (ret Value.none) _ _ _
  exact wpAny_pure ⟨_, rfl, hQ h' _ sb r⟩
theorem setT_fresh {h : Heap} (P : Program) (w : World) : SetT P w (h.push { cls := .type "set", dict := none, data := .set #[] 0 (.fresh 0 0 (!w.params.followText "set-order")) }) h.objs.size [] := by
  refine ⟨_, #[], 0, _, Heap.get?_push_size _ rfl, ⟨rfl, rfl, rfl⟩, rfl, fun e he => by simp at he, List.Perm.refl _, List.Pairwise.nil, by decide, by rfl, List.Pairwise.nil, ?_⟩
  show _ ∨ (!w.params.followText "set-order") = true
  cases w.params.followText "set-order"
  · exact .inr rfl
  · exact .inl rfl
theorem SetT.at {h h' : Heap} (R : SetT P w h a M) (k : ∀ o, h.get? a = some o → h'.get? a = some o) : SetT P w h' a M := by
  obtain ⟨o, es, ep, t, ho, r⟩ := R
  exact ⟨o, es, ep, t, k o ho, r⟩
/-! sorted -/
theorem sorted_t {Q : Value → Shared → Prop} (R : SetT P w s.heap a M) (hh : A.handled = none) (h64 : M.length < 64)
    (hQ : ∀ s' p (out : Array Value) (c : Nat) (ys : List Str), (∀ b o, s.heap.get? b = some o → s'.heap.get? b = some o) → s'.gens = s.gens → s'.os = s.os → s.heap.objs.size ≤ p →
      s'.heap.get? p = some (seqObj "list" out c) → StrsAre out.toList ys → ys.Perm M → sortedS ys = true → Q (.ref p) s') :
    wpAny (model P w) A (call (.builtin "sorted") [.ref a]) Q E s := by
  obtain ⟨o, es, ep, t, ho, hx, hd, k⟩ := R
  refine Calls.call_function_entry kind_sorted plain_sorted entry_sorted (args_sorted1 _) ?_
  unfold Builtin.«sorted»
  refine wpAny_bind (m := checkCount "sorted" 1 1 _) (wpAny_pure ?_)
  refine wpAny_bind (collect_set (A := A.in1) hh ⟨o, ho, hx.1, hd⟩ k.fit k.sz k.ris k.led fun s1 vs k1 grow g1 o1 pm => ?_)
  have hS : StrsAre vs (vs.map strOf) := strsAre_map vs fun v hv => by
    obtain ⟨e, he, rfl⟩ := List.mem_map.mp (pm.mem_iff.mp hv)
    obtain ⟨⟨x, hx, _⟩, _⟩ := k.el e he
    obtain ⟨u, eu⟩ := Value.isStrOf_shape hx
    exact ⟨x, u, eu⟩
  have pM : (vs.map strOf).Perm M := by
    have h1 := pm.map strOf
    rw [List.map_map] at h1
    exact h1.trans k.pm
  have hvl : vs.length = M.length := by
    have := pM.length_eq
    rwa [List.length_map] at this
  refine wpAny_bind (wpAny_newList ?_ (by rw [hvl, sizeLine_eq]; omega))
  have hL : (s1.heap.push (seqObj "list" vs.toArray 0)).get? s1.heap.objs.size = some (seqObj "list" vs.toArray 0) := Heap.get?_push_size _ rfl
  refine wpAny_bind (wpAny_holding (wpAny_call_entry slot_list_sort ⟨_, hL, rfl⟩ entry_list_sort
    (list_sort_treeK strKind_oneLt hL hS.keysOf (fun v1 v2 rest e => keyKind_strs (by rw [← e]; exact hS)) (by rw [hvl]; exact h64) fun st' hp hs => ?_) (args_list_sort _)))
  obtain ⟨ys, y1, y2, y3⟩ := sorted_out_str hS hp hs
  obtain ⟨c, hc⟩ := sortedHeap_at (vs := vs) (out := (arrOf st').map (·.2)) hL
  refine ⟨.none, rfl, wpAny_pure ⟨_, rfl, hQ _ s1.heap.objs.size ((arrOf st').map (·.2)) c ys (fun b u e => ?_) g1 o1 grow hc y1 (y2.trans pM) y3⟩⟩
  have e1 := k1 b u e
  have lt := Heap.lt_size e1
  show (sortedHeap (s1.heap.push (seqObj "list" vs.toArray 0)) s1.heap.objs.size vs ((arrOf st').map (·.2))).get? b = some u
  rw [sortedHeap_old (Nat.ne_of_lt lt) (by rw [size_push']; exact Nat.lt_succ_of_lt lt)]
  exact Heap.get?_push_of_some _ e1
end
/-! ### as a tracked thing -/
def SetTO (P : Program) (w : World) (a : Addr) (M : List Str) : HO := .ext fun h => SetT P w h a M
theorem setTO_new {w : World} {P : Program} {H : Hp} {h : Heap} {a : Addr} {M : List Str} (R : SetT P w h a M) : ObjOk P w H h a (SetTO P w a M) := by
  have ⟨o, _, _, _, ho, _⟩ := R
  exact ⟨R, ⟨o, ho⟩, fun h1 h2 p k => SetT.at p k⟩
section
variable {X : Cx}
theorem setTO_get {pins : List (Addr × Obj)} {σ : L2.St} {H : Hp} {s : Shared} {a : Addr} {M : List Str} (I : Inv X pins σ H s) (ha : H a = some (SetTO X.prog X.w a M)) : SetT X.prog X.w s.heap a M := (I.hok a _ ha).1
theorem addT_ok {pins : List (Addr × Obj)} {σ : L2.St} {H : Hp} {s : Shared} {E : Value → Shared → Prop} {D : Addr} {M : List Str} {z : Str} {tk : Tok} {Q : Value → Shared → Prop} (I : Inv X pins σ H s) (hD : H D = some (SetTO X.prog X.w D M)) (room : M.length + 1 < scanBound)
    (h : ∀ s', Inv X pins σ (upd H D (SetTO X.prog X.w D (if z ∈ M then M else M ++ [z]))) s' → Q .none s') : wpAny (model X.prog X.w) X.A (call (.builtin "set.add") [.ref D, .str z tk]) Q E s := by
  refine call_add_t (setTO_get I hD) room fun h' tk' sb r => ?_
  have there : ∃ u, h'.get? D = some u := by
    have ⟨o, _, _, _, ho, _⟩ := r
    exact ⟨o, ho⟩
  exact h _ (I.write (e := D) (t' := tk') (by rw [hD]; trivial) (.inl rfl) (fun b u hb hu => (sb.2 b hb).trans hu) there (setTO_new r))
/-- sorted(a set of texts) -/
def rSortT (P : Program) (w : World) : List V → Hp → VK → Prop := fun vs H Q => ∃ (a : Addr) (M : List Str), vs = [V.ref a] ∧ H a = some (SetTO P w a M) ∧ M.length < 64 ∧
  ∀ p, H p = none → Q (.ref p) (upd H p (.lst ((srt M).map V.str)))
theorem cr_sortT (hc : X.calm = true) : CallR X (.builtin "sorted") (rSortT X.prog X.w) := by
  intro pins s σ H vs us Q I r h
  obtain ⟨a, M, rfl, ha, h64, q⟩ := h
  rw [Vals.ref1 r]
  refine sorted_t (setTO_get I ha) (I.ok.hd hc) h64 fun s' p out c ys kk g o hp hg hi py sy => ?_
  have ey := sorted_is py sy
  subst ey
  have hn : H p = none := I.hok.fresh hp
  have hl : ((srt M).map V.str).length ≤ sizeLine := by rw [List.length_map, srt_len, sizeLine_eq]; omega
  have J : Inv X pins σ (upd H p (.lst ((srt M).map V.str))) { s with heap := s'.heap, gens := s'.gens, drawn := s'.drawn, toks := s'.toks } :=
    I.call (ch := []) (Un.laid kk hp hn) (I.hok.laid kk hp ⟨hl, out.toList, c, vals_of_strs hi, hg⟩) (by rw [g]; exact I.bare) (fun _ z => nomatch z)
  have es : s' = { s with heap := s'.heap, gens := s'.gens, drawn := s'.drawn, toks := s'.toks } := by
    cases s'
    cases s
    cases o
    rfl
  rw [es]
  exact ⟨.ref p, _, J, rfl, q p hn⟩
end
end Fm
set_option maxHeartbeats 4000000
namespace Fm
open PySem PySem.Spec PyProof.Rows L2
section
variable {P : Program} {w : World} {A : Around} {R : Result → Shared → Prop} {s : Shared} {env : Env}
abbrev Sc2 (elt t0 i0 t1 i1 : Expr) (scope : Scope) (pos : Pos) : Expr := .SetComp elt [⟨t0, i0, [], 0⟩, ⟨t1, i1, [], 0⟩] scope pos
variable {elt t0 i0 t1 i1 : Expr} {scope : Scope} {pos : Pos} {it acc : Value}
/-- a clause's loop, whatever its turn does behind the draw -/
theorem clause_loop {c : Nat} {p : Pos} {full : Value → Sem Fin} (ht : compTurn (Sc2 elt t0 i0 t1 i1 scope pos) c it acc env = (do
      standAt p
      match ← pyNext it with
      | none => pure (.done .next)
      | some v => full v)) (I : Nat → Shared → Prop)
    (turn : ∀ n s, I n s → wpAny (model P w) A (pyNext it) (fun r s1 => match r with
      | none => R (.ok .next) s1
      | some v => wpAny (model P w) A (full v) (fun fin s2 => fin = .again (.compLoop (Sc2 elt t0 i0 t1 i1 scope pos) c it acc env) ∧ ∃ m, m < n ∧ I m s2) (fun _ _ => False) s1) (fun _ _ => False) s) (n : Nat) (h : I n s) :
    codeAny (model P w) A (.compLoop (Sc2 elt t0 i0 t1 i1 scope pos) c it acc env) R s := by
  refine codeAny_loop rfl I (fun n s hI => ?_) n h
  show wpAny _ A ((compTurn (Sc2 elt t0 i0 t1 i1 scope pos) c it acc env).onRaise (fun x => do noteFrame x env; theTreesLotGoes x)) _ _ s
  refine wpAny_noted ?_
  rw [ht]
  refine wpAny_bind (wpAny_standAt (wpAny_bind (thnF (turn n s hI) fun r s1 h1 => ?_)))
  cases r with
  | none => exact wpAny_pure h1
  | some v =>
    refine thnF h1 fun fin s2 h2 => ?_
    obtain ⟨e, h2⟩ := h2
    subst e
    exact ⟨rfl, h2⟩
theorem turn0 : compTurn (Sc2 elt t0 i0 t1 i1 scope pos) 0 it acc env = (do
    standAt i0.pos
    match ← pyNext it with
    | none => pure (.done .next)
    | some v => do
      letOwnedTupleGo t0 it v
      assign t0 env v
      let x ← eval i1 env
      standAt i1.pos
      let x ← foldedSetIterable i1 env x
      let _ ← runOwn (.compStart (Sc2 elt t0 i0 t1 i1 scope pos) 1 (← holding [x] (pyIter x)) acc env) env
      again (.compLoop (Sc2 elt t0 i0 t1 i1 scope pos) 0 it acc env)) := by
  first | rfl | (unfold compTurn; simp; done) | (unfold compTurn; simp; rfl)
theorem turn1 : compTurn (Sc2 elt t0 i0 t1 i1 scope pos) 1 it acc env = (do
    standAt i1.pos
    match ← pyNext it with
    | none => pure (.done .next)
    | some v => do
      letOwnedTupleGo t1 it v
      assign t1 env v
      let y ← eval elt env
      standAt elt.pos
      let _ ← call (.builtin "set.add") [acc, y]
      again (.compLoop (Sc2 elt t0 i0 t1 i1 scope pos) 1 it acc env)) := by
  first | rfl | (unfold compTurn; simp; done) | (unfold compTurn; simp; rfl)
theorem start1 (go : codeAny (model P w) A (.compLoop (Sc2 elt t0 i0 t1 i1 scope pos) 1 it acc env) R s)
    (at' : wpAny (model P w) A (pyIter it) (fun it' s' => codeAny (model P w) A (.compLoop (Sc2 elt t0 i0 t1 i1 scope pos) 1 it' acc env) R s') (notedBy (model P w) A env fun x s' => R (.error x) s') s) :
    codeAny (model P w) A (.compStart (Sc2 elt t0 i0 t1 i1 scope pos) 1 it acc env) R s := by
  refine codeAny_of_tree ?_
  show wpAny _ _ ((compStart (Sc2 elt t0 i0 t1 i1 scope pos) 1 it acc env).onRaise (fun x => do noteFrame x env; standAt theWindowsPlace)) _ _ s
  refine wpAny_notedAt ?_
  unfold compStart
  show wpAny _ _ (ask >>= _) _ _ s
  refine wpAny_bind (wpAny_askSetting (wpAny_ite ?_))
  split
  · first
      | exact wpAny_pure ⟨rfl, go⟩
      | exact wpAny_bind (wpAny_pure (wpAny_pure ⟨rfl, go⟩))
  · refine wpAny_bind (wpAny_rule ?_)
    show wpAny _ _ (standAt i1.pos >>= _) _ _ s
    refine wpAny_bind (wpAny_standAt (wpAny_bind (wpAny_mono at' (fun it' s' q => ?_) fun _ _ x => x)))
    exact wpAny_pure (And.intro rfl q)
end
end Fm
set_option maxHeartbeats 8000000
namespace Fm
open PySem PySem.Spec PyProof.Rows L2
/-- {elt for tg in iter for tg1 in iter1}: a set of texts at D -/
def tSc2 (P : Program) (w : World) (wi : TI) (g : TG) (wi1 : TI) (g1 : TG) (te : TE) (vs vs1 : List Nat) : TE := fun σ H Q => wi σ H fun J H1 => ∀ D, H1 D = none → ∃ W : Nat → Nat → Hp → Prop, (∃ m, W 0 m (upd H1 D (SetTO P w D []))) ∧ ∀ i m H, W i m H →
  (J.stop i H ∧ Q (.ref D) H) ∨ (J.go i H ∧ ∃ Nx : Hp → Prop, (∀ H', Nx H' → ∃ m', m' < m ∧ W (i + 1) m' H') ∧ ∀ x H', J.yld i H x H' → g x (wipe σ vs) H' fun σ2 H2 => wipe σ2 vs = wipe σ vs ∧
    wi1 σ2 H2 fun J1 H4 => ∃ W1 : Nat → Nat → Hp → Prop, (∃ m, W1 0 m H4) ∧ ∀ j k H, W1 j k H →
      (J1.stop j H ∧ Nx H) ∨ (J1.go j H ∧ ∃ Nx1 : Hp → Prop, (∀ H', Nx1 H' → ∃ k', k' < k ∧ W1 (j + 1) k' H') ∧ ∀ x H', J1.yld j H x H' → g1 x (wipe σ2 vs1) H' fun σ3 H5 => wipe σ3 vs1 = wipe σ2 vs1 ∧
        te σ3 H5 fun y H7 => ∃ M z, y = .str z ∧ H7 D = some (SetTO P w D M) ∧ M.length + 1 < scanBound ∧ Nx1 (upd H7 D (SetTO P w D (if z ∈ M then M else M ++ [z])))))
section
variable {X : Cx}
theorem pe_sc2 {elt tg iter tg1 iter1 : Expr} {scope : Scope} {own : List (Str × Nat)} {vs1 : List Nat} {pos : Pos} {wi wi1 : TI} {g g1 : TG} {te : TE} (hc : X.calm = true) (hN : X.N.Nodup) (hi : PI X tg iter wi) (ok : BlkOk X.N X.env.scope scope own) (hv : ∀ i ∈ vs1, i ∈ own.map (·.2))
    (hg : ∀ (s : Shared) (H : Hp) (C : Addr) (cl : List (Str × Addr)) (fp : List Addr), PG (X.blk s H scope (compEnvC scope cl C X.env) fp) tg g)
    (hi1 : ∀ (s : Shared) (H : Hp) (C : Addr) (cl : List (Str × Addr)) (fp : List Addr), PI (X.blk s H scope (compEnvC scope cl C X.env) fp) tg1 iter1 wi1)
    (hg1 : ∀ (s : Shared) (H : Hp) (C : Addr) (cl : List (Str × Addr)) (fp : List Addr), PG (X.blk s H scope (compEnvC scope cl C X.env) fp) tg1 g1)
    (he : ∀ (s : Shared) (H : Hp) (C : Addr) (cl : List (Str × Addr)) (fp : List Addr), PE (X.blk s H scope (compEnvC scope cl C X.env) fp) elt te)
    (hs : ∀ x, foldedSetIterable iter X.env x = pure x := by intro _; rfl) (hs1 : ∀ env x, foldedSetIterable iter1 env x = pure x := by intro _ _; rfl) :
    PE X (Sc2 elt tg iter tg1 iter1 scope pos) (tSc2 X.prog X.w wi g wi1 g1 te (own.map (·.2)) vs1) := by
  refine ⟨fun pins s σ H Q I h => ?_⟩
  rw [PpSet.eval_SetComp]
  have frees : ∀ y ∈ scope.names, y.2 = .free → ∃ c, X.env.cells.lookup y.1 = some c := fun y hy e => by
    rcases ok.free y hy e with k | k
    · exact I.ok.has _ (.inl k)
    · exact I.ok.has _ (.inr k)
  refine wpAny_comprehension_free rfl hs (closure_ok frees) ok.kind (fun y hy e => by rw [ok.uniq y hy, e]) (thn (hi.run pins s σ H _ I h) fun xv s1 hx => thn hx fun itv s2 h2 => ?_)
  obtain ⟨it, fp, tn, J, H2, e, I2, T, st2, f2, q⟩ := h2
  subst e
  refine PpSet.newSet_ok (newEnv_comp ?_)
  generalize hD : s2.heap.objs.size = D
  obtain ⟨W, ⟨m0, w0⟩, turn⟩ := q D (I2.hok.fresh (Nat.le_of_eq hD))
  -- the set, empty
  generalize hB : s2.heap.push { cls := .type "set", dict := none, data := .set #[] 0 (.fresh 0 0 (!X.w.params.followText "set-order")) } = hp3
  have I3 : Inv X pins σ (upd H2 D (SetTO X.prog X.w D [])) { s2 with heap := hp3 } := by
    rw [← hB]
    refine I2.laid (t' := s2.toks) (fun b o e => Heap.get?_push_of_some _ e) (Nat.le_of_eq hD) ?_
    rw [← hD]
    exact setTO_new (setT_fresh X.prog X.w)
  have up3 : ∀ b o, s2.heap.get? b = some o → hp3.get? b = some o := fun b o e => by rw [← hB]; exact Heap.get?_push_of_some _ e
  have sz3 : hp3.objs.size = s2.heap.objs.size + 1 := by rw [← hB, Heap.size_push]
  generalize hs3 : ({ s2 with heap := hp3 } : Shared) = s3 at I3
  have h3 : s3.heap = hp3 := by rw [← hs3]
  have f3 : ∀ b ∈ fp, FpOk X pins (upd H2 D (SetTO X.prog X.w D [])) b ∧ b < s3.heap.objs.size := fun b hb => by
    obtain ⟨o, e, _⟩ := T.obj _ _ st2 b hb
    have lt := Heap.lt_size e
    refine ⟨⟨?_, (f2 b hb).2⟩, by rw [h3, sz3]; exact Nat.lt_succ_of_lt lt⟩
    rw [upd_ne (by rw [← hD]; exact Nat.ne_of_lt lt)]
    exact (f2 b hb).1
  have st3 : tn 0 s3.heap := T.keep _ _ _ st2 fun b _ o e => by rw [h3]; exact up3 b o e
  have I4 := block_start I3 ok hN f3
  -- the block's own context
  have pg := hg s3 (upd H2 D (SetTO X.prog X.w D [])) s3.heap.objs.size (cellsFrom (s3.heap.objs.size + 1) scope.names (cloFrom X.env.cells scope.names [])) fp
  have pe := he s3 (upd H2 D (SetTO X.prog X.w D [])) s3.heap.objs.size (cellsFrom (s3.heap.objs.size + 1) scope.names (cloFrom X.env.cells scope.names [])) fp
  have pi1 := hi1 s3 (upd H2 D (SetTO X.prog X.w D [])) s3.heap.objs.size (cellsFrom (s3.heap.objs.size + 1) scope.names (cloFrom X.env.cells scope.names [])) fp
  have pg1 := hg1 s3 (upd H2 D (SetTO X.prog X.w D [])) s3.heap.objs.size (cellsFrom (s3.heap.objs.size + 1) scope.names (cloFrom X.env.cells scope.names [])) fp
  subst h3
  show codeAny _ _ (.compStart (Sc2 elt tg iter tg1 iter1 scope pos) 0 (.ref it) (.ref D) (compEnvC scope (cellsFrom (s3.heap.objs.size + 1) scope.names (cloFrom X.env.cells scope.names [])) s3.heap.objs.size X.env)) (compPost (model X.prog X.w) X.A X.xe none (EP X pins σ Q) (.ref D) s3.heap.objs.size) { s3 with heap := pushCells (s3.heap.push { cls := .type "dict", data := .dict #[] }) scope.names }
  have nfp : ∀ b ∈ fp, (upd H2 D (SetTO X.prog X.w D [])) b = none := fun b hb => (f3 b hb).1.1
  generalize hce : compEnvC scope (cellsFrom (s3.heap.objs.size + 1) scope.names (cloFrom X.env.cells scope.names [])) s3.heap.objs.size X.env = ce at I4 pg pe pi1 pg1 ⊢
  have cL : ce.locals = s3.heap.objs.size := by subst hce; rfl
  generalize hH3 : upd H2 D (SetTO X.prog X.w D []) = H3 at I3 I4 pg pe pi1 pg1 w0 nfp f3
  generalize hs4 : ({ s3 with heap := pushCells (s3.heap.push { cls := .type "dict", data := .dict #[] }) scope.names } : Shared) = s4 at I4 ⊢
  have st4 : tn 0 s4.heap := T.keep _ _ _ st3 fun b _ o e => by rw [← hs4]; exact pushCells_keeps _ _ _ _ (Heap.get?_push_of_some _ e)
  have own0 : ∀ {σ' : L2.St} {H' : Hp} {s' : Shared}, Inv (X.blk s3 H3 scope ce fp) [] σ' H' s' → (∀ b ∈ fp, H' b = none) → ∀ b ∈ fp, FpOk (X.blk s3 H3 scope ce fp) [] H' b := fun {σ' H' s'} I' hn b hb =>
    ⟨hn b hb, (I'.ok.exf b hb).1, I'.ok.exfs b hb, .inl hb, fun x c e => (I'.ok.exf b hb).2 x c e, fun p hp => absurd (show p ∈ ([] : List (Addr × Obj)) ++ [] from hp) (by simp)⟩
  have outer : codeAny (model X.prog X.w) X.A (.compLoop (Sc2 elt tg iter tg1 iter1 scope pos) 0 (.ref it) (.ref D) ce) (compPost (model X.prog X.w) X.A X.xe none (EP X pins σ Q) (.ref D) s3.heap.objs.size) s4 := by
    refine clause_loop turn0 (fun n s' => ∃ i H', Inv (X.blk s3 H3 scope ce fp) [] (wipe σ (own.map (·.2))) H' s' ∧ tn i s'.heap ∧ (∀ b ∈ fp, H' b = none) ∧ W i n H') ?_ m0 ⟨0, H3, I4, st4, nfp, w0⟩
    intro n s5 h5
    obtain ⟨i, H5, I5, st5, n5, w5⟩ := h5
    rcases turn i n H5 w5 with ⟨stop, qq⟩ | ⟨go, Nx, hNx, step⟩
    · refine thnF (T.done (X.blk s3 H3 scope ce fp) rfl rfl rfl hc i [] s5 _ H5 (fun _ _ => False) I5 (own0 I5 n5) st5 stop) fun r s6 h6 => ?_
      obtain ⟨hr, I6⟩ := h6
      subst hr
      have I7 : Inv X pins σ H5 s6 := I3.call' (ch := fp) I6.os I6.base I6.hok I6.bare fun b hb => ⟨(f3 b hb).1.2.2.2.1, (f3 b hb).1.2.1, (f3 b hb).1.2.2.2.2.1, (f3 b hb).1.2.2.2.2.2⟩
      have nC : H5 s3.heap.objs.size = none := by
        have z : H5 ce.locals = none := I6.free
        rwa [cL] at z
      obtain ⟨m, hn, _⟩ := I6.loc
      have hn : s6.heap.Ns ce.locals m := hn
      rw [cL] at hn
      refine ⟨m, hn, fun h'' sb => ?_⟩
      obtain ⟨f0, f1, _, f4, f5, f6⟩ := I3.fpOk (Nat.le_refl _) nC
      exact ⟨.ref D, H5, I7.turned (t' := s6.toks) (fun b o hb e => (sb.2 b hb).trans e) f0 f1 f4 f5 f6, rfl, qq⟩
    · refine thnF (T.item (X.blk s3 H3 scope ce fp) rfl rfl rfl hc i [] s5 _ H5 (fun _ _ => False) I5 (own0 I5 n5) st5 go) fun r s6 h6 => ?_
      obtain ⟨u, hr, h6⟩ := h6
      subst hr
      refine wpAny_bind (thnF h6 fun _ s7 h7 => ?_)
      obtain ⟨x, H7, I7, r7, y7, st7, n7⟩ := h7
      have I7' := I7.pinned (own0 I7 n7) (T.obj _ _ st7)
      refine wpAny_bind (thnF (pg.run _ s7 _ H7 x u _ I7' r7 (step x H7 y7)) fun _ s8 h8 => ?_)
      obtain ⟨σ8, H8, I8, hw8, q8⟩ := h8
      -- the first clause's turn ends
      have fin : ∀ {σ9 : L2.St} {s' : Shared} {H' : Hp}, Inv (X.blk s3 H3 scope ce fp) ([] ++ pinsAt fp s7.heap) σ9 H' s' → (wipe σ (own.map (·.2))).length = σ9.length → (∀ (j : Nat) v, (wipe σ (own.map (·.2)))[j]? = some (some v) → σ9[j]? = some (some v)) → Nx H' →
          ∃ m, m < n ∧ ∃ i H', Inv (X.blk s3 H3 scope ce fp) [] (wipe σ (own.map (·.2))) H' s' ∧ tn i s'.heap ∧ (∀ b ∈ fp, H' b = none) ∧ W i m H' := fun {σ9 s' H'} I' hl hk nx => by
        obtain ⟨m', hm, w'⟩ := hNx H' nx
        have pin' : ∀ b ∈ fp, ∀ o, s7.heap.get? b = some o → s'.heap.get? b = some o ∧ H' b = none := fun b hb o e =>
          ⟨(I'.pin (b, o) (List.mem_append_right _ (List.mem_append_right _ (mem_pinsAt hb e)))).1, (I'.pin (b, o) (List.mem_append_right _ (List.mem_append_right _ (mem_pinsAt hb e)))).2.1⟩
        refine ⟨m', hm, i + 1, H', (I'.unpinned (pins := [])).weak hl hk, T.keep _ _ _ st7 fun b hb o e => (pin' b hb o e).1, fun b hb => ?_, w'⟩
        obtain ⟨o, e, _⟩ := T.obj _ _ st7 b hb
        exact (pin' b hb o e).2
      have hl8 : (wipe σ (own.map (·.2))).length = σ8.length := by rw [← hw8, wipe_length]
      have hk9 : ∀ (j : Nat) v, (wipe σ (own.map (·.2)))[j]? = some (some v) → (wipe σ8 vs1)[j]? = some (some v) := fun j v e => by
        rw [← hw8] at e
        obtain ⟨e1, e2⟩ := wipe_some e
        rwa [wipe_out fun z => e2 (hv j z)]
      refine wpAny_bind (thnF (pi1.run _ s8 σ8 H8 _ I8 q8) fun xv s10 hx => ?_)
      refine wpAny_bind (wpAny_standAt (wpAny_bind (wpAny_of_eq (hs1 ce xv) (wpAny_bind (wpAny_holding (thnF hx fun itv s11 h11 => ?_))))))
      obtain ⟨it1, fp1, tn1, J1, H11, e1, I11, T1, st11, f11, W1, ⟨m1, w1⟩, turnB⟩ := h11
      subst e1
      have own1 : ∀ {H' : Hp}, (∀ b ∈ fp1, H' b = none) → ∀ b ∈ fp1, FpOk (X.blk s3 H3 scope ce fp) ([] ++ pinsAt fp s7.heap) H' b := fun hn b hb => ⟨hn b hb, (f11 b hb).2⟩
      have inner : codeAny (model X.prog X.w) X.A (.compLoop (Sc2 elt tg iter tg1 iter1 scope pos) 1 (.ref it1) (.ref D) ce)
          (fun r s' => match r with
            | .ok _ => ∃ m, m < n ∧ ∃ i H', Inv (X.blk s3 H3 scope ce fp) [] (wipe σ (own.map (·.2))) H' s' ∧ tn i s'.heap ∧ (∀ b ∈ fp, H' b = none) ∧ W i m H'
            | .error _ => False) s11 := by
        refine clause_loop turn1 (fun k s' => ∃ j H', Inv (X.blk s3 H3 scope ce fp) ([] ++ pinsAt fp s7.heap) (wipe σ8 vs1) H' s' ∧ tn1 j s'.heap ∧ (∀ b ∈ fp1, H' b = none) ∧ W1 j k H') ?_ m1
          ⟨0, H11, I11.weak (wipe_length _ _) (fun j v e => (wipe_some e).1), st11, fun b hb => (f11 b hb).1, w1⟩
        intro k s12 h12
        obtain ⟨j, H12, I12, st12, n12, w12⟩ := h12
        rcases turnB j k H12 w12 with ⟨stop1, nx1⟩ | ⟨go1, Nx1, hNx1, step1⟩
        · refine thnF (T1.done (X.blk s3 H3 scope ce fp) rfl rfl rfl hc j _ s12 (wipe σ8 vs1) H12 (fun _ _ => False) I12 (own1 n12) st12 stop1) fun r s13 h13 => ?_
          obtain ⟨hr, I13⟩ := h13
          subst hr
          exact fin I13 (hl8.trans (wipe_length σ8 vs1).symm) hk9 nx1
        · refine thnF (T1.item (X.blk s3 H3 scope ce fp) rfl rfl rfl hc j _ s12 (wipe σ8 vs1) H12 (fun _ _ => False) I12 (own1 n12) st12 go1) fun r s13 h13 => ?_
          obtain ⟨u1, hr, h13⟩ := h13
          subst hr
          refine wpAny_bind (thnF h13 fun _ s14 h14 => ?_)
          obtain ⟨x1, H14, I14, r14, y14, st14, n14⟩ := h14
          have I14' := I14.pinned (own1 n14) (T1.obj _ _ st14)
          refine wpAny_bind (thnF (pg1.run _ s14 (wipe σ8 vs1) H14 x1 u1 _ I14' r14 (step1 x1 H14 y14)) fun _ s15 h15 => ?_)
          obtain ⟨σ15, H15, I15, hw15, q15⟩ := h15
          refine wpAny_bind (thnF (pe.run _ s15 σ15 H15 _ I15 q15) fun z s17 h17 => ?_)
          obtain ⟨yv, H17, I17, r17, M, zz, ey, hD17, hz17, nx⟩ := h17
          subst ey
          obtain ⟨tk, rfl⟩ := r17
          refine wpAny_bind (wpAny_standAt (wpAny_bind (addT_ok (X := X.blk s3 H3 scope ce fp) I17 hD17 hz17 fun s18 I18 => ?_)))
          refine wpAny_pure ⟨rfl, ?_⟩
          obtain ⟨m', hm, w'⟩ := hNx1 _ nx
          have pin' : ∀ b ∈ fp1, ∀ o, s14.heap.get? b = some o → s18.heap.get? b = some o ∧ (upd H17 D (SetTO X.prog X.w D (if zz ∈ M then M else M ++ [zz]))) b = none := fun b hb o e =>
            ⟨(I18.pin (b, o) (List.mem_append_right _ (List.mem_append_right _ (mem_pinsAt hb e)))).1, (I18.pin (b, o) (List.mem_append_right _ (List.mem_append_right _ (mem_pinsAt hb e)))).2.1⟩
          refine ⟨m', hm, j + 1, _, I18.unpinned.weak (by rw [← hw15, wipe_length]) (fun j v e => by rw [← hw15] at e; exact (wipe_some e).1), T1.keep _ _ _ st14 fun b hb o e => (pin' b hb o e).1, fun b hb => ?_, w'⟩
          obtain ⟨o, e, _⟩ := T1.obj _ _ st14 b hb
          exact (pin' b hb o e).2
      refine wpAny_bind (wpAny_runOwn ?_)
      rw [Around.mark_none]
      refine codeAny_mono (start1 inner (T1.self X.A 0 _ _ _ st11 inner)) fun r s' hr => ?_
      cases r with
      | ok f =>
        first
          | exact wpAny_pure ⟨rfl, hr⟩
          | exact wpAny_bind (wpAny_pure (wpAny_pure ⟨rfl, hr⟩))
      | error e => exact hr.elim
  exact PpSet.codeAny_compStart_set outer (T.self X.A 0 _ _ _ st4 outer)
end
end Fm
set_option maxHeartbeats 8000000
namespace Fm
open PySem PySem.Spec PyProof.Rows L2
/-! ### enumerate(a tuple) -/
theorem made_enum_any {v : Value} {o : Obj} {G : Heap → Prop} (B : Begins v o G) :
    Meets (Builtin.«enumerate.__new__» ⟨[.type "enumerate", v], []⟩) (fun _ R s => G s.heap ∧
      R (.ok (.ret (.ref (s.heap.push o).objs.size))) { s with heap := (s.heap.push o).push { cls := .type "enumerate", data := .fields #[.none, .bool false, .ref s.heap.objs.size, rawInt 0, .none, .none] } }) :=
  .of_wp fun prog w A R s h => by
    obtain ⟨hp, g, d, tk, os⟩ := s
    obtain ⟨h1, h⟩ := h
    have hsub := sub_enumerate
    have itr : ∀ {A' : Around} {E : Value → Shared → Prop} {Q : Value → Shared → Prop}, Q (.ref hp.objs.size) ⟨hp.push o, g, d, tk, os⟩ → wpAny (model prog w) A' (pyIter v) Q E ⟨hp, g, d, tk, os⟩ :=
      fun q => B.iter prog w _ _ ⟨hp, g, d, tk, os⟩ _ h1 q
    wp_walk using itr
    refine wpAny_stack_any fun st => wpAny_pure ?_
    split
    · rename_i c _ _ _ _ _
      cases (c == Value.type "enumerate") <;> (wp_walk using itr; exact ⟨_, rfl, h⟩)
    · wp_walk using itr
      exact ⟨_, rfl, h⟩
theorem call_enum_any {prog : Program} {w : World} {A : Around} {E : Value → Shared → Prop} {s : Shared} {v : Value} {o : Obj} {G : Heap → Prop} {Q : Value → Shared → Prop} (B : Begins v o G) (h1 : G s.heap)
    (h : ∀ h', IsEnum h' (s.heap.objs.size + 1) s.heap.objs.size 0 .none → h'.get? s.heap.objs.size = some o → (∀ b u, s.heap.get? b = some u → h'.get? b = some u) → Q (.ref (s.heap.objs.size + 1)) { s with heap := h' }) :
    wpAny (model prog w) A (call (.type "enumerate") [v]) Q E s := by
  refine callType_new F.called_enumerate (by decide) (F.typeCall_enumerate_1 _) (F.newCall_enumerate_1 _) (fun obj => F.args_object_init_2 obj _) F.entry_enumerate_new (made_enum_any B) ⟨h1, ?_⟩
  have hz : (s.heap.push o).objs.size = s.heap.objs.size + 1 := Heap.size_push ..
  show _ ∧ _
  rw [hz]
  have he : IsEnum ((s.heap.push o).push { cls := .type "enumerate", data := .fields #[.none, .bool false, .ref s.heap.objs.size, rawInt 0, .none, .none] }) (s.heap.objs.size + 1) s.heap.objs.size 0 .none := by
    have q := Heap.get?_push_size (s.heap.push o) (o := { cls := .type "enumerate", data := .fields #[.none, .bool false, .ref s.heap.objs.size, rawInt 0, .none, .none] }) rfl
    rwa [hz] at q
  exact ⟨⟨_, he, rfl⟩, h _ he (Heap.get?_push_of_some _ (Heap.get?_push_size _ B.free)) fun b u x => Heap.get?_push_of_some _ (Heap.get?_push_of_some _ x)⟩
/-- the items of the tuple at a, each in a new pair with its place -/
def ItE (K : PySem.W.Frag) (a : Addr) : It :=
  ⟨fun i H => ∃ (xs : List V) (x : V), SqT K H a xs ∧ xs[i]? = some x, fun i H v H' => ∃ T x, v = .ref T ∧ H T = none ∧ H' = upd H T (.tup [.int (i : Nat), x]) ∧ ∀ xs, SqT K H a xs → xs[i]? = some x, fun i H => ∃ xs : List V, SqT K H a xs ∧ xs.length ≤ i⟩
theorem turn_enumT {P : Program} {w : World} {K : PySem.W.Frag} {elts : List Expr} {kk : Nat} {tpos : Pos} (a e it : Addr) :
    Turn P w K (.Tuple elts kk tpos) (ItE K a) [e, it] e (fun i h => (∃ old, IsEnum h e it ((i : Nat) : Int) old) ∧ h.IsTupleIter it a i ∧ e ≠ it ∧ a ≠ it ∧ e ≠ a) where
  mem := by simp
  obj := fun i h st b hb => by
    obtain ⟨⟨old, he⟩, ⟨o, ho, hc, hd⟩, _⟩ := st
    have e' : b = e ∨ b = it := by simpa using hb
    rcases e' with z | z
    · rw [z]; exact ⟨_, he, fun v q => nomatch q⟩
    · rw [z]; exact ⟨o, ho, fun v q => by rw [hd] at q; cases q⟩
  keep := fun i h h' st k => let ⟨⟨old, he⟩, hi, ne⟩ := st; ⟨⟨old, k e (by simp) _ he⟩, hi.at fun o q => k it (by simp) o q, ne⟩
  item := by
    intro X hP hw hK hc i pins s σ H E I hf st hg
    subst hP hw hK
    obtain ⟨⟨old, he⟩, hit, ne1, ne2, ne3⟩ := st
    obtain ⟨xs, x, hq, hx⟩ := hg
    obtain ⟨its, rv, p, hz⟩ := I.tuple hq
    obtain ⟨u, hu, ru⟩ := rv.get hx
    have hel : e < s.heap.objs.size := Heap.lt_size he
    have hil : it < s.heap.objs.size := by obtain ⟨_, q, _⟩ := hit; exact Heap.lt_size q
    have hlt : i < its.toArray.size := by
      have := (List.getElem?_eq_some_iff.mp hu).1
      simpa using this
    have pT : s.heap.IsTuple a its.toArray := p
    refine wpAny_pyNext_enum_itemD (Draws.tuple (by simp [I.ok.hd hc]) it a ne2 its.toArray) he ⟨hit, pT⟩ hlt ne1 (by simp [ne1, ne3]) fun y h' tk hy ho hst hT hsz hk => ?_
    have ey : y = u := by
      have h1 : its.toArray[i]? = some u := by simpa using hu
      rw [h1] at hy
      exact (Option.some.inj hy).symm
    subst ey
    refine ⟨_, rfl, wpAny_letOwnedTupleGo_enum (s := { s with heap := h', toks := tk + 1 }) ho fun h2 he2 sb => ?_⟩
    have hT2 : h2.get? s.heap.objs.size = some { cls := .type "tuple", data := .seq #[.int i tk, y] } := (sb.2 _ (Nat.ne_of_gt hel)).trans hT
    have new : ObjOk X.prog X.w (upd H s.heap.objs.size (.tup [.int (i : Nat), x])) h2 s.heap.objs.size (.tup [.int (i : Nat), x]) :=
      ⟨by show 2 ≤ sizeLine; decide, [.int i tk, y], .cons ⟨_, rfl⟩ (.cons ru .nil), ⟨_, hT2, rfl, _, rfl⟩⟩
    have I1 : Inv X pins σ (upd H s.heap.objs.size (.tup [.int (i : Nat), x])) { s with heap := h2, toks := tk + 1 } :=
      I.turnedNew (ch := [e, it]) (fun b ob hb q => (sb.2 b (fun z => hb (by simp [z]))).trans (hk b ob (fun z => hb (by simp [z])) (fun z => hb (by simp [z])) q)) hf (Nat.le_refl _) new
    refine ⟨.ref s.heap.objs.size, _, I1, rfl, ⟨_, x, rfl, I.hok.fresh (Nat.le_refl _), rfl, fun ys hy => by rw [I.tuple_inj hy hq]; exact hx⟩, ⟨⟨y, ?_⟩, hst.1.at fun o q => (sb.2 it (Ne.symm ne1)).trans q, ne1, ne2, ne3⟩, fun b hb => ?_⟩
    · have e1 : ((i + 1 : Nat) : Int) = (i : Int) + 1 := by omega
      rw [e1]; exact he2
    · have hb' : b < s.heap.objs.size := by
        have e' : b = e ∨ b = it := by simpa using hb
        rcases e' with z | z
        · rw [z]; exact hel
        · rw [z]; exact hil
      rw [upd_ne (Nat.ne_of_lt hb')]
      exact (hf b hb).1
  done := by
    intro X hP hw hK hc i pins s σ H E I hf st hg
    subst hP hw hK
    obtain ⟨⟨old, he⟩, hit, ne1, ne2, ne3⟩ := st
    obtain ⟨xs, hq, hx⟩ := hg
    obtain ⟨its, rv, p, hz⟩ := I.tuple hq
    obtain ⟨f0, f1, f2, f3, f4, f5⟩ := hf it (by simp)
    have hl := rv.length
    have hT : s.TypeIs (.ref e) "enumerate" := ⟨_, he, rfl⟩
    unfold pyNext
    refine wpAny_bind (wpAny_attempt (wpAny_callSpecial?_slot (name := Str.ofString "__next__") hT F.slot_enumerate_next (wpAny_call_entry F.slot_enumerate_next hT F.entry_enumerate_next ?_ (F.args_enumerate_next_1 _))))
    show wpAny _ _ (field (.ref e) 2 >>= _) _ _ _
    refine wpAny_bind (wpAny_field he rfl (x := .ref it) rfl ?_)
    refine wpAny_bind (wpAny_nextOf_tuple_end (items := its.toArray) (by simp [I.ok.hd hc]) hit p (by simp; omega) fun h' x eb hx' => ?_)
    obtain ⟨o, ho, hc'⟩ := hx'
    refine wpAny_bind (wpAny_isInstance (T := "StopIteration") (b := true) ⟨o, ho, hc'⟩ isSubtype_stop ?_)
    exact wpAny_pure ⟨rfl, I.turned (t' := s.toks) (fun b o hb q => eb b o hb q) f0 f1 f3 f4 f5⟩
  self := fun A i s Q E st h => let ⟨⟨_, he⟩, _⟩ := st; wpAny_pyIter_enum he h
def iEnT (K : PySem.W.Frag) (ta : TA) : TI := fun σ H R => ta σ H fun vs H1 => ∃ a xs, vs = [.ref a] ∧ SqT K H1 a xs ∧ R (ItE K a) H1
theorem pi_enT {X : Cx} {e : Expr} {ta : TA} {p pos tpos : Pos} {elts : List Expr} {kk : Nat} (hg : Gl X "enumerate") (hm : X.mg "enumerate" = none) (ha : PA X [e] ta) (hs : starEach [e] X.env = [(false, eval e X.env)] := by rfl) :
    PI X (.Tuple elts kk tpos) (.Call (.Name "enumerate" p) [e] [] pos) (iEnT X.K ta) := by
  refine ⟨fun pins s σ H R I h => ?_⟩
  refine Call_ (ld_blt I hg hm boot_enumerate (PyProof.Rows.callWith_type1 (thn (ha.run pos pins s σ H _ I h) fun us s1 ⟨vs, H1, I1, r1, q1⟩ => ?_) hs rfl))
  obtain ⟨a, xs, ex, hq, q⟩ := q1
  subst ex
  rw [Vals.ref1 r1]
  obtain ⟨its, rv, p', hz⟩ := I1.tuple hq
  have pT : s1.heap.IsTuple a its.toArray := p'
  have hal : a < s1.heap.objs.size := pT.choose_spec.1 |> fun e => Heap.lt_size e
  refine call_enum_any (begins_tuple a its.toArray) pT fun h' he hit hk => wpAny_pyIter_enum he ?_
  have I2 : Inv X pins σ H1 { s1 with heap := h' } := I1.kept (t' := s1.toks) hk
  refine ⟨s1.heap.objs.size + 1, [s1.heap.objs.size + 1, s1.heap.objs.size], _, _, H1, rfl, I2, turn_enumT a (s1.heap.objs.size + 1) s1.heap.objs.size, ⟨⟨.none, he⟩, ⟨_, hit, rfl, rfl⟩, Nat.succ_ne_self _, Nat.ne_of_lt hal, Nat.ne_of_gt (Nat.lt_succ_of_lt hal)⟩, fun b hb => ?_, q⟩
  have e' : b = s1.heap.objs.size + 1 ∨ b = s1.heap.objs.size := by simpa using hb
  have hle : s1.heap.objs.size ≤ b := by
    rcases e' with z | z
    · rw [z]; exact Nat.le_add_right _ _
    · rw [z]; exact Nat.le_refl _
  exact I1.fpOk hle (I1.hok.fresh hle)
theorem walk_enT {K : PySem.W.Frag} {a : Addr} {xs : List V} : Walk (ItE K a) xs.length (fun H => H a = some (.tup xs)) (fun i H v H' => ∃ T x, v = .ref T ∧ H T = none ∧ H' = upd H T (.tup [.int (i : Nat), x]) ∧ xs[i]? = some x) where
  goes := fun i H hi q => ⟨xs, xs[i], .inl (.inl q), by simp [hi]⟩
  yields := fun i H v H' hi q y => by
    obtain ⟨T, x, e1, e2, e3, e4⟩ := y
    exact ⟨T, x, e1, e2, e3, e4 xs (.inl (.inl q))⟩
  stops := fun H q => ⟨xs, .inl (.inl q), Nat.le_refl _⟩
end Fm
set_option maxHeartbeats 8000000
namespace Fm
open PySem PySem.Spec PyProof.Rows L2
/-! ### tuples of texts: <= -/
theorem rc_le_str {A : Around} {s : Shared} (a b : Str) (t u : Tok) : Ob.RcOp .LtE A s (.str a t) (.str b u) (!(decide (LtS b a))) := fun prog w E Q h =>
  richCompare_gives (op := .LtE) (T := "str") rfl rfl F.slot_str_le F.entry_str_le (F.args_str_le_2 _ _) (gives_str_le a b t u) (fun e => nomatch e) h
def leTS (xs ys : List Str) : Bool := Ob.lexAt (fun j => decide (xs.getD j Str.empty = ys.getD j Str.empty)) (fun j => !(decide (LtS (ys.getD j Str.empty) (xs.getD j Str.empty)))) (decide (xs.length ≤ ys.length)) 0 (min xs.length ys.length)
def rLeTS (K : PySem.W.Frag) : R2 := fun x y H Q => ∃ (a b : Addr) (xs ys : List Str), x = .ref a ∧ y = .ref b ∧ SqT K H a (xs.map V.str) ∧ SqT K H b (ys.map V.str) ∧ Q (.bl (leTS xs ys)) H
theorem str_at' {its : List Value} {xs : List Str} (r : StrsAre its xs) (j : Nat) (h : j < its.toArray.size) : ∃ t, its.toArray[j] = .str (xs.getD j Str.empty) t := by
  obtain ⟨t, e⟩ := SS.strs_at r j its.toArray[j] (by simp at h; simp [h])
  exact ⟨t, e⟩
theorem op_leTS {X : Cx} (hu : X.A.units < cLine) : OpR X (compareOp .LtE) (rLeTS X.K) := by
  intro pins s σ H x y v u Q I rx ry h
  obtain ⟨a, b, xs, ys, rfl, rfl, ha, hb, q⟩ := h
  cases rx
  cases ry
  obtain ⟨its, r1, p1, _⟩ := I.tuple ha
  obtain ⟨its2, r2, p2, _⟩ := I.tuple hb
  have s1 : StrsAre its xs := strsAre_of r1
  have s2 : StrsAre its2 ys := strsAre_of r2
  have e1 : its.toArray.size = xs.length := by rw [List.size_toArray]; exact StrsAre.len_eq s1
  have e2 : its2.toArray.size = ys.length := by rw [List.size_toArray]; exact StrsAre.len_eq s2
  have R := Ob.RcOp.tuples_le (A := X.A) (s := s) (e := fun j => decide (xs.getD j Str.empty = ys.getD j Str.empty)) (r := fun j => !(decide (LtS (ys.getD j Str.empty) (xs.getD j Str.empty)))) p1 p2 hu (fun j h1 h2 => by
    obtain ⟨t, et⟩ := str_at' s1 j h1
    obtain ⟨t', et'⟩ := str_at' s2 j h2
    rw [et, et']
    have z : (xs.getD j Str.empty == ys.getD j Str.empty) = decide (xs.getD j Str.empty = ys.getD j Str.empty) := by
      by_cases q : xs.getD j Str.empty = ys.getD j Str.empty
      · rw [decide_eq_true q]; exact beq_iff_eq.mpr q
      · rw [decide_eq_false q]; exact beq_eq_false_iff_ne.mpr q
    rw [← z]
    exact SeqAt.EqAt.str_str _ _ _ _) (fun j h1 h2 _ => by
    obtain ⟨t, et⟩ := str_at' s1 j h1
    obtain ⟨t', et'⟩ := str_at' s2 j h2
    rw [et, et']
    exact rc_le_str _ _ _ _)
  rw [e1, e2] at R
  exact R X.prog X.w X.xe _ ⟨.bl _, H, I, rfl, q⟩
theorem leTS_false {a b a' b' : Str} (h : LtS a' a ∨ (a' = a ∧ LtS b' b)) : leTS [a, b] [a', b'] = false := by
  unfold leTS
  show Ob.lexAt _ _ _ 0 2 = false
  rw [Ob.lexAt_succ]
  rcases h with h | ⟨h, h2⟩
  · have ne : ¬ a = a' := fun e => LtS.irrefl a (by rw [e] at h ⊢; exact h)
    rw [if_neg (by simpa using ne)]
    show (!(decide (LtS a' a))) = false
    rw [decide_eq_true h]
    rfl
  · rw [if_pos (by simpa using h.symm), Ob.lexAt_succ]
    have ne : ¬ b = b' := fun e => LtS.irrefl b (by rw [e] at h2 ⊢; exact h2)
    rw [if_neg (by simpa using ne)]
    show (!(decide (LtS b' b))) = false
    rw [decide_eq_true h2]
    rfl
/-! ### x in a tuple of data -/
def rInTD (K : PySem.W.Frag) : R2 := fun x y H Q => ∃ d ds, Dp K H x d ∧ Dp K H y (.tuple ds) ∧ SeqAt.shaped d = true ∧ SeqAt.shaped (.tuple ds) = true ∧ Q (.bl (ds.any fun z => PyData.eqv z d)) H
theorem op_inTD {X : Cx} (hu : X.A.units + 65 < cLine) : OpR X (compareOp .In) (rInTD X.K) := by
  intro pins s σ H x y v u Q I rx ry h
  obtain ⟨d, ds, hd, he, sd, se, q⟩ := h
  obtain ⟨as, r1⟩ := Dp.reads I d x v hd rx
  obtain ⟨bs, r2⟩ := Dp.reads I (.tuple ds) y u he ry
  exact SeqAt.in_tuple_reads r2 r1 (SeqAt.canLay_of_shaped se) (SeqAt.canLay_of_shaped sd) (room_in_shaped sd hu) ⟨.bl _, H, I, rfl, q⟩
/-! ### set(a list of texts) -/
def ins (M : List Str) (z : Str) : List Str := if z ∈ M then M else M ++ [z]
def dist (xs : List Str) : List Str := xs.foldl ins []
theorem ins_len (M : List Str) (z : Str) : (ins M z).length ≤ M.length + 1 := by
  unfold ins
  split
  · exact Nat.le_succ _
  · rw [List.length_append]; exact Nat.le_refl _
theorem dist_take_len (xs : List Str) (M : List Str) : (xs.foldl ins M).length ≤ M.length + xs.length := by
  induction xs generalizing M with
  | nil => exact Nat.le_refl _
  | cons x xs ih =>
    rw [List.foldl_cons, List.length_cons]
    have h1 := ih (ins M x)
    have h2 := ins_len M x
    omega
theorem dist_succ {xs : List Str} {i : Nat} {z : Str} (h : xs[i]? = some z) : dist (xs.take (i + 1)) = ins (dist (xs.take i)) z := by
  unfold dist
  rw [List.take_add_one, h, List.foldl_append]
  rfl
section
variable {P : Program} {w : World} {A : Around} {E : Value → Shared → Prop} {s : Shared}
theorem update_texts {I : Addr} {fp wr : List Addr} {G : Array GenState → Array GenState → Prop} {n : Nat} {Pv : Nat → Value → Prop} {St : Nat → Shared → Prop} {R : Result → Shared → Prop}
    (W : WalksS P w A.in1 I fp wr G n Pv St) (D : Addr) (apart : D ∉ fp) (xs : List Str) (hn : n = xs.length) (hb : xs.length + 1 < scanBound) (hval : ∀ i v, Pv i v → ∃ z t, xs[i]? = some z ∧ v = .str z t) :
    ∀ (k i : Nat) (s : Shared), n - i = k → i ≤ n → St i s → SetT P w s.heap D (dist (xs.take i)) →
      (∀ s', Moved (D :: wr) G s s' → SetT P w s'.heap D (dist xs) → R (.ok (.ret .none)) s') →
      codeAny (model P w) A (.builtin "set.update.loop" ⟨[.ref D, .ref I], []⟩) R s := by
  have notW : D ∉ wr := fun h => apart (W.sub _ h)
  have more : ∀ b ∈ wr, b ∈ D :: wr := fun b hb => List.mem_cons_of_mem _ hb
  intro k
  induction k with
  | zero =>
    intro i s hk hi hst hS hR
    have e : i = n := by omega
    subst e
    refine codeAny_builtin F.entry_set_update_loop ?_
    rw [Around.under_plainId F.plain_set_update_loop _]
    show wpAny _ A.in1 (pyNext (.ref I) >>= _) _ _ s
    refine wpAny_bind (W.done s _ _ hst fun s' hm => ?_)
    show wpAny _ A.in1 (ret Value.none) _ _ s'
    rw [List.take_of_length_le (by omega)] at hS
    exact wpAny_pure (hR s' (hm.mono more) (hS.at fun o e => hm.heap D o notW e))
  | succ k ih =>
    intro i s hk hi hst hS hR
    have lt : i < n := by omega
    refine codeAny_builtin F.entry_set_update_loop ?_
    rw [Around.under_plainId F.plain_set_update_loop _]
    show wpAny _ A.in1 (pyNext (.ref I) >>= _) _ _ s
    refine wpAny_bind (W.item i s _ _ lt hst fun v s' hP hst' hm => ?_)
    obtain ⟨z, t, hz, rfl⟩ := hval i v hP
    have hS' : SetT P w s'.heap D (dist (xs.take i)) := hS.at fun o e => hm.heap D o notW e
    show wpAny _ A.in1 (holding [Value.str z t] (setAdd D (.str z t)) >>= _) _ _ s'
    refine wpAny_bind (wpAny_holding ?_)
    unfold setAdd
    have small : (dist (xs.take i)).length + 1 < scanBound := by
      have h1 := dist_take_len (xs.take i) []
      have h2 : (xs.take i).length ≤ xs.length := by rw [List.length_take]; omega
      show (List.foldl ins [] (xs.take i)).length + 1 < scanBound
      have h3 : ([] : List Str).length = 0 := rfl
      omega
    refine wpAny_holding (wpAny_bind ((KS P w).pyHash (strKind_is P w z t) (addHashed_t (s := { s' with toks := s'.toks + 1 }) hS' small fun h' b sb r => ?_)))
    refine wpAny_pure ⟨plainId_quiet F.plain_set_update_loop _, ih (i + 1) _ (by omega) lt (W.frame _ s' _ _ hst' (Nat.le_succ _) fun b hb o e => ?_) ?_ fun s'' hm'' hS'' => ?_⟩
    · exact (sb.2 b fun h => apart (h ▸ hb)).trans e
    · rw [dist_succ hz]; exact r
    · exact hR s'' (Moved.trans W.gtrans ((hm.mono more).then_heap (Nat.le_succ _) fun b o hb e => (sb.2 b fun h => hb (by rw [h]; exact List.mem_cons_self)).trans e) hm'') hS''
set_option maxHeartbeats 16000000 in
theorem call_setT {l : Addr} {items : Array Value} {xs : List Str} {Q : Value → Shared → Prop} (hh : A.handled = none) (hl : s.heap.IsList l items) (hi : StrsAre items.toList xs) (hb : xs.length + 1 < scanBound)
    (h : ∀ h' tk, SetT P w h' s.heap.objs.size (dist xs) → (∀ b o, s.heap.get? b = some o → h'.get? b = some o) → Q (.ref s.heap.objs.size) { s with heap := h', toks := tk }) :
    wpAny (model P w) A (call (.type "set") [.ref l]) Q E s := by
  have isz : items.size = xs.length := by rw [← StrsAre.len_eq hi, Array.length_toList]
  obtain ⟨c, tl, hmro⟩ := F.called_set.mro
  have hmade := F.called_set.made
  have hsub := F.called_set.sub
  refine wpAny_call (codeAny_of_tree ?_)
  show wpAny _ _ (callAny (.type "set") _) _ _ _
  refine wpAny_pure ⟨Code.quiet_builtin _ (by decide +kernel), codeAny_builtin F.entry_type_call ?_⟩
  rw [Around.under_plain (weight_type_call_type "set" [.ref l] []) rfl]
  have h1 := F.called_set.notType
  have h2 := F.called_set.canCreate
  have hct := F.typeCall_set_1 (.ref l)
  repeat (any_goals (first | assumption | wp_step))

  refine codeAny_mono (code_set_led1 (P := P) (w := w) (.ref l) (E := E) (Q₁ := fun obj s₁ => obj = .ref s.heap.objs.size ∧ s₁ = { s with heap := s.heap.push { cls := .type "set", dict := none, data := .set #[] 0 (.fresh 0 0 (!w.params.followText "set-order")) } }) ⟨rfl, rfl⟩) fun r s₁ hr => ?_
  cases r with
  | error e => exact hr
  | ok fl =>
    cases fl with
    | ret obj =>
      obtain ⟨rfl, rfl⟩ := hr
      generalize hbs : s.heap.push { cls := .type "set", dict := none, data := .set #[] 0 (.fresh 0 0 (!w.params.followText "set-order")) } = bs
      have new : SetT P w bs s.heap.objs.size [] := by rw [← hbs]; exact setT_fresh P w
      have hS : bs.get? s.heap.objs.size = some { cls := .type "set", dict := none, data := .set #[] 0 (.fresh 0 0 (!w.params.followText "set-order")) } := by rw [← hbs]; exact Heap.get?_push_size _ rfl
      have old : ∀ b o, s.heap.get? b = some o → bs.get? b = some o := fun b o e => by rw [← hbs]; exact Heap.get?_push_of_some _ e
      have bsz : bs.objs.size = s.heap.objs.size + 1 := by rw [← hbs]; exact Heap.size_push ..
      clear hbs
      have hT : Shared.TypeIs { s with heap := bs } (.ref s.heap.objs.size) "set" := (SetT.setOf (s := { s with heap := bs }) new).typeIs
      have hli := F.called_set.init.lookup
      have hbi := F.called_set.init.bind (.ref s.heap.objs.size)
      repeat (any_goals (first | assumption | wp_step))

      refine codeAny_mono (codeAny_call_builtin (R := wants (fun r s₂ => r = .none ∧ ∃ h' tk, s₂ = { s with heap := h', toks := tk } ∧ SetT P w h' s.heap.objs.size (dist xs) ∧ (∀ b o, s.heap.get? b = some o → h'.get? b = some o)) E) F.called_set.init.plain F.entry_set_init (check_set_init_1 hT ?_)) fun r₂ s₂ hr₂ => ?_
      · obtain ⟨ol, hol, hcl, nl, hdl⟩ := hl
        obtain ⟨ocls, odict, odata, oslots⟩ := ol
        simp only at hcl hdl
        subst hcl; subst hdl
        have hol' := old l _ hol
        have hsls := F.sub_list_set
        have hslf := F.sub_list_frozenset
        have hne : (Value.type "list" == Value.type "dict") = false := by decide
        have hl1 : bs.IsList l items := ⟨_, hol', rfl, nl, rfl⟩
        unfold Builtin.«set.__init__» noKeywords Builtin.Frozenset.updateFrom
        generalize hPI : pyIter = PI
        wp_walk
        subst hPI

        refine wpAny_pyIter_list (s := { s with heap := bs }) hl1 ?_
        refine wpAny_bind (wpAny_runValue ?_)
        have hlS : l < s.heap.objs.size := Heap.lt_size hol
        have neI : l ≠ bs.objs.size := by rw [bsz]; exact Nat.ne_of_lt (Nat.lt_succ_of_lt hlS)
        have apart : s.heap.objs.size ∉ [bs.objs.size, l] := by
          rw [bsz]
          simp only [List.mem_cons, List.mem_singleton, List.not_mem_nil, or_false, not_or]
          exact ⟨Nat.ne_of_lt (Nat.lt_succ_self _), Nat.ne_of_gt hlS⟩
        have hval : ∀ (i : Nat) (v : Value), items[i]? = some v → ∃ z t, xs[i]? = some z ∧ v = .str z t := fun i v hv => by
          have hi' : i < xs.length := by rw [← isz]; exact (Array.getElem?_eq_some_iff.mp hv).1
          obtain ⟨t, e⟩ := SS.strs_at hi i v (by rw [Array.getElem?_toList]; exact hv)
          refine ⟨xs[i], t, List.getElem?_eq_getElem hi', ?_⟩
          rw [e, List.getD_eq_getElem?_getD, List.getElem?_eq_getElem hi']
          rfl
        refine update_texts ((Walks.list (by simp [hh]) _ l neI items).toS) s.heap.objs.size apart xs isz hb hval (items.size - 0) 0 _ (by omega) (Nat.zero_le _) ⟨⟨_, Heap.get?_push_size _ rfl, rfl, rfl⟩, (hl1.push _)⟩ (new.at fun o e => Heap.get?_push_of_some _ e) ?_
        intro s' hm hS'
        obtain ⟨h', g2, d', tk', os'⟩ := s'
        have eg : g2 = s.gens := hm.gens
        have ed : d' = s.drawn := hm.drawn
        have eo : os' = s.os := hm.os
        subst eg; subst ed; subst eo
        show wpAny _ _ _ _ _ _
        refine wpAny_pure ?_
        show wpAny _ _ (ret Value.none) _ _ _
        refine wpAny_pure ⟨rfl, h', tk', rfl, hS', fun b o e => ?_⟩
        have hb0 : b < s.heap.objs.size := Heap.lt_size e
        have hb2 : b ≠ bs.objs.size := by rw [bsz]; exact Nat.ne_of_lt (Nat.lt_succ_of_lt hb0)
        exact hm.heap b o (by simp only [List.mem_cons, List.mem_singleton, List.not_mem_nil, or_false, not_or]; exact ⟨Nat.ne_of_lt hb0, hb2⟩) (Heap.get?_push_of_some _ (old b o e))
      · cases r₂ with
        | error e => exact hr₂
        | ok fl₂ =>
          cases fl₂ with
          | ret r =>
            obtain ⟨rfl, h', tk, rfl, hS', hk'⟩ := hr₂
            repeat (any_goals (first | assumption | wp_step))
            exact h _ _ hS' hk'
          | _ => exact hr₂.elim
    | _ => exact hr.elim
end
section
variable {X : Cx}
/-- set(xs), xs a list of texts -/
def rSetT (P : Program) (w : World) (K : PySem.W.Frag) : List V → Hp → VK → Prop := fun vs H Q => ∃ (a : Addr) (xs : List Str), vs = [.ref a] ∧ SqL K H a (xs.map V.str) ∧ xs.length < 4000 ∧ ∀ p, H p = none → Q (.ref p) (upd H p (SetTO P w p (dist xs)))
theorem cr_setT (hc : X.calm = true) : CallR X (.type "set") (rSetT X.prog X.w X.K) := by
  intro pins s σ H vs us Q I r h
  obtain ⟨a, xs, rfl, ha, hz, q⟩ := h
  rw [Vals.ref1 r]
  obtain ⟨its, rv, pl, _⟩ := I.list ha
  refine call_setT (I.ok.hd hc) pl.isList (by simpa using strsAre_of rv) (by unfold scanBound; omega) fun h' tk new old => ?_
  exact ⟨.ref _, _, I.laid (t' := tk) old (Nat.le_refl _) (setTO_new new), rfl, q _ (I.hok.fresh (Nat.le_refl _))⟩
/-- len(a set of texts) -/
def rLenT (P : Program) (w : World) : List V → Hp → VK → Prop := fun vs H Q => ∃ (a : Addr) (M : List Str), vs = [.ref a] ∧ H a = some (SetTO P w a M) ∧ Q (.int (M.length : Nat)) H
theorem cr_lenT : CallR X (.builtin "len") (rLenT X.prog X.w) := by
  intro pins s σ H vs us Q I r h
  obtain ⟨a, M, rfl, ha, q⟩ := h
  rw [Vals.ref1 r]
  obtain ⟨o, es, ep, t, ho, hx, hd, k⟩ := setTO_get I ha
  have sz := k.sz
  exact call_len_set ho hx hd k.fit (by unfold scanBound at sz; omega) ⟨.int _, H, I.tok _, ⟨_, by rw [k.len]⟩, q⟩
end
end Fm
set_option maxHeartbeats 2000000
namespace Fm
open PySem PySem.Spec PyProof.Rows L2 FmM
/-! ### the pairs of an ascending list -/
theorem mem_pairs : ∀ {ls : List Str}, Asc ls → ∀ {p : Str × Str}, p ∈ pairs ls ↔ p.1 ∈ ls ∧ p.2 ∈ ls ∧ LtS p.1 p.2
  | [], _, p => by simp [pairs]
  | a :: r, h, p => by
    obtain ⟨h1, h2⟩ := List.pairwise_cons.mp h
    obtain ⟨x, y⟩ := p
    rw [pairs, List.mem_append, List.mem_map, mem_pairs h2]
    constructor
    · rintro (⟨b, hb, e⟩ | ⟨hx, hy, hl⟩)
      · cases e
        exact ⟨List.mem_cons_self, List.mem_cons_of_mem _ hb, h1 _ hb⟩
      · exact ⟨List.mem_cons_of_mem _ hx, List.mem_cons_of_mem _ hy, hl⟩
    · rintro ⟨hx, hy, hl⟩
      have hl : LtS x y := hl
      rcases List.mem_cons.mp hx with e | hx1
      · have e : x = a := e
        subst e
        rcases List.mem_cons.mp hy with e' | hy
        · have e' : y = x := e'
          subst e'
          exact absurd hl (LtS.irrefl _)
        · exact .inl ⟨y, hy, rfl⟩
      · rcases List.mem_cons.mp hy with e' | hy
        · have e' : y = a := e'
          subst e'
          exact absurd hl (h1 x hx1).asymm
        · exact .inr ⟨hx1, hy, hl⟩
theorem pairs_len : ∀ ls : List Str, 2 * (pairs ls).length + ls.length = ls.length * ls.length
  | [] => rfl
  | a :: r => by
    rw [pairs, List.length_append, List.length_map, List.length_cons]
    have ih := pairs_len r
    have e : (r.length + 1) * (r.length + 1) = r.length * r.length + 2 * r.length + 1 := by
      rw [Nat.add_mul, Nat.mul_add]; omega
    omega
theorem pairs_lex : ∀ {ls : List Str}, Asc ls → (pairs ls).Pairwise fun p q => LtS p.1 q.1 ∨ (p.1 = q.1 ∧ LtS p.2 q.2)
  | [], _ => List.Pairwise.nil
  | a :: r, h => by
    obtain ⟨h1, h2⟩ := List.pairwise_cons.mp h
    rw [pairs]
    refine List.pairwise_append.mpr ⟨?_, pairs_lex h2, fun p hp q hq => ?_⟩
    · rw [List.pairwise_map]
      exact h2.imp fun {x y} hxy => .inr ⟨rfl, hxy⟩
    · obtain ⟨b, hb, rfl⟩ := List.mem_map.mp hp
      exact .inl (h1 _ ((mem_pairs h2).mp hq).1)
theorem line_pairs {ls : List Str} (h : Asc ls) (two : 2 ≤ ls.length) {z : Str} : z ∈ ls ↔ ∃ p, p ∈ pairs ls ∧ (z = p.1 ∨ z = p.2) := by
  constructor
  · intro hz
    have other : ∃ y, y ∈ ls ∧ y ≠ z := by
      match ls, h, two with
      | a :: b :: r, h, _ =>
        by_cases e : a = z
        · refine ⟨b, by simp, fun e' => ?_⟩
          have := (List.pairwise_cons.mp h).1 b (by simp)
          rw [e, e'] at this
          exact LtS.irrefl _ this
        · exact ⟨a, by simp, e⟩
    obtain ⟨y, hy, ne⟩ := other
    rcases LtS.tri y z with l | e | l
    · exact ⟨(y, z), (mem_pairs h).mpr ⟨hy, hz, l⟩, .inr rfl⟩
    · exact absurd e ne
    · exact ⟨(z, y), (mem_pairs h).mpr ⟨hz, hy, l⟩, .inl rfl⟩
  · rintro ⟨p, hp, e⟩
    obtain ⟨m1, m2, _⟩ := (mem_pairs h).mp hp
    rcases e with e | e
    · rw [e]; exact m1
    · rw [e]; exact m2
theorem perm_of_mem : ∀ {l m : List Str}, l.Nodup → m.Nodup → (∀ z, z ∈ l ↔ z ∈ m) → l.Perm m
  | [], m, _, _, h => by
    cases m with
    | nil => exact List.Perm.refl _
    | cons b m => exact absurd ((h b).mpr List.mem_cons_self) (by simp)
  | a :: l, m, n1, n2, h => by
    obtain ⟨na, n1⟩ := List.nodup_cons.mp n1
    have ha : a ∈ m := (h a).mp List.mem_cons_self
    refine (List.Perm.cons a (perm_of_mem n1 (n2.erase a) fun z => ?_)).trans (List.perm_cons_erase ha).symm
    rw [n2.mem_erase_iff]
    constructor
    · intro hz
      exact ⟨fun e => na (e ▸ hz), (h z).mp (List.mem_cons_of_mem _ hz)⟩
    · rintro ⟨ne, hz⟩
      rcases List.mem_cons.mp ((h z).mpr hz) with e | hz
      · exact absurd e ne
      · exact hz
/-! ### a table as the document has it -/
structure TabOk (kd : Str → Str → Bool) (ls : List Str) : Prop where
  asc : Asc ls
  line : ∀ z, z ∈ ls → Line z
  sym : Sym kd
  two : 2 ≤ ls.length
  le : ls.length ≤ 8
theorem chart_len (kd : Str → Str → Bool) (ls : List Str) : (chart kd ls).length = (pairs ls).length := List.length_map _
theorem TabOk.len {kd : Str → Str → Bool} {ls : List Str} (k : TabOk kd ls) : (chart kd ls).length ≤ 28 := by
  rw [chart_len]
  have h1 := pairs_len ls
  have h2 : ls.length * ls.length ≤ ls.length * 8 := Nat.mul_le_mul_left _ k.le
  have h3 := k.le
  have h4 := k.two
  generalize hn : ls.length = n at *
  have : n = 2 ∨ n = 3 ∨ n = 4 ∨ n = 5 ∨ n = 6 ∨ n = 7 ∨ n = 8 := by omega
  rcases this with rfl | rfl | rfl | rfl | rfl | rfl | rfl <;> omega
theorem chart_at {kd : Str → Str → Bool} {ls : List Str} {i : Nat} {t : Tri} (h : (chart kd ls)[i]? = some t) : ∃ p, (pairs ls)[i]? = some p ∧ t = triOf kd p := by
  unfold chart at h
  rw [List.getElem?_map] at h
  cases e : (pairs ls)[i]? with
  | none => rw [e] at h; cases h
  | some p => rw [e] at h; cases h; exact ⟨p, rfl, rfl⟩
theorem TabOk.at {kd : Str → Str → Bool} {ls : List Str} (k : TabOk kd ls) {i : Nat} {t : Tri} (h : (chart kd ls)[i]? = some t) : t.1 ∈ ls ∧ t.2.1 ∈ ls ∧ LtS t.1 t.2.1 ∧ t.2.2 = kd t.1 t.2.1 := by
  obtain ⟨p, hp, rfl⟩ := chart_at h
  obtain ⟨m1, m2, l⟩ := (mem_pairs k.asc).mp (List.mem_of_getElem? hp)
  exact ⟨m1, m2, l, rfl⟩
theorem TabOk.next {kd : Str → Str → Bool} {ls : List Str} (k : TabOk kd ls) {i : Nat} {t u : Tri} (h : (chart kd ls)[i]? = some t) (h' : (chart kd ls)[i + 1]? = some u) : LtS t.1 u.1 ∨ (t.1 = u.1 ∧ LtS t.2.1 u.2.1) := by
  obtain ⟨p, hp, rfl⟩ := chart_at h
  obtain ⟨q, hq, rfl⟩ := chart_at h'
  obtain ⟨l1, e1⟩ := List.getElem?_eq_some_iff.mp hp
  obtain ⟨l2, e2⟩ := List.getElem?_eq_some_iff.mp hq
  have := List.pairwise_iff_getElem.mp (pairs_lex k.asc) i (i + 1) l1 l2 (Nat.lt_succ_self i)
  rw [e1, e2] at this
  exact this
end Fm
set_option maxHeartbeats 4000000
namespace Fm
open PySem PySem.Spec PyProof.Rows L2 FmM
section
variable {P : Program} {w : World} {K : PySem.W.Frag} {mg : Str → Option Value} {base : Heap}
/-! ### is_triple -/
theorem sc_is_triple : FnScope ["value", "one", "other", "kind"] ["value"] (defScope s_is_triple) := ⟨rfl, rfl, rfl, by decide +kernel, rfl, by decide +kernel, by decide +kernel⟩
def spTriple : Sp := fun vs H Q _ => ∃ (v : V) (t : Tri), vs = [v] ∧ TriAt H v t ∧ Line t.1 ∧ Line t.2.1 ∧ LtS t.1 t.2.1 ∧ ∀ H', Same H H' → Q (.bl true) H'
theorem c_is_triple (T : Txt K mg) : Cal P w K mg base 2 "is_triple" spTriple := by
  refine cal_of T.d_is_triple sc_is_triple (fun vs H Q E h => ?_) (fun f cdv A outer s H vs Q E hr h => ?_)
  · obtain ⟨v, t, rfl, _⟩ := h
    rfl
  · obtain ⟨v, t, rfl, hv, l1, l2, lt, q⟩ := h
    refine ⟨_, pss_cons (ps_if (PW.pt (pw_or (pt_not (pt_val (pe_callB call_isi (by rfl) T.b_isinstance bt_isinstance (pa_cons (pv 0) (pa_cons (pe_bltn (v := .ty "tuple") (by rfl) T.b_tuple bt_tuple rfl) pa_nil)))))
            (pw_or1 (pt_cmpR op_ne (pe_callB call_len (by rfl) T.b_len bt_len (pa_cons (pv 0) pa_nil)) pe_int (nomark _)))))
          (pss_one (ps_ret pe_bl)) pss_nil)
        (pss_cons (ps_asg (pv 0) (pg_tup rfl (pgs_cons (pg_name (i := 1) sc_is_triple.nd rfl (.inl rfl)) (pgs_cons (pg_name (i := 2) sc_is_triple.nd rfl (.inl rfl)) (pgs_cons (pg_name (i := 3) sc_is_triple.nd rfl (.inl rfl)) pgs_nil)))))
        (pss_one (ps_ret (pe_and (pe_d (c_is_line T) hr (by omega) (pa_cons (pv 1) pa_nil)) (pe_and (pe_d (c_is_line T) hr (by omega) (pa_cons (pv 2) pa_nil))
          (pe_and (pe_cmpR op_lt_str (pv 1) (pv 2) (nomark _)) (pe_one (pe_d (c_is_kind T) hr (by omega) (pa_cons (pv 3) pa_nil))))))))), ?_⟩
    obtain ⟨a, rfl, ha⟩ := hv
    obtain ⟨x, y, k⟩ := t
    refine ⟨_, rfl, _, _, .type "tuple", .type "tuple", true, rfl, .ty _, .base (.tup ha), isi_tup, true, rfl, ?_⟩
    refine iteF ⟨_, rfl, _, 3, rfl, .inr ⟨_, .inl (.inl ha), rfl⟩, rfl, false, rfl, ?_⟩

    refine iteF ⟨_, rfl, a, _, rfl, .inl (.inl ha), rfl, _, _, rfl, _, _, rfl, _, _, rfl, rfl, ?_⟩
    refine ⟨_, rfl, .inl ⟨x, l1, rfl, fun H1 s1 => ⟨true, rfl, iteT ⟨_, rfl, .inl ⟨y, l2, rfl, fun H2 s2 => ⟨true, rfl, iteT ?_⟩⟩⟩⟩⟩⟩
    refine ⟨_, rfl, _, rfl, x, y, rfl, rfl, ?_⟩
    have e : decide (x.cps.toList < y.cps.toList) = true := decide_eq_true lt
    refine ⟨_, rfl, ?_⟩
    rw [if_pos e]
    exact ⟨_, rfl, k, rfl, fun H3 s3 => q _ ((s1.trans s2).trans s3)⟩
/-! ### lines_in_table -/
theorem sc_lines_tab : FnScope ["table", "triple", "line"] ["table"] (defScope s_lines_in_table) := ⟨rfl, rfl, rfl, by decide +kernel, rfl, by decide +kernel, by decide +kernel⟩
def spLinesTab : Sp := fun vs H Q _ => ∃ (v : V) (kd : Str → Str → Bool) (ls : List Str), vs = [v] ∧ TabAt H v (chart kd ls) ∧ TabOk kd ls ∧ ∀ H' r, Same H H' → LinesAt H' r ls → Q r H'
def LinesOf (M : List Str) (ts : List Tri) (more : List Str) : Prop := M.Nodup ∧ ∀ z, z ∈ M ↔ (∃ t, t ∈ ts ∧ (z = t.1 ∨ z = t.2.1)) ∨ z ∈ more
theorem LinesOf.add {M : List Str} {ts : List Tri} {more : List Str} (h : LinesOf M ts more) (z : Str) : LinesOf (if z ∈ M then M else M ++ [z]) ts (more ++ [z]) := by
  obtain ⟨nd, hm⟩ := h
  by_cases hz : z ∈ M
  · rw [if_pos hz]
    refine ⟨nd, fun y => ?_⟩
    rw [hm y, List.mem_append, List.mem_singleton]
    constructor
    · exact fun h => h.imp id .inl
    · rintro (h | h | h)
      · exact .inl h
      · exact .inr h
      · rw [h]; exact (hm z).mp hz
  · rw [if_neg hz]
    refine ⟨List.nodup_append.mpr ⟨nd, by simp, fun a ha b hb => ?_⟩, fun y => ?_⟩
    · rw [List.mem_singleton.mp hb]
      exact fun e => hz (e ▸ ha)
    · rw [List.mem_append, List.mem_append, hm y, List.mem_singleton, or_assoc]
theorem LinesOf.turn {M : List Str} {ts : List Tri} {t : Tri} (h : LinesOf M ts [t.1, t.2.1]) : LinesOf M (ts ++ [t]) [] := by
  refine ⟨h.1, fun z => ?_⟩
  rw [h.2 z]
  constructor
  · rintro (⟨u, hu, e⟩ | e)
    · exact .inl ⟨u, List.mem_append_left _ hu, e⟩
    · exact .inl ⟨t, by simp, by simpa using e⟩
  · rintro (⟨u, hu, e⟩ | e)
    · rcases List.mem_append.mp hu with hu | hu
      · exact .inl ⟨u, hu, e⟩
      · rw [List.mem_singleton.mp hu] at e
        exact .inr (by simpa using e)
    · simp at e
theorem c_lines_tab (T : Txt K mg) : Cal P w K mg base 1 "lines_in_table" spLinesTab := by
  refine cal_of T.d_lines_in_table sc_lines_tab (fun vs H Q E h => ?_) (fun f cdv A outer s H vs Q E hr h => ?_)
  · obtain ⟨v, kd, ls, rfl, _⟩ := h
    rfl
  · obtain ⟨v, kd, ls, rfl, hv, ok, q⟩ := h
    refine ⟨_, pss_one (ps_ret (pe_callTy call_tuple_of (by rfl) T.b_tuple bt_tuple (pa_cons (pe_callB (cr_sortT rfl) (by rfl) T.b_sorted bt_sorted (pa_cons
      (pe_sc2 (own := [("triple", 1), ("line", 2)]) (vs1 := [2]) (g := gName 1) (g1 := gName 2) (wi1 := iTup K (tSl (rSlT K) (tVar 1) tNoPart (tPart (tC (.int 2))))) rfl sc_lines_tab.nd (pi_tup (pv 0))
        (blkOk_by (N := ["table", "triple", "line"]) (sc := defScope s_lines_in_table) (by decide +kernel)) (by decide)
        (fun _ _ _ _ _ => pg_name (i := 1) sc_lines_tab.nd rfl (Or.inl rfl))
        (fun _ _ _ _ _ => pi_tup (pe_slice sl_tup (pv 1) po_none (po_some pe_int)))
        (fun _ _ _ _ _ => pg_name (i := 2) sc_lines_tab.nd rfl (Or.inl rfl))
        (fun _ _ _ _ _ => pv 2)) pa_nil)) pa_nil))), ?_⟩
    obtain ⟨a, xs, rfl, ha, tr⟩ := hv
    have hlen := tr.len
    have h28 := ok.len
    refine ⟨_, rfl, a, rfl, ⟨_, .inl (.inl ha)⟩, fun D hD => ?_⟩
    refine loop_it (walk_tup (xs := xs)) (fun i H' => ∃ M, H' D = some (SetTO P w D M) ∧ Same H H' ∧ M.length ≤ 2 * i ∧ LinesOf M ((chart kd ls).take i) []) ⟨[], upd_same, same_new hD, Nat.le_refl _, List.nodup_nil, fun z => by simp⟩ (fun i H1 _ p1 => ?_) (fun i x H1 H1' hi p1 hy => ?_) fun H1 p1 => ?_
    · obtain ⟨M, _, sm, _⟩ := p1
      exact .inl (.inl (sm _ _ ha))
    · obtain ⟨M, hM, sm, hl, ho⟩ := p1
      obtain ⟨rfl, hx⟩ := hy
      obtain ⟨t, ht, b, rfl, hb⟩ := paired_get tr hx
      have hb1 := sm _ _ hb
      refine ⟨rfl, _, rfl, 2, rfl, b, _, rfl, .inl (.inl hb1), ?_, fun p hp => ⟨p, rfl, ⟨[.str t.1, .str t.2.1], .inl (.inl upd_same)⟩, ?_⟩⟩
      · intro z
        exact absurd z.2 (by show ¬ (2 = 3); omega)
      · have npD : D ≠ p := ne_of_none hM hp
        refine loop_it (walk_tup (xs := [V.str t.1, V.str t.2.1])) (fun j H' => ∃ M, H' D = some (SetTO P w D M) ∧ Same H H' ∧ H' p = some (.tup [.str t.1, .str t.2.1]) ∧ M.length ≤ 2 * i + j ∧ LinesOf M ((chart kd ls).take i) ([t.1, t.2.1].take j))
          ⟨M, by rw [upd_ne npD]; exact hM, sm_new sm hp, upd_same, by omega, ho⟩ (fun j H2 _ p2 => ?_) (fun j y H2 H2' hj p2 hy2 => ?_) fun H2 p2 => ?_
        · obtain ⟨M2, _, _, h2, _⟩ := p2
          exact .inl (.inl h2)
        · obtain ⟨M2, hM2, sm2, hp2, hl2, ho2⟩ := p2
          obtain ⟨rfl, hy2⟩ := hy2
          have hj2 : j < 2 := hj
          have hi28 : i < 28 := by
            have : i < xs.length := hi
            omega
          have hz : ∃ z, [t.1, t.2.1][j]? = some z ∧ y = .str z := by
            have e : [V.str t.1, V.str t.2.1] = [t.1, t.2.1].map V.str := rfl
            rw [e] at hy2
            exact strs_at hy2
          obtain ⟨z, hz, rfl⟩ := hz
          refine ⟨rfl, _, rfl, M2, z, rfl, hM2, by unfold scanBound; omega, _, upd_same, sm_grow hD sm2, ?_, ?_, ?_⟩
          · rw [upd_ne (Ne.symm npD)]
            exact hp2
          · by_cases hzM : z ∈ M2
            · rw [if_pos hzM]; omega
            · rw [if_neg hzM, List.length_append, List.length_singleton]; omega
          · have := ho2.add z
            rw [List.take_add_one, hz]
            exact this
        · obtain ⟨M2, hM2, sm2, hp2, hl2, ho2⟩ := p2
          refine ⟨M2, hM2, sm2, hl2, ?_⟩
          rw [List.take_add_one, ht]
          exact LinesOf.turn ho2
    · obtain ⟨M, hM, sm, hl, ho⟩ := p1
      rw [List.take_of_length_le (by omega)] at ho
      have pm : M.Perm ls := perm_of_mem ho.1 ok.asc.nodup fun z => by
        rw [ho.2 z, line_pairs ok.asc ok.two]
        constructor
        · rintro (⟨t, ht, e⟩ | e)
          · obtain ⟨p, hp, rfl⟩ := List.mem_map.mp ht
            exact ⟨p, hp, e⟩
          · simp at e
        · rintro ⟨p, hp, e⟩
          exact .inl ⟨triOf kd p, List.mem_map.mpr ⟨p, hp, rfl⟩, e⟩
      refine ⟨D, M, rfl, hM, by rw [pm.length_eq]; have := ok.le; omega, fun p hp => ⟨p, _, rfl, .inl ⟨.inl (.inl upd_same), fun u hu => ?_⟩⟩⟩
      refine q _ _ ((sm.trans (same_new hp)).trans (same_new hu)) ⟨u, rfl, ?_⟩
      rw [upd_same, srt_of_asc pm ok.asc]
end
end Fm
set_option maxHeartbeats 4000000
namespace Fm
open PySem PySem.Spec PyProof.Rows L2 FmM
section
variable {P : Program} {w : World} {K : PySem.W.Frag} {mg : Str → Option Value} {base : Heap}
/-! ### check_table -/
theorem sc_check_tab : FnScope ["table", "index", "triple", "many"] ["table"] (defScope s_check_table) := ⟨rfl, rfl, rfl, by decide +kernel, rfl, by decide +kernel, by decide +kernel⟩
def spCheckTab : Sp := fun vs H Q _ => ∃ (v : V) (kd : Str → Str → Bool) (ls : List Str), vs = [v] ∧ TabAt H v (chart kd ls) ∧ TabOk kd ls ∧ ∀ H', Same H H' → Q .non H'
theorem tri_cut (a b c : V) : cutV [a, b, c] none (some 2) = [a, b] := rfl
theorem c_check_tab (T : Txt K mg) : Cal P w K mg base 3 "check_table" spCheckTab := by
  refine cal_of T.d_check_table sc_check_tab (fun vs H Q E h => ?_) (fun f cdv A outer s H vs Q E hr h => ?_)
  · obtain ⟨v, kd, ls, rfl, _⟩ := h
    rfl
  · obtain ⟨v, kd, ls, rfl, hv, ok, q⟩ := h
    obtain ⟨tM, hM⟩ := T.k_MOST_LINES
    refine ⟨_, pss_cons (ps_if (pt_not (pt_val (pe_callB call_isi (by rfl) T.b_isinstance bt_isinstance (pa_cons (pv 0) (pa_cons (pe_bltn (v := .ty "tuple") (by rfl) T.b_tuple bt_tuple rfl) pa_nil)))))
          (pss_one ps_never) pss_nil)
        (pss_cons (ps_for PassesOwn.never rfl (pi_enT (by rfl) T.b_enumerate (pa_cons (pv 0) pa_nil)) (pg_tup rfl (pgs_cons (pg_name (i := 1) sc_check_tab.nd rfl (.inl rfl)) (pgs_cons (pg_name (i := 2) sc_check_tab.nd rfl (.inl rfl)) pgs_nil)))
          (pss_one (ps_if (PW.pt (pw_or (pt_not (pt_val (pe_d (c_is_triple T) hr (by omega) (pa_cons (pv 2) pa_nil))))
              (pw_or1 (PW.pt (pw_and (pt_cmpR op_gt (pv 1) pe_int (nomark _))
                (pw_and1 (pt_cmpR (op_leTS hr.units0) (pe_slice sl_tup (pv 2) po_none (po_some pe_int)) (pe_slice sl_tup (pe_ix ix_tup (pv 0) (pe_op op_sub (pv 1) pe_int) (fun _ _ => rfl)) po_none (po_some pe_int)) (nomark _))))))))
            (pss_one ps_never) pss_nil)))
        (pss_cons (ps_set (i := 3) sc_check_tab.nd rfl (.inl rfl) (pe_callB call_len (by rfl) T.b_len bt_len (pa_cons (pe_d (c_lines_tab T) hr (by omega) (pa_cons (pv 0) pa_nil)) pa_nil)))
        (pss_one (ps_if (PW.pt (pw_or (pt_not (pt_chain op_le op_le pe_int (pv 3) (pe_glob (v := .int 8) (by rfl) hM ⟨_, rfl⟩)))
            (pw_or1 (pt_cmpR op_ne (pe_op op_mul pe_int (pe_callB call_len (by rfl) T.b_len bt_len (pa_cons (pv 0) pa_nil))) (pe_op op_mul (pv 3) (pe_op op_sub (pv 3) pe_int)) (nomark _)))))
          (pss_one ps_never) pss_nil)))), ?_⟩
    obtain ⟨a, xs, rfl, ha, tr⟩ := id hv
    have hlen := tr.len
    have h28 := ok.len
    refine ⟨_, rfl, _, _, .type "tuple", .type "tuple", true, rfl, .ty _, .base (.tup ha), isi_tup, true, rfl, ?_⟩
    refine iteF ⟨_, rfl, a, xs, rfl, .inl (.inl ha), ?_⟩
    refine for_it (walk_enT (xs := xs)) (fun i σ H1 => ∃ y1 y2 y3, σ = [some (.ref a), y1, y2, y3] ∧ Same H H1) ⟨none, none, none, rfl, Same.refl _⟩ (fun i σ H1 _ p1 => ?_) (fun i x σ H1 H1' hi p1 hy => ?_) (fun σ H1 p1 => ?_)
    · obtain ⟨y1, y2, y3, rfl, sm⟩ := p1
      exact sm _ _ ha
    · obtain ⟨y1, y2, y3, rfl, sm⟩ := p1
      obtain ⟨p, t, rfl, hp, rfl, hx⟩ := hy
      obtain ⟨tt, ht, b, rfl, hb⟩ := paired_get tr hx
      obtain ⟨m1, m2, lt, _⟩ := ok.at ht
      have sm1 := sm.trans (same_new (o := .tup [.int (i : Nat), .ref b]) hp)
      have hb1 := sm1 _ _ hb
      have ha1 := sm1 _ _ ha
      refine ⟨p, _, rfl, .inl (.inl upd_same), rfl, _, _, rfl, _, _, rfl, rfl, ?_⟩
      refine ⟨_, rfl, _, tt, rfl, ⟨b, rfl, hb1⟩, ok.line _ m1, ok.line _ m2, lt, fun H2 s2 => ⟨true, rfl, iteF ?_⟩⟩
      have sm2 := sm1.trans s2
      have hb2 := s2 _ _ hb1
      have ha2 := s2 _ _ ha1
      refine ⟨_, rfl, _, _, rfl, rfl, _, rfl, ?_⟩
      cases i with
      | zero =>
        refine iteF (iteF ?_)
        exact ⟨_, _, _, rfl, sm2⟩
      | succ i =>
        rw [decide_eq_true (show (0 : Int) < ((i + 1 : Nat) : Int) by omega)]
        have hi' : i < xs.length := by omega
        have hx0 : xs[i]? = some xs[i] := List.getElem?_eq_getElem hi'
        obtain ⟨tu, hu, b0, eb0, hb0⟩ := paired_get tr hx0
        rw [eb0] at hx0
        refine iteT ⟨_, rfl, 2, rfl, b, _, rfl, .inl (.inl hb2), fun z => absurd z.2 (by show ¬ (2 = 3); omega), fun p1 hp1 => ?_⟩
        have sm3 := sm2.trans (same_new (o := .tup [.str tt.1, .str tt.2.1]) hp1)
        have n1 := same_new (o := .tup [.str tt.1, .str tt.2.1]) hp1
        refine ⟨_, rfl, _, rfl, _, _, rfl, rfl, a, xs, _, .ref b0, rfl, rfl, .inl (.inl (n1 _ _ ha2)), ?_, 2, rfl, b0, _, rfl, .inl (.inl (sm3 _ _ hb0)), fun z => absurd z.2 (by show ¬ (2 = 3); omega), fun p2 hp2 => ?_⟩
        · have e : (((i + 1 : Nat) : Int) - 1) = ((i : Nat) : Int) := by omega
          rw [e]
          exact atI_nat hx0
        · have n2 := same_new (o := .tup [.str tu.1, .str tu.2.1]) hp2
          refine ⟨p1, p2, [tt.1, tt.2.1], [tu.1, tu.2.1], rfl, rfl, .inl (.inl (n2 _ _ upd_same)), .inl (.inl upd_same), _, rfl, ?_⟩
          rw [leTS_false (ok.next hu ht)]
          refine iteF ?_
          exact ⟨_, _, _, rfl, sm3.trans n2⟩
    · obtain ⟨y1, y2, y3, rfl, sm⟩ := p1
      refine ⟨_, rfl, _, kd, ls, rfl, hv.tups (sm_tups sm), ok, fun H2 r s2 hr2 => ?_⟩
      obtain ⟨c, rfl, hc⟩ := hr2
      refine ⟨_, _, rfl, .inr ⟨_, .inl (.inl hc), rfl⟩, ?_⟩
      refine ⟨_, rfl, _, _, rfl, rfl, _, rfl, ?_⟩
      have e1 : ((ls.map V.str).length : Int) = (ls.length : Nat) := by rw [List.length_map]
      rw [e1]
      have h2 := ok.two
      have h8 := ok.le
      rw [decide_eq_true (show (2 : Int) ≤ ((ls.length : Nat) : Int) by omega)]
      refine iteT ⟨_, _, rfl, rfl, _, rfl, ?_⟩
      rw [decide_eq_true (show ((ls.length : Nat) : Int) ≤ 8 by omega)]
      refine iteF ⟨_, rfl, _, _, rfl, .inr ⟨_, .inl (.inl ((sm.trans s2) _ _ ha)), rfl⟩, _, _, rfl, rfl, .inl ⟨by omega, by omega⟩, _, rfl, _, rfl, _, _, rfl, rfl, _, _, rfl, rfl, .inl ⟨by omega, by omega⟩, rfl, _, rfl, ?_⟩
      have e2 : (2 : Int) * (xs.length : Nat) = ((ls.length : Nat) : Int) * (((ls.length : Nat) : Int) - 1) := by
        have h1 := pairs_len ls
        have h3 : xs.length = (pairs ls).length := by rw [hlen, chart_len]
        rw [Int.mul_sub, Int.mul_one, h3]
        have : ((2 * (pairs ls).length + ls.length : Nat) : Int) = ((ls.length * ls.length : Nat) : Int) := by rw [h1]
        rw [Int.natCast_add, Int.natCast_mul, Int.natCast_mul] at this
        have e2 : ((2 : Nat) : Int) = 2 := rfl
        rw [e2] at this
        omega
      have e3 : decide (V.int (2 * (xs.length : Nat)) = V.int (((ls.length : Nat) : Int) * (((ls.length : Nat) : Int) - 1))) = true := decide_eq_true (by rw [e2])
      refine ifb (fun h => ?_) (fun _ => q _ (sm.trans s2))
      have h : (!decide (V.int (2 * (xs.length : Nat)) = V.int (((ls.length : Nat) : Int) * (((ls.length : Nat) : Int) - 1)))) = true := h
      rw [e3] at h
      cases h
end
end Fm
set_option maxHeartbeats 4000000
namespace Fm
open PySem PySem.Spec PyProof.Rows L2 FmM
theorem room1 {k : Nat} {A : Around} (r : Room k A) : A.units + 1 < cLine := by have := r.units; omega
theorem room65 {k : Nat} {A : Around} (r : Room k A) : A.units + 65 < cLine := by have := r.un; omega
/-! ### kinds by pair -/
def kk (a b : Str) : List L2.Key := [.inr a, .inr b]
theorem kk_inj {a b x y : Str} (h : kk a b = kk x y) : a = x ∧ b = y := by
  unfold kk at h
  injection h with h1 h2
  injection h2 with h2 _
  exact ⟨Sum.inr.inj h1, Sum.inr.inj h2⟩
def Has (kd : Str → Str → Bool) (kvs : List (List L2.Key × V)) (a b : Str) : Prop := valV kvs (kk a b) = some (.str (kS (kd a b)))
theorem Has.put {kd : Str → Str → Bool} {kvs : List (List L2.Key × V)} {a b : Str} (h : Has kd kvs a b) (x y : Str) {v : V} (hv : v = .str (kS (kd x y))) : Has kd (putK kvs (kk x y) v) a b := by
  unfold Has
  rw [valV_put]
  by_cases e : kk a b = kk x y
  · rw [if_pos e, hv]
    obtain ⟨rfl, rfl⟩ := kk_inj e
    rfl
  · rw [if_neg e]
    exact h
theorem Has.new (kd : Str → Str → Bool) (kvs : List (List L2.Key × V)) (x y : Str) {v : V} (hv : v = .str (kS (kd x y))) : Has kd (putK kvs (kk x y) v) x y := by
  unfold Has
  rw [valV_put, if_pos rfl, hv]
def KindsAt (H : Hp) (v : V) (kd : Str → Str → Bool) (ls : List Str) : Prop := ∃ d kvs, v = .ref d ∧ H d = some (.dT kvs) ∧ ∀ a b, a ∈ ls → b ∈ ls → a ≠ b → Has kd kvs a b
theorem KindsAt.same {H H' : Hp} {v : V} {kd : Str → Str → Bool} {ls : List Str} (s : Same H H') (h : KindsAt H v kd ls) : KindsAt H' v kd ls := let ⟨d, kvs, e, h1, h2⟩ := h; ⟨d, kvs, e, s _ _ h1, h2⟩
theorem KindsAt.sub {H : Hp} {v : V} {kd : Str → Str → Bool} {ls ms : List Str} (s : ∀ a, a ∈ ms → a ∈ ls) (h : KindsAt H v kd ls) : KindsAt H v kd ms := let ⟨d, kvs, e, h1, h2⟩ := h; ⟨d, kvs, e, h1, fun a b ha hb n => h2 a b (s a ha) (s b hb) n⟩
section
variable {P : Program} {w : World} {K : PySem.W.Frag} {mg : Str → Option Value} {base : Heap}
theorem sc_kinds : FnScope ["table", "kinds", "one", "other", "kind"] ["table"] (defScope s_kinds_by_pair) := ⟨rfl, rfl, rfl, by decide +kernel, rfl, by decide +kernel, by decide +kernel⟩
def spKinds : Sp := fun vs H Q _ => ∃ (v : V) (kd : Str → Str → Bool) (ls : List Str), vs = [v] ∧ TabAt H v (chart kd ls) ∧ TabOk kd ls ∧ ∀ H' r, Same H H' → KindsAt H' r kd ls → Q r H'
theorem c_kinds (T : Txt K mg) : Cal P w K mg base 1 "kinds_by_pair" spKinds := by
  refine cal_of T.d_kinds_by_pair sc_kinds (fun vs H Q E h => ?_) (fun f cdv A outer s H vs Q E hr h => ?_)
  · obtain ⟨v, kd, ls, rfl, _⟩ := h
    rfl
  · obtain ⟨v, kd, ls, rfl, hv, ok, q⟩ := h
    refine ⟨_, pss_cons (ps_set (i := 1) sc_kinds.nd rfl (.inl rfl) pe_dnewT)
      (pss_cons (ps_for PassesOwn.never rfl (pi_tup (pv 0)) (pg_tup rfl (pgs_cons (pg_name (i := 2) sc_kinds.nd rfl (.inl rfl)) (pgs_cons (pg_name (i := 3) sc_kinds.nd rfl (.inl rfl)) (pgs_cons (pg_name (i := 4) sc_kinds.nd rfl (.inl rfl)) pgs_nil))))
        (pss_cons (ps_dput (room1 hr) (pv 1) (pe_tup (pa_cons (pv 2) (pa_cons (pv 3) pa_nil))) (pv 4) rfl)
        (pss_one (ps_dput (room1 hr) (pv 1) (pe_tup (pa_cons (pv 3) (pa_cons (pv 2) pa_nil))) (pv 4) rfl))))
      (pss_one (ps_ret (pv 1)))), ?_⟩
    obtain ⟨a, xs, rfl, ha, tr⟩ := id hv
    have hlen := tr.len
    have h28 := ok.len
    intro d hd
    have s0 : Same H (upd H d (.dT [])) := same_new hd
    refine ⟨_, rfl, a, rfl, ⟨xs, .inl (.inl (s0 _ _ ha))⟩, ?_⟩
    refine for_tup (xs := xs) (fun i σ H1 => ∃ y2 y3 y4 kvs, σ = [some (.ref a), some (.ref d), y2, y3, y4] ∧ Same H H1 ∧ H1 d = some (.dT kvs) ∧ kvs.length ≤ 2 * i ∧ ∀ t, t ∈ (chart kd ls).take i → Has kd kvs t.1 t.2.1 ∧ Has kd kvs t.2.1 t.1)
      ⟨none, none, none, [], rfl, s0, upd_same, Nat.le_refl _, fun t ht => by simp at ht⟩ (fun i σ H1 _ p1 => ?_) (fun i x σ H1 hx p1 => ?_) (fun σ H1 p1 => ?_)
    · obtain ⟨y2, y3, y4, kvs, rfl, sm, _⟩ := p1
      exact .inl (.inl (sm _ _ ha))
    · obtain ⟨y2, y3, y4, kvs, rfl, sm, hk, hl, hh⟩ := p1
      obtain ⟨t, ht, b, rfl, hb⟩ := paired_get tr hx
      obtain ⟨m1, m2, lt, ek⟩ := ok.at ht
      obtain ⟨x, y, k⟩ := t
      have hi : i < 28 := by
        have := (List.getElem?_eq_some_iff.mp hx).1
        omega
      refine ⟨b, _, rfl, .inl (.inl (sm _ _ hb)), rfl, _, _, rfl, _, _, rfl, _, _, rfl, rfl, ?_⟩
      refine ⟨_, rfl, _, rfl, _, rfl, _, rfl, by show 2 ≤ sizeLine; decide, fun p hp => ?_⟩
      have ndp : d ≠ p := ne_of_none hk hp
      have k1 : (upd H1 p (.tup [.str x, .str y])) d = some (.dT kvs) := by rw [upd_ne ndp]; exact hk
      refine ⟨d, _, rfl, DPut.t (k := kk x y) k1 upd_same (small_of (m := 100) (by omega)), ?_⟩
      refine ⟨_, rfl, _, rfl, _, rfl, _, rfl, by show 2 ≤ sizeLine; decide, fun p2 hp2 => ?_⟩
      have l1 := length_putK kvs (kk x y) (.str (kS k))
      have ndp2 : d ≠ p2 := ne_of_none upd_same hp2
      refine ⟨d, _, rfl, DPut.t (k := kk y x) (kvs := putK kvs (kk x y) (.str (kS k))) (by rw [upd_ne ndp2]; exact upd_same) upd_same (small_of (m := 100) (by omega)), ?_⟩
      have l2 := length_putK (putK kvs (kk x y) (.str (kS k))) (kk y x) (.str (kS k))
      have sm1 : Same H (upd H1 p (.tup [.str x, .str y])) := sm_new sm hp
      have ek1 : V.str (kS k) = V.str (kS (kd x y)) := by rw [show k = kd x y from ek]
      have ek2 : V.str (kS k) = V.str (kS (kd y x)) := by rw [ok.sym y x]; exact ek1
      refine ⟨_, _, _, _, rfl, sm_grow hd (sm_new (sm_grow hd sm1) hp2), upd_same, Nat.le_trans l2 (by omega), fun u hu => ?_⟩
      rw [List.take_add_one, ht] at hu
      rcases List.mem_append.mp hu with hu | hu
      · obtain ⟨g1, g2⟩ := hh u hu
        exact ⟨(g1.put x y ek1).put y x ek2, (g2.put x y ek1).put y x ek2⟩
      · have hu : u ∈ [(x, y, k)] := hu
        rw [List.mem_singleton.mp hu]
        exact ⟨(Has.new kd kvs x y ek1).put y x ek2, Has.new kd _ y x ek2⟩
    · obtain ⟨y2, y3, y4, kvs, rfl, sm, hk, hl, hh⟩ := p1
      rw [List.take_of_length_le (by omega)] at hh
      refine ⟨_, rfl, q _ _ sm ⟨d, kvs, rfl, hk, fun x y hx hy ne => ?_⟩⟩
      rcases LtS.tri x y with l | e | l
      · exact (hh (triOf kd (x, y)) (List.mem_map.mpr ⟨(x, y), (mem_pairs ok.asc).mpr ⟨hx, hy, l⟩, rfl⟩)).1
      · exact absurd e ne
      · exact (hh (triOf kd (y, x)) (List.mem_map.mpr ⟨(y, x), (mem_pairs ok.asc).mpr ⟨hy, hx, l⟩, rfl⟩)).2
end
end Fm
set_option maxHeartbeats 4000000
namespace Fm
open PySem PySem.Spec PyProof.Rows L2 FmM
/-! ### data of lines, plans, tables: their shape -/
theorem Line.ok {z : Str} (h : Line z) : PyData.strOk z = true := by
  unfold PyData.strOk
  rw [Array.all_eq_true]
  intro i hi
  have := h.2.2 z.cps[i] (Array.mem_toList_iff.mpr (Array.getElem_mem hi))
  exact decide_eq_true (by omega)
theorem kS_ok (k : Bool) : PyData.strOk (kS k) = true := by cases k <;> decide +kernel
def strsD (ls : List Str) : List PyData := ls.map PyData.str
theorem strs_dp {K : PySem.W.Frag} {H : Hp} : ∀ ls : List Str, DpAll K H (ls.map V.str) (strsD ls)
  | [] => .nil
  | z :: ls => .cons (.str z) (strs_dp ls)
theorem strs_lay : ∀ {ls : List Str}, (∀ z, z ∈ ls → Line z) → PyData.canLayAll0 (strsD ls) = true ∧ PyData.depthAll (strsD ls) = 0
  | [], _ => ⟨rfl, rfl⟩
  | z :: ls, h => by
    obtain ⟨h1, h2⟩ := strs_lay fun y hy => h y (List.mem_cons_of_mem _ hy)
    refine ⟨?_, ?_⟩
    · show (PyData.canLay0 (.str z) && PyData.canLayAll0 (strsD ls)) = true
      rw [h1, PyData.canLay0, (h z List.mem_cons_self).ok]
      rfl
    · show max 0 (PyData.depthAll (strsD ls)) = 0
      rw [h2]
      rfl
theorem strs_shaped {ls : List Str} (h : ∀ z, z ∈ ls → Line z) : SeqAt.shaped (.list (strsD ls)) = true ∧ SeqAt.shaped (.tuple (strsD ls)) = true := by
  obtain ⟨h1, h2⟩ := strs_lay h
  unfold SeqAt.shaped
  rw [PyData.canLay0, PyData.canLay0, h1, PyData.depth, PyData.depth, h2]
  exact ⟨rfl, rfl⟩
/-- data of which depth and signs are known -/
def Dok (n : Nat) (d : PyData) : Prop := d.canLay0 = true ∧ d.depth ≤ n
def DokA (n : Nat) (ds : List PyData) : Prop := PyData.canLayAll0 ds = true ∧ PyData.depthAll ds ≤ n
theorem DokA.nil {n : Nat} : DokA n [] := ⟨rfl, Nat.zero_le _⟩
theorem DokA.cons {n : Nat} {d : PyData} {ds : List PyData} (h : Dok n d) (t : DokA n ds) : DokA n (d :: ds) := by
  refine ⟨?_, ?_⟩
  · rw [PyData.canLayAll0, h.1, t.1]; rfl
  · rw [PyData.depthAll]; exact Nat.max_le.mpr ⟨h.2, t.2⟩
theorem Dok.tup {n : Nat} {ds : List PyData} (h : DokA n ds) : Dok (n + 1) (.tuple ds) := ⟨by rw [PyData.canLay0]; exact h.1, by rw [PyData.depth]; exact Nat.succ_le_succ h.2⟩
theorem Dok.mono {n m : Nat} {d : PyData} (h : Dok n d) (l : n ≤ m) : Dok m d := ⟨h.1, Nat.le_trans h.2 l⟩
theorem DokA.mono {n m : Nat} {d : List PyData} (h : DokA n d) (l : n ≤ m) : DokA m d := ⟨h.1, Nat.le_trans h.2 l⟩
theorem Dok.str {n : Nat} {z : Str} (h : PyData.strOk z = true) : Dok n (.str z) := ⟨by rw [PyData.canLay0]; exact h, by rw [PyData.depth]; exact Nat.zero_le _⟩
theorem Dok.shaped {n : Nat} {d : PyData} (h : Dok n d) (l : n ≤ 64) : SeqAt.shaped d = true := by
  unfold SeqAt.shaped
  rw [h.1, decide_eq_true (Nat.le_trans h.2 l)]
  rfl
mutual
theorem plan_dok : ∀ {p : Plan Str}, p.Good → (∀ z, z ∈ p.lines → Line z) → Dok (2 * p.lines.length) (planD p)
  | .leaf z, _, h => by
    rw [planD]
    exact .str (h z (by rw [Plan.lines]; simp)).ok
  | .node k ps, g, h => by
    have g2 := g
    rw [Plan.Good] at g2
    have len := fun p (hp : p ∈ ps) => part_len g hp
    rw [Plan.lines] at h len ⊢
    have h1 : 1 ≤ (linesL ps).length := by
      have := linesL_len g2.2
      omega
    have := plans_dok (n := 2 * (linesL ps).length - 2) g2.2 h fun p hp => by have := len p hp; omega
    rw [planD]
    have := Dok.tup (DokA.cons (Dok.str (n := 2 * (linesL ps).length - 2 + 1) (kS_ok k)) (.cons (.tup this) .nil))
    exact this.mono (by omega)
theorem plans_dok {n : Nat} : ∀ {ps : List (Plan Str)}, GoodL ps → (∀ z, z ∈ linesL ps → Line z) → (∀ p, p ∈ ps → 2 * p.lines.length ≤ n) → DokA n (plansD ps)
  | [], _, _, _ => by rw [plansD]; exact .nil
  | p :: ps, g, h, l => by
    rw [GoodL] at g
    rw [linesL] at h
    rw [plansD]
    exact .cons ((plan_dok g.1 fun z hz => h z (List.mem_append_left _ hz)).mono (l p List.mem_cons_self))
      (plans_dok g.2 (fun z hz => h z (List.mem_append_right _ hz)) fun q hq => l q (List.mem_cons_of_mem _ hq))
end
theorem tri_dok {t : Tri} (h1 : Line t.1) (h2 : Line t.2.1) : Dok 1 (triD t) := .tup (.cons (.str h1.ok) (.cons (.str h2.ok) (.cons (.str (kS_ok _)) .nil)))
theorem tris_dok : ∀ {ts : List Tri}, (∀ t, t ∈ ts → Line t.1 ∧ Line t.2.1) → DokA 1 (ts.map triD)
  | [], _ => .nil
  | t :: ts, h => .cons (tri_dok (h t List.mem_cons_self).1 (h t List.mem_cons_self).2) (tris_dok fun u hu => h u (List.mem_cons_of_mem _ hu))
theorem TabOk.dok {kd : Str → Str → Bool} {ls : List Str} (k : TabOk kd ls) : Dok 2 (tabD (chart kd ls)) := by
  refine .tup (tris_dok fun t ht => ?_)
  obtain ⟨i, hi⟩ := List.getElem?_of_mem ht
  obtain ⟨m1, m2, _⟩ := k.at hi
  exact ⟨k.line _ m1, k.line _ m2⟩
end Fm
set_option maxHeartbeats 2000000
namespace Fm
open PySem PySem.Spec PyProof.Rows L2 FmM
/-! ### groups that are being gathered: gs those done, G the one that grows (its first n were asked), L what is left -/
structure Mid (kd : Str → Str → Bool) (c : Bool) (ls : List Str) (gs : List (List Str)) (G L : List Str) (n : Nat) : Prop where
  perm : (gs.flatten ++ (G ++ L)).Perm ls
  each : ∀ g, g ∈ gs → Asc g ∧ g ≠ [] ∧ Conn kd c g
  cross : gs.Pairwise fun g h => ∀ a b, a ∈ g → b ∈ h → kd a b = !c
  rest : ∀ g, g ∈ gs → ∀ a b, a ∈ g → b ∈ G ++ L → kd a b = !c
  asc : Asc L
  order : gs.Pairwise fun g h => ∀ a b, Least LtS g a → Least LtS h b → LtS a b
  first : ∀ g, g ∈ gs → ∀ a b, Least LtS g a → b ∈ G ++ L → LtS a b
  head : G = [] ∨ ∃ p, Least LtS (G ++ L) p ∧ p ∈ G
  conn : G = [] ∨ Conn kd c G
  done : ∀ i x, i < n → G[i]? = some x → ∀ b, b ∈ L → kd x b = !c
theorem Least.uniq {ls : List Str} {a b : Str} (h : Least LtS ls a) (k : Least LtS ls b) : a = b := by
  rcases h.2 b k.1 with e | l
  · exact e.symm
  · rcases k.2 a h.1 with e | l'
    · exact e
    · exact absurd l' l.asymm
theorem ne_not {a c : Bool} (h : ¬ a = c) : a = !c := by cases a <;> cases c <;> first | rfl | exact absurd rfl h
section
variable {kd : Str → Str → Bool} {c : Bool} {ls : List Str} {gs : List (List Str)} {G L : List Str} {n : Nat}
theorem Mid.start (h : Asc ls) : Mid kd c ls [] [] ls 0 :=
  ⟨List.Perm.refl _, fun g hg => by simp at hg, List.Pairwise.nil, fun g hg => by simp at hg, h, List.Pairwise.nil, fun g hg => by simp at hg, .inl rfl, .inl rfl, fun i x hi => absurd hi (Nat.not_lt_zero _)⟩
/-- a new group -/
theorem Mid.pop {p : Str} (m : Mid kd c ls gs [] (p :: L) 0) : Mid kd c ls gs [p] L 0 := by
  obtain ⟨h1, h2⟩ := List.pairwise_cons.mp m.asc
  refine ⟨m.perm, m.each, m.cross, m.rest, h2, m.order, m.first, .inr ⟨p, ⟨by simp, fun b hb => ?_⟩, by simp⟩, .inr (conn_single p), fun i x hi => absurd hi (Nat.not_lt_zero _)⟩
  have hb : b ∈ p :: L := hb
  rcases List.mem_cons.mp hb with e | hb
  · exact .inl e
  · exact .inr (h1 b hb)
theorem conn_more (hs : Sym kd) {x : Str} : ∀ {N G : List Str}, Conn kd c G → x ∈ G → (∀ y, y ∈ N → kd x y = c) → Conn kd c (G ++ N)
  | [], G, h, _, _ => by rw [List.append_nil]; exact h
  | y :: N, G, h, hx, hy => by
    have := conn_more hs (N := N) (G := G ++ [y]) (conn_grow hs h ⟨x, hx, hy y List.mem_cons_self⟩) (List.mem_append_left _ hx) fun z hz => hy z (List.mem_cons_of_mem _ hz)
    rwa [List.append_assoc] at this
theorem filter_perm (p : Str → Bool) : ∀ L : List Str, (L.filter p ++ L.filter fun b => !p b).Perm L
  | [] => List.Perm.refl _
  | b :: L => by
    have ih := filter_perm p L
    cases e : p b with
    | true =>
      rw [List.filter_cons_of_pos e, List.filter_cons_of_neg (by simp [e])]
      exact ih.cons b
    | false =>
      rw [List.filter_cons_of_neg (by simp [e]), List.filter_cons_of_pos (by simp [e])]
      exact (List.perm_middle).trans (ih.cons b)
/-- one of the group is asked -/
theorem Mid.turn (hs : Sym kd) {x : Str} (m : Mid kd c ls gs G L n) (hx : G[n]? = some x) : Mid kd c ls gs (G ++ L.filter fun b => decide (kd x b = c)) (L.filter fun b => !decide (kd x b = c)) (n + 1) := by
  have mx : x ∈ G := List.mem_of_getElem? hx
  have ne : G ≠ [] := fun e => by rw [e] at mx; simp at mx
  have pm : (G ++ (L.filter fun b => decide (kd x b = c)) ++ (L.filter fun b => !decide (kd x b = c))).Perm (G ++ L) := by
    rw [List.append_assoc]
    exact (filter_perm _ L).append_left G
  have mem : ∀ b, b ∈ (G ++ L.filter fun b => decide (kd x b = c)) ++ (L.filter fun b => !decide (kd x b = c)) ↔ b ∈ G ++ L := fun b => pm.mem_iff
  refine ⟨(pm.append_left _).trans m.perm, m.each, m.cross, fun g hg a b ha hb => m.rest g hg a b ha ((mem b).mp hb), m.asc.filter _, m.order, fun g hg a b ha hb => m.first g hg a b ha ((mem b).mp hb), ?_, ?_, fun i y hi hy b hb => ?_⟩
  · rcases m.head with e | ⟨p, hp, hpG⟩
    · exact absurd e ne
    · exact .inr ⟨p, ⟨(mem p).mpr hp.1, fun b hb => hp.2 b ((mem b).mp hb)⟩, List.mem_append_left _ hpG⟩
  · rcases m.conn with e | h
    · exact absurd e ne
    · refine .inr (conn_more hs h mx fun y hy => ?_)
      exact of_decide_eq_true (List.mem_filter.mp hy).2
  · obtain ⟨hb1, hb2⟩ := List.mem_filter.mp hb
    have lt : n < G.length := (List.getElem?_eq_some_iff.mp hx).1
    have hyG : G[i]? = some y := by
      rwa [List.getElem?_append_left (by omega)] at hy
    rcases Nat.lt_succ_iff_lt_or_eq.mp hi with l | e
    · exact m.done i y l hyG b hb1
    · subst e
      rw [hx] at hyG
      cases hyG
      exact ne_not (by simpa using hb2)
theorem Mid.nodup (m : Mid kd c ls gs G L n) (nd : ls.Nodup) : (G ++ L).Nodup := by
  have := m.perm.nodup_iff.mpr nd
  exact (List.nodup_append.mp this).2.1
theorem Mid.sub (m : Mid kd c ls gs G L n) {a : Str} (h : a ∈ G ++ L) : a ∈ ls := m.perm.mem_iff.mp (List.mem_append_right _ h)
theorem Mid.len (m : Mid kd c ls gs G L n) : G.length + L.length ≤ ls.length := by
  have := m.perm.length_eq
  rw [List.length_append, List.length_append] at this
  omega
/-- the group is whole -/
theorem Mid.close (hs : Sym kd) (nd : ls.Nodup) (m : Mid kd c ls gs G L n) (h : G.length ≤ n) (ne : G ≠ []) : Mid kd c ls (gs ++ [srt G]) [] L 0 := by
  have ndG : G.Nodup := (List.nodup_append.mp (m.nodup nd)).1
  have mG : ∀ a, a ∈ srt G ↔ a ∈ G := fun a => srt_mem
  have split : ∀ {Q : List Str → Prop}, (∀ g, g ∈ gs → Q g) → Q (srt G) → ∀ g, g ∈ gs ++ [srt G] → Q g := fun h1 h2 g hg => by
    rcases List.mem_append.mp hg with h | h
    · exact h1 g h
    · rw [List.mem_singleton.mp h]; exact h2
  obtain ⟨p, hp, hpG⟩ : ∃ p, Least LtS (G ++ L) p ∧ p ∈ G := m.head.resolve_left ne
  have lp : Least LtS (srt G) p := ⟨(mG p).mpr hpG, fun b hb => hp.2 b (List.mem_append_left _ ((mG b).mp hb))⟩
  refine ⟨?_, split m.each ⟨srt_asc ndG, fun e => ne ?_, conn_perm (srt_perm G).symm (m.conn.resolve_left ne)⟩, ?_, split (fun g hg a b ha hb => m.rest g hg a b ha (List.mem_append_right _ hb)) ?_, m.asc, ?_, split (fun g hg a b ha hb => m.first g hg a b ha (List.mem_append_right _ hb)) ?_, .inl rfl, .inl rfl, fun i x hi => absurd hi (Nat.not_lt_zero _)⟩
  · rw [List.flatten_append, List.flatten_singleton, List.append_assoc]
    refine (List.Perm.append_left _ ?_).trans m.perm
    exact (srt_perm G).append_right L
  · exact List.length_eq_zero_iff.mp (by rw [← srt_len, e]; rfl)
  · refine List.pairwise_append.mpr ⟨m.cross, List.pairwise_singleton _ _, fun g hg h hh a b ha hb => ?_⟩
    rw [List.mem_singleton.mp hh] at hb
    exact m.rest g hg a b ha (List.mem_append_left _ ((mG b).mp hb))
  · intro a b ha hb
    obtain ⟨i, hi⟩ := List.getElem?_of_mem ((mG a).mp ha)
    exact m.done i a (Nat.lt_of_lt_of_le (List.getElem?_eq_some_iff.mp hi).1 h) hi b hb
  · refine List.pairwise_append.mpr ⟨m.order, List.pairwise_singleton _ _, fun g hg h hh a b ha hb => ?_⟩
    rw [List.mem_singleton.mp hh] at hb
    exact m.first g hg a b ha (List.mem_append_left _ ((mG b).mp hb.1))
  · intro a b ha hb
    have ea := Least.uniq ha lp
    subst ea
    rcases hp.2 b (List.mem_append_right _ hb) with e | l
    · have : b ∉ G := fun z => (List.nodup_append.mp (m.nodup nd)).2.2 b z b hb rfl
      exact absurd (e ▸ hpG) this
    · exact l
/-- what the groups are -/
structure Linked (kd : Str → Str → Bool) (c : Bool) (ls : List Str) (gs : List (List Str)) : Prop where
  groups : Groups kd c ls gs
  asc : ∀ g, g ∈ gs → Asc g
  order : gs.Pairwise fun g h => ∀ a b, Least LtS g a → Least LtS h b → LtS a b
theorem Mid.linked (m : Mid kd c ls gs [] [] n) : Linked kd c ls gs := by
  refine ⟨⟨?_, fun g hg => (m.each g hg).2.1, m.cross, fun g hg => (m.each g hg).2.2⟩, fun g hg => (m.each g hg).1, m.order⟩
  have := m.perm
  rwa [List.append_nil, List.append_nil] at this
end
end Fm
set_option maxHeartbeats 8000000
namespace Fm
open PySem PySem.Spec PyProof.Rows L2 FmM
theorem fresh_of {H0 H : Hp} {p : Addr} (s : Same H0 H) (h : H p = none) : H0 p = none := by
  cases e : H0 p with
  | none => rfl
  | some o => rw [s p o e] at h; cases h
theorem seqIx {i n : Nat} (h : i < n) : seqIndex? (i : Int) n = some i := by
  unfold seqIndex?
  have h1 : ¬ ((i : Int) < 0) := by omega
  have h2 : ((i : Int) < (n : Int)) := by omega
  simp [h1, h2]
def GroupsAt (H : Hp) (vs : List V) (gs : List (List Str)) : Prop := Paired (LinesAt H) vs gs
theorem GroupsAt.tups {H H' : Hp} {vs : List V} {gs : List (List Str)} (s : Tups H H') (h : GroupsAt H vs gs) : GroupsAt H' vs gs := Paired.mapP h fun _ _ q => q.tups s
section
variable {P : Program} {w : World} {K : PySem.W.Frag} {mg : Str → Option Value} {base : Heap}
theorem sc_linked : FnScope ["lines", "kinds", "kind", "groups", "left", "group", "at", "near", "other"] ["lines", "kinds", "kind"] (defScope s_linked) := ⟨rfl, rfl, rfl, by decide +kernel, rfl, by decide +kernel, by decide +kernel⟩
def spLinked : Sp := fun vs H Q _ => ∃ (v kv : V) (kd : Str → Str → Bool) (c : Bool) (ls : List Str), vs = [v, kv, .str (kS c)] ∧ LinesAt H v ls ∧ KindsAt H kv kd ls ∧ Asc ls ∧ (∀ z, z ∈ ls → Line z) ∧ Sym kd ∧ ls.length ≤ 8 ∧
  ∀ H' g ws gs, Same H H' → H' g = some (.lst ws) → GroupsAt H' ws gs → Linked kd c ls gs → Q (.ref g) H'
theorem c_linked (T : Txt K mg) : Cal P w K mg base 1 "linked" spLinked := by
  refine cal_of T.d_linked sc_linked (fun vs H Q E h => ?_) (fun f cdv A outer s H vs Q E hr h => ?_)
  · obtain ⟨v, kv, kd, c, ls, rfl, _⟩ := h
    rfl
  · obtain ⟨v, kv, kd, c, ls, rfl, hv, hk, asc, ln, sy, h8, q⟩ := h
    refine ⟨_, pss_cons (ps_par (i := 3) (j := 4) rfl sc_linked.nd rfl rfl (by decide) rfl rfl (pa_cons (pe_lst pa_nil) (pa_cons (pe_callTy call_list_of (by rfl) T.b_list bt_list (pa_cons (pv 0) pa_nil)) pa_nil)) (by rfl))
      (pss_cons (ps_while PassesOwn.never (pt_cmpR (op_neD (room1 hr |> fun _ => hr.units)) (pv 4) (pe_lst pa_nil) (nomark _))
        (pss_cons (ps_asg (pe_tup (pa_cons (pe_lst (pa_cons (pe_bm PySem.F.plainAttrs_list PySem.F.slot_list_pop PySem.F.type_list_pop mt_popAt (pv 4) (pa_cons pe_int pa_nil)) pa_nil)) (pa_cons pe_int pa_nil)))
            (pg_tup rfl (pgs_cons (pg_name (i := 5) sc_linked.nd rfl (.inr rfl)) (pgs_cons (pg_name (i := 6) sc_linked.nd rfl (.inr rfl)) pgs_nil))))
        (pss_cons (ps_while PassesOwn.never (pt_cmpR op_lt (pv 6) (pe_callB call_len (by rfl) T.b_len bt_len (pa_cons (pv 5) pa_nil)) (nomark _))
          (pss_cons (ps_set (i := 7) sc_linked.nd rfl (.inr rfl) (pe_lc (own := [("other", 8)]) (g := gName 8) (tt := tTest (tOp rEq (tDGet (tVar 1) (tTup (tCons (tOp (rIxL K) (tVar 5) (tVar 6)) (tCons (tVar 8) tNil)))) (tVar 2))) rfl sc_linked.nd (pi_list (pv 4))
              (blkOk_by (N := ["lines", "kinds", "kind", "groups", "left", "group", "at", "near", "other"]) (sc := defScope s_linked) (by decide +kernel))
              (fun _ _ _ _ _ => pg_name (i := 8) sc_linked.nd rfl (Or.inl rfl))
              (fun _ _ _ _ _ => pts_one (pt_cmpR op_eq (pe_dget (room1 hr) (pv 1) (pe_tup (pa_cons (pe_ix ix_list (pv 5) (pv 6) (fun _ _ => rfl)) (pa_cons (pv 8) pa_nil))) (fun _ _ => rfl)) (pv 2) (nomark _)))
              (fun _ _ _ _ _ => pv 8)))
          (pss_cons (ps_expr (pe_bm PySem.F.plainAttrs_list PySem.F.slot_list_extend PySem.F.type_list_extend mt_extend (pv 5) (pa_cons (pv 7) pa_nil)))
          (pss_cons (ps_setLc (i := 4) (own := [("other", 8)]) (g := gName 8) (tt := tTest (tOp (rIn K true) (tVar 8) (tVar 7))) rfl sc_linked.nd rfl rfl (by rfl) (pi_list (pv 4))
              (blkOk_by (N := ["lines", "kinds", "kind", "groups", "left", "group", "at", "near", "other"]) (sc := defScope s_linked) (by decide +kernel))
              (fun _ _ _ _ _ => pg_name (i := 8) sc_linked.nd rfl (Or.inl rfl))
              (fun _ _ _ _ _ => pts_one (pt_cmpR op_notIn_seq (pv 8) (pv 7) rfl))
              (fun _ _ _ _ _ => pv 8))
          (pss_one (ps_set (i := 6) sc_linked.nd rfl (.inr rfl) (pe_op op_add (pv 6) pe_int)))))))
        (pss_one (ps_expr (pe_bm PySem.F.plainAttrs_list PySem.F.slot_list_append PySem.F.type_list_append mt_append (pv 3) (pa_cons (pe_callTy call_tuple_of (by rfl) T.b_tuple bt_tuple (pa_cons (pe_callB cr_sortedS (by rfl) T.b_sorted bt_sorted (pa_cons (pv 5) pa_nil)) pa_nil)) pa_nil)))))))
      (pss_one (ps_ret (pv 3)))), ?_⟩
    obtain ⟨a, rfl, ha⟩ := hv
    refine ⟨Nat.zero_le _, fun gl hgl => ⟨_, rfl, a, _, rfl, .inr (.inl (.inl (same_new hgl _ _ ha))), fun l0 hl0 => ⟨_, _, rfl, ?_⟩⟩⟩
    have s0 : Same H (upd (upd H gl (.lst [])) l0 (.lst (ls.map V.str))) := sm_new (same_new hgl) hl0
    have n0 : gl ≠ l0 := ne_of_none upd_same hl0
    refine ⟨fun m σ H1 => ∃ ll ws gs L y5 y6 y7, σ = [some (.ref a), some kv, some (.str (kS c)), some (.ref gl), some (.ref ll), y5, y6, y7, none] ∧ Same H H1 ∧ H ll = none ∧ gl ≠ ll ∧ H1 gl = some (.lst ws) ∧ GroupsAt H1 ws gs ∧ H1 ll = some (.lst (L.map V.str)) ∧ Mid kd c ls gs [] L 0 ∧ L.length = m,
      ⟨ls.length, l0, [], [], ls, none, none, none, rfl, s0, fresh_of (same_new hgl) hl0, n0, by rw [upd_ne n0]; exact upd_same, .nil, upd_same, Mid.start asc, rfl⟩, fun m σ H1 p1 => ?_⟩
    obtain ⟨ll, ws, gs, L, y5, y6, y7, rfl, sm, hll, ngl, hg1, gat, hl1, mid, hm⟩ := p1
    have lnL : ∀ z, z ∈ L → Line z := fun z hz => ln z (mid.sub (by simpa using hz))
    have hlen := mid.len
    refine ⟨_, rfl, Nat.zero_le _, fun e0 he0 => ?_⟩
    have sm1 : Same H (upd H1 e0 (.lst [])) := sm_new sm he0
    have hl2 : (upd H1 e0 (.lst [])) ll = some (.lst (L.map V.str)) := by rw [upd_ne (ne_of_none hl1 he0)]; exact hl1
    have hg2 : (upd H1 e0 (.lst [])) gl = some (.lst ws) := by rw [upd_ne (ne_of_none hg1 he0)]; exact hg1
    have gat2 : GroupsAt (upd H1 e0 (.lst [])) ws gs := gat.tups (tups_new he0)
    refine ⟨.list (strsD L), .list (strsD []), .lst (.inl (.inl hl2)) (strs_dp L), .lst (.inl (.inl upd_same)) .nil, (strs_shaped lnL).1, rfl, _, rfl, ?_⟩
    cases L with
    | nil =>
      refine iteF ⟨_, rfl, q _ gl ws gs sm1 hg2 gat2 mid.linked⟩
    | cons p L =>
      refine iteT ⟨_, fun _ _ h => h, ?_⟩
      refine ⟨_, rfl, .inl ⟨rfl, _, .inl (.inl hl2)⟩, ll, _, 0, 0, .str p, rfl, rfl, hl2, by decide, by decide, seqIx (i := 0) (by simp), rfl, ?_⟩
      have hp1 : (upd (upd H1 e0 (.lst [])) ll (.lst (((p :: L).map V.str).eraseIdx 0))) ll = some (.lst (L.map V.str)) := upd_same
      have sm2 := sm_grow (o := .lst (((p :: L).map V.str).eraseIdx 0)) hll sm1
      have hg3 : (upd (upd H1 e0 (.lst [])) ll (.lst (((p :: L).map V.str).eraseIdx 0))) gl = some (.lst ws) := by rw [upd_ne ngl]; exact hg2
      have gat3 := gat2.tups (tups_lst (o := .lst (((p :: L).map V.str).eraseIdx 0)) hl2)
      generalize hX : upd (upd H1 e0 (.lst [])) ll (.lst (((p :: L).map V.str).eraseIdx 0)) = H2 at hp1 sm2 hg3 gat3
      refine ⟨by show 1 ≤ sizeLine; decide, fun gp hgp => ?_⟩
      refine ⟨by show 2 ≤ sizeLine; decide, fun t ht => ⟨t, _, rfl, .inl (.inl upd_same), rfl, _, _, rfl, _, _, rfl, rfl, ?_⟩⟩
      have sm3 : Same H (upd H2 gp (.lst [.str p])) := sm_new sm2 hgp
      have sm4 := sm_new (o := .tup [.ref gp, .int 0]) sm3 ht
      have ggp : gl ≠ gp := ne_of_none hg3 hgp
      have lgp : ll ≠ gp := ne_of_none hp1 hgp
      have tt : Tups H2 (upd (upd H2 gp (.lst [.str p])) t (.tup [.ref gp, .int 0])) := (tups_new hgp).trans (tups_new ht)
      have g4 : (upd (upd H2 gp (.lst [.str p])) t (.tup [.ref gp, .int 0])) gl = some (.lst ws) := (same_new ht) _ _ ((same_new hgp) _ _ hg3)
      have l4 : (upd (upd H2 gp (.lst [.str p])) t (.tup [.ref gp, .int 0])) ll = some (.lst (L.map V.str)) := (same_new ht) _ _ ((same_new hgp) _ _ hp1)
      have p4 : (upd (upd H2 gp (.lst [.str p])) t (.tup [.ref gp, .int 0])) gp = some (.lst ([p].map V.str)) := (same_new ht) _ _ upd_same
      generalize hX4 : upd (upd H2 gp (.lst [.str p])) t (.tup [.ref gp, .int 0]) = H4 at sm4 tt g4 l4 p4
      have hgp0 : H gp = none := fresh_of sm2 hgp
      refine ⟨fun m2 σ H5 => ∃ ll G L' at' y7, σ = [some (.ref a), some kv, some (.str (kS c)), some (.ref gl), some (.ref ll), some (.ref gp), some (.int (at' : Nat)), y7, none] ∧ Same H H5 ∧ H ll = none ∧ gl ≠ ll ∧ ll ≠ gp ∧ H5 gl = some (.lst ws) ∧ GroupsAt H5 ws gs ∧ H5 ll = some (.lst (L'.map V.str)) ∧ H5 gp = some (.lst (G.map V.str)) ∧ Mid kd c ls gs G L' at' ∧ at' ≤ G.length ∧ G ≠ [] ∧ L'.length < m ∧ m2 + at' = 8,
        ⟨8, ll, [p], L, 0, y7, rfl, sm4, hll, ngl, lgp, g4, gat3.tups tt, l4, p4, mid.pop, Nat.zero_le _, by simp, by simp at hm; omega, rfl⟩, fun m2 σ H5 p5 => ?_⟩
      obtain ⟨ll, G, L', at', y7, rfl, sm5, hll, ngl, lgp, g5, gat5, l5, p5, mid5, hat, neG, hL', hm2⟩ := p5
      have len5 := mid5.len
      refine ⟨_, rfl, _, rfl, _, _, rfl, .inl ⟨_, .inl (.inl p5), rfl⟩, _, _, rfl, rfl, _, rfl, ?_⟩
      have elen : ((G.map V.str).length : Int) = (G.length : Nat) := by rw [List.length_map]
      rw [elen]
      by_cases lt : at' < G.length
      · rw [decide_eq_true (show ((at' : Nat) : Int) < (G.length : Nat) by omega)]
        refine iteT ⟨_, fun _ _ h => h, ?_⟩
        obtain ⟨x, hx⟩ : ∃ x, G[at']? = some x := ⟨G[at'], List.getElem?_eq_getElem lt⟩
        have mx : x ∈ G := List.mem_of_getElem? hx
        have mid6 := mid5.turn sy hx
        -- near
        refine ⟨_, rfl, ll, rfl, ⟨_, .inl (.inl l5)⟩, fun D hD => ?_⟩
        refine loop_it (walk_list (xs := L'.map V.str)) (LcI H5 D fun i acc _ => acc = ((L'.take i).filter fun b => decide (kd x b = c)).map V.str) (LcI.start hD (by simp)) (fun i H6 _ p6 => ?_) (fun i y H6o H6 hi p6 hy => ?_) fun H6 p6 => ?_
        · obtain ⟨acc, _, sm6, _⟩ := p6
          exact .inl (.inl (sm6 _ _ l5))
        · obtain ⟨acc, hDa, sm6, ea⟩ := p6
          obtain ⟨rfl, hy⟩ := hy
          obtain ⟨b, hb, rfl⟩ := strs_at hy
          have mb : b ∈ L' := List.mem_of_getElem? hb
          have nxb : x ≠ b := fun e => (List.nodup_append.mp (mid5.nodup asc.nodup)).2.2 x mx b mb e
          obtain ⟨d, kvs, rfl, hd, has⟩ := hk
          have hd6 := (sm5.trans sm6) _ _ hd
          have hgv : Has kd kvs x b := has x b (mid5.sub (List.mem_append_left _ mx)) (mid5.sub (List.mem_append_right _ mb)) nxb
          refine ⟨rfl, _, rfl, _, rfl, _, rfl, gp, _, _, .str x, rfl, rfl, .inl (.inl (sm6 _ _ p5)), atI_nat (by rw [List.getElem?_map, hx]; rfl), _, rfl, by show 2 ≤ sizeLine; decide, fun t2 ht2 => ?_⟩
          have dg : DGet (upd H6 t2 (.tup [.str x, .str b])) d (.ref t2) (some (.str (kS (kd x b)))) := by
            have z : DGet (upd H6 t2 (.tup [.str x, .str b])) d (.ref t2) (valV kvs (kk x b)) := DGet.t (k := kk x b) (same_new ht2 _ _ hd6) upd_same
            rw [show valV kvs (kk x b) = some (.str (kS (kd x b))) from hgv] at z
            exact z
          refine ⟨d, _, rfl, dg, _, rfl, rfl, _, rfl, ?_⟩
          have hD7 : (upd H6 t2 (.tup [.str x, .str b])) D = some (.lst acc) := same_new ht2 _ _ hDa
          have sm7 : Same H5 (upd H6 t2 (.tup [.str x, .str b])) := sm_new sm6 ht2
          have eb : decide (V.str (kS (kd x b)) = V.str (kS c)) = decide (kd x b = c) := kS_eq _ _
          have e5 := filter_take_succ (p := fun b => decide (kd x b = c)) hb
          refine ifb (fun h => ?_) (fun h => ?_)
          · have h' : decide (kd x b = c) = true := eb.symm.trans h
            refine ⟨_, rfl, acc, hD7, ?_, LcI.push hD sm7 ?_⟩
            · rw [ea, List.length_map]
              have q1 := List.length_filter_le (fun b => decide (kd x b = c)) (L'.take i)
              have q2 := List.length_take_le' i L'
              exact small_of (m := 8) (by omega)
            · rw [e5, h', if_pos rfl, List.map_append, ← ea]
              rfl
          · have h' : decide (kd x b = c) = false := eb.symm.trans h
            refine ⟨acc, hD7, sm7, ?_⟩
            show acc = List.map V.str (List.filter _ (List.take (i + 1) L'))
            rw [e5, h', if_neg Bool.false_ne_true, List.append_nil]
            exact ea
        · obtain ⟨acc, hDa, sm6, ea⟩ := p6
          rw [List.length_map, List.take_length] at ea
          have hD0 : H D = none := fresh_of sm5 hD
          have gpD : gp ≠ D := ne_of_none p5 hD
          have llD : ll ≠ D := ne_of_none l5 hD
          have p6 := sm6 _ _ p5
          have l6 := sm6 _ _ l5
          refine ⟨_, rfl, .inl ⟨rfl, _, .inl (.inl p6)⟩, _, rfl, gp, D, _, _, rfl, rfl, p6, hDa, ?_, ?_⟩
          · rw [ea, List.length_map, List.length_map]
            have q1 := List.length_filter_le (fun b => decide (kd x b = c)) L'
            exact small_le (m := 8) (by omega)
          have sm7 := sm_grow (o := .lst (G.map V.str ++ acc)) hgp0 (sm5.trans sm6)
          have p7 : (upd H6 gp (.lst (G.map V.str ++ acc))) gp = some (.lst ((G ++ L'.filter fun b => decide (kd x b = c)).map V.str)) := by
            rw [upd_same, ea, List.map_append]
          have l7 : (upd H6 gp (.lst (G.map V.str ++ acc))) ll = some (.lst (L'.map V.str)) := by rw [upd_ne lgp]; exact l6
          have d7 : (upd H6 gp (.lst (G.map V.str ++ acc))) D = some (.lst ((L'.filter fun b => decide (kd x b = c)).map V.str)) := by rw [upd_ne (Ne.symm gpD), hDa, ea]
          have g7 : (upd H6 gp (.lst (G.map V.str ++ acc))) gl = some (.lst ws) := by rw [upd_ne ggp]; exact sm6 _ _ g5
          have gat7 : GroupsAt (upd H6 gp (.lst (G.map V.str ++ acc))) ws gs := gat5.tups ((sm_tups sm6).trans (tups_lst p6))
          generalize hX7 : upd H6 gp (.lst (G.map V.str ++ acc)) = H7 at sm7 p7 l7 d7 g7 gat7
          -- left
          refine ⟨_, rfl, ll, rfl, ⟨_, .inl (.inl l7)⟩, fun D2 hD2 => ?_⟩
          refine loop_it (walk_list (xs := L'.map V.str)) (LcI H7 D2 fun i acc _ => acc = ((L'.take i).filter fun b => !decide (kd x b = c)).map V.str) (LcI.start hD2 (by simp)) (fun i H8 _ p8 => ?_) (fun i y H8o H8 hi p8 hy => ?_) fun H8 p8 => ?_
          · obtain ⟨acc, _, sm8, _⟩ := p8
            exact .inl (.inl (sm8 _ _ l7))
          · obtain ⟨acc, hDa, sm8, ea⟩ := p8
            obtain ⟨rfl, hy⟩ := hy
            obtain ⟨b, hb, rfl⟩ := strs_at hy
            have mb : b ∈ L' := List.mem_of_getElem? hb
            refine ⟨rfl, _, rfl, _, rfl, D, _, rfl, .inl (.inl (.inl (sm8 _ _ d7))), rfl, flat_strs _, _, rfl, ?_⟩
            have eb : (!inV (.str b) ((L'.filter fun b => decide (kd x b = c)).map V.str)) = !decide (kd x b = c) := by
              rw [inV_strs]
              congr 1
              by_cases e : kd x b = c
              · rw [decide_eq_true e]
                exact decide_eq_true (List.mem_filter.mpr ⟨mb, decide_eq_true e⟩)
              · rw [decide_eq_false e]
                exact decide_eq_false fun z => e (of_decide_eq_true (List.mem_filter.mp z).2)
            have e5 := filter_take_succ (p := fun b => !decide (kd x b = c)) hb
            refine ifb (fun h => ?_) (fun h => ?_)
            · have h' : (!decide (kd x b = c)) = true := eb.symm.trans h
              refine ⟨_, rfl, acc, hDa, ?_, LcI.push hD2 sm8 ?_⟩
              · rw [ea, List.length_map]
                have q1 := List.length_filter_le (fun b => !decide (kd x b = c)) (L'.take i)
                have q2 := List.length_take_le' i L'
                exact small_of (m := 8) (by omega)
              · rw [e5, h', if_pos rfl, List.map_append, ← ea]
                rfl
            · have h' : (!decide (kd x b = c)) = false := eb.symm.trans h
              refine ⟨acc, hDa, sm8, ?_⟩
              show acc = List.map V.str (List.filter _ (List.take (i + 1) L'))
              rw [e5, h', if_neg Bool.false_ne_true, List.append_nil]
              exact ea
          · obtain ⟨acc2, hDa2, sm8, ea2⟩ := p8
            rw [List.length_map, List.take_length] at ea2
            have q1 := List.length_filter_le (fun b => !decide (kd x b = c)) L'
            refine ⟨_, rfl, _, _, rfl, rfl, m2 - 1, by omega, D2, _, _, at' + 1, _, rfl, sm7.trans sm8, fresh_of sm7 hD2, ne_of_none g7 hD2, Ne.symm (ne_of_none p7 hD2), sm8 _ _ g7, gat7.tups (sm_tups sm8), by rw [hDa2, ea2], sm8 _ _ p7, mid6, ?_, ?_, by omega, by omega⟩
            · rw [List.length_append]; omega
            · intro e
              exact neG (List.append_eq_nil_iff.mp e).1
      · rw [decide_eq_false (show ¬ ((at' : Nat) : Int) < (G.length : Nat) by omega)]
        refine iteF ?_
        refine ⟨_, rfl, .inl ⟨rfl, _, .inl (.inl g5)⟩, _, rfl, gp, G, rfl, .inl (.inl p5), by omega, fun ys c5 py sy5 hc5 => ?_⟩
        have ey := sorted_is py sy5
        subst ey
        refine ⟨c5, _, rfl, .inl ⟨.inl (.inl upd_same), fun u hu => ?_⟩⟩
        have sm6 : Same H5 (upd (upd H5 c5 (.lst ((srt G).map V.str))) u (.tup ((srt G).map V.str))) := sm_new (same_new hc5) hu
        have g6 := sm6 _ _ g5
        have l6 := sm6 _ _ l5
        have gat6 := gat5.tups (sm_tups sm6)
        have u6 : LinesAt (upd (upd H5 c5 (.lst ((srt G).map V.str))) u (.tup ((srt G).map V.str))) (.ref u) (srt G) := ⟨u, rfl, upd_same⟩
        generalize hX6 : upd (upd H5 c5 (.lst ((srt G).map V.str))) u (.tup ((srt G).map V.str)) = H6 at sm6 g6 l6 gat6 u6
        have gl0 : H gl = none := hgl
        have wl : ws.length ≤ 8 := by
          rw [Paired.length gat6]
          have h1 := mid5.perm.length_eq
          have h2 : gs.length ≤ gs.flatten.length := by
            have : ∀ l : List (List Str), (∀ g, g ∈ l → g ≠ []) → l.length ≤ l.flatten.length := by
              intro l
              induction l with
              | nil => intro _; exact Nat.zero_le _
              | cons g l ih =>
                intro h
                rw [List.flatten_cons, List.length_append, List.length_cons]
                have := ih fun y hy => h y (List.mem_cons_of_mem _ hy)
                have : 0 < g.length := List.length_pos_iff.mpr (h g List.mem_cons_self)
                omega
            exact this gs fun g hg => (mid5.each g hg).2.1
          rw [List.length_append] at h1
          omega
        refine ⟨gl, ws, .ref u, rfl, rfl, g6, small_of (m := 8) wl, L'.length, hL', ll, ws ++ [.ref u], gs ++ [srt G], L', _, _, _, rfl, sm_grow gl0 (sm5.trans sm6), hll, ngl, upd_same, ?_, by rw [upd_ne (Ne.symm ngl)]; exact l6, mid5.close sy asc.nodup (by omega) neG, rfl⟩
        exact paired_snoc (gat6.tups (tups_lst g6)) (u6.tups (tups_lst g6))
end
end Fm
set_option maxHeartbeats 2000000
namespace Fm
open PySem PySem.Spec PyProof.Rows L2 FmM
/-! ### what plan_for answers -/
def PlanFor (kd : Str → Str → Bool) (ls : List Str) : Option (Plan Str) → Prop
  | none => HasFour kd ls
  | some p => p.Good ∧ p.lines.Perm ls ∧ Fits kd p ∧ Flat LtS p ∧ ¬ HasFour kd ls ∧ ∀ k, p.isK k → ¬ Conn kd (!k) ls
theorem planFor_one (kd : Str → Str → Bool) (z : Str) : PlanFor kd [z] (some (.leaf z)) := by
  refine ⟨by rw [Plan.Good]; trivial, by rw [Plan.lines], by rw [Fits]; trivial, by rw [Flat]; trivial, ?_, fun k h => h.elim⟩
  rintro ⟨w, x, y, u, f⟩
  have e1 : w = z := by simpa using f.mw
  have e2 : x = z := by simpa using f.mx
  have := f.nd
  rw [e1, e2] at this
  simp at this
theorem paired_pairwise {α β : Type} {R : α → β → Prop} {S : α → α → Prop} {S' : β → β → Prop} (h : ∀ g p k q, R g p → R k q → S g k → S' p q) : ∀ {gs : List α} {ps : List β}, Paired R gs ps → gs.Pairwise S → ps.Pairwise S'
  | _, _, .nil, _ => List.Pairwise.nil
  | _, _, .cons r t, pw => by
    obtain ⟨p1, p2⟩ := List.pairwise_cons.mp pw
    refine List.pairwise_cons.mpr ⟨fun q hq => ?_, paired_pairwise h t p2⟩
    obtain ⟨i, hi⟩ := List.getElem?_of_mem hq
    obtain ⟨k, hk, rk⟩ := paired_get' t hi
    exact h _ _ _ _ r rk (p1 k (List.mem_of_getElem? hk))
theorem paired_mem' {α β : Type} {R : α → β → Prop} {gs : List α} {ps : List β} (h : Paired R gs ps) {p : β} (hp : p ∈ ps) : ∃ g, g ∈ gs ∧ R g p := by
  obtain ⟨i, hi⟩ := List.getElem?_of_mem hp
  obtain ⟨g, hg, r⟩ := paired_get' h hi
  exact ⟨g, List.mem_of_getElem? hg, r⟩
theorem paired_mem {α β : Type} {R : α → β → Prop} {gs : List α} {ps : List β} (h : Paired R gs ps) {g : α} (hg : g ∈ gs) : ∃ p, p ∈ ps ∧ R g p := by
  obtain ⟨i, hi⟩ := List.getElem?_of_mem hg
  obtain ⟨p, hp, r⟩ := paired_get h hi
  exact ⟨p, List.mem_of_getElem? hp, r⟩
theorem parts_perm {kd : Str → Str → Bool} : ∀ {gs : List (List Str)} {ps : List (Plan Str)}, Paired (fun g p => PlanFor kd g (some p)) gs ps → (linesL ps).Perm gs.flatten
  | _, _, .nil => by rw [linesL]; exact List.Perm.refl _
  | _, _, .cons r t => by
    rw [linesL, List.flatten_cons]
    exact r.2.1.append (parts_perm t)
section
variable {kd : Str → Str → Bool} {k : Bool} {ls : List Str} {gs : List (List Str)}
/-- four such lines lie in one group -/
theorem four_group (hs : Sym kd) (L : Linked kd k ls gs) (h : HasFour kd ls) : ∃ g, g ∈ gs ∧ HasFour kd g := by
  obtain ⟨w, x, y, z, f⟩ := h
  obtain ⟨g, hg, hw⟩ := L.groups.mem.mp f.mw
  obtain ⟨c, p4⟩ := f.four
  obtain ⟨i, hi⟩ := List.getElem?_of_mem hg
  have no : ∀ a b, a ∈ ls → b ∈ ls → decide (a ∈ g) = true → decide (b ∈ g) = false → kd a b = !k := fun a b ha hb sa sb => by
    have ag : a ∈ g := by simpa using sa
    have bg : b ∉ g := by simpa using sb
    obtain ⟨h, hh, hbh⟩ := L.groups.mem.mp hb
    obtain ⟨j, hj⟩ := List.getElem?_of_mem hh
    obtain ⟨l1, e1⟩ := List.getElem?_eq_some_iff.mp hi
    obtain ⟨l2, e2⟩ := List.getElem?_eq_some_iff.mp hj
    rcases Nat.lt_trichotomy i j with l | e | l
    · have := List.pairwise_iff_getElem.mp L.groups.cross i j l1 l2 l
      rw [e1, e2] at this
      exact this a b ag hbh
    · subst e
      rw [hi] at hj
      cases hj
      exact absurd hbh bg
    · have := List.pairwise_iff_getElem.mp L.groups.cross j i l2 l1 l
      rw [e1, e2] at this
      rw [hs a b]
      exact this b a hbh ag
  obtain ⟨e1, e2, e3⟩ := four_side (S := fun a => decide (a ∈ g)) hs f.mw f.mx f.my f.mz p4 no
  have dw : decide (w ∈ g) = true := decide_eq_true hw
  refine ⟨g, hg, w, x, y, z, hw, ?_, ?_, ?_, f.nd, f.four⟩
  · exact of_decide_eq_true (e1.symm.trans dw)
  · exact of_decide_eq_true (e2.symm.trans dw)
  · exact of_decide_eq_true (e3.symm.trans dw)
theorem planFor_node (hs : Sym kd) (nd : ls.Nodup) (L : Linked kd (!k) ls gs) (two : 1 < gs.length) {ps : List (Plan Str)} (h : Paired (fun g p => PlanFor kd g (some p)) gs ps) : PlanFor kd ls (some (.node k ps)) := by
  have pl : ps.length = gs.length := (Paired.length h).symm
  refine ⟨?_, ?_, ?_, ?_, ?_, fun j hj => ?_⟩
  · rw [Plan.Good]
    refine ⟨by omega, goodL_of fun p hp => ?_⟩
    obtain ⟨g, _, r⟩ := paired_mem' h hp
    exact r.1
  · rw [Plan.lines]
    exact (parts_perm h).trans L.groups.perm
  · rw [Fits]
    refine ⟨fitsL_of fun p hp => ?_, cross_of (paired_pairwise (fun g p k q rp rq c a b ha hb => ?_) h L.groups.cross)⟩
    · obtain ⟨g, _, r⟩ := paired_mem' h hp
      exact r.2.2.1
    · have := c a b (rp.2.1.mem_iff.mp ha) (rq.2.1.mem_iff.mp hb)
      rw [this, Bool.not_not]
  · rw [Flat]
    refine ⟨flatL_of fun p hp => ?_, paired_pairwise (fun g p k q rp rq c a b ha hb => ?_) h L.order⟩
    · obtain ⟨g, hg, r⟩ := paired_mem' h hp
      exact ⟨r.2.2.2.1, fun z => r.2.2.2.2.2 k z (L.groups.conn g hg)⟩
    · exact c a b ⟨rp.2.1.mem_iff.mp ha.1, fun u hu => ha.2 u (rp.2.1.mem_iff.mpr hu)⟩ ⟨rq.2.1.mem_iff.mp hb.1, fun u hu => hb.2 u (rq.2.1.mem_iff.mpr hu)⟩
  · intro hf
    obtain ⟨g, hg, hfg⟩ := four_group hs L hf
    obtain ⟨p, _, r⟩ := paired_mem h hg
    exact r.2.2.2.2.1 hfg
  · have e : k = j := hj
    subst e
    exact L.groups.cut nd two
theorem planFor_none {c : Bool} (L : Linked kd c ls gs) {g : List Str} (hg : g ∈ gs) (h : PlanFor kd g none) : PlanFor kd ls none :=
  HasFour.mono h fun a ha => L.groups.mem.mpr ⟨g, hg, ha⟩
theorem planFor_both (hs : Sym kd) (nd : ls.Nodup) (two : 2 ≤ ls.length) (h : ∀ c, Conn kd c ls) : PlanFor kd ls none := by
  rcases seinsche hs nd two with h' | ⟨c, S, C⟩
  · exact h'
  · exact absurd C (h c S)
/-- one of several groups is smaller -/
theorem Linked.less {c : Bool} (L : Linked kd c ls gs) (two : 1 < gs.length) {g : List Str} (hg : g ∈ gs) : g.length < ls.length ∧ 1 ≤ g.length := by
  have pos : ∀ h, h ∈ gs → 0 < h.length := fun h hh => List.length_pos_iff.mpr (L.groups.ne h hh)
  refine ⟨?_, pos g hg⟩
  obtain ⟨l, r, e⟩ := List.append_of_mem hg
  have := L.groups.perm.length_eq
  rw [e, List.flatten_append, List.flatten_cons, List.length_append, List.length_append] at this
  rw [e, List.length_append, List.length_cons] at two
  have one : ∀ l : List (List Str), (∀ h, h ∈ l → 0 < h.length) → l.length ≤ l.flatten.length := by
    intro l
    induction l with
    | nil => intro _; exact Nat.zero_le _
    | cons h l ih =>
      intro q
      rw [List.flatten_cons, List.length_append, List.length_cons]
      have h1 := ih fun y hy => q y (List.mem_cons_of_mem _ hy)
      have h2 := q h List.mem_cons_self
      omega
  have h1 := one l fun h hh => pos h (by rw [e]; exact List.mem_append_left _ hh)
  have h2 := one r fun h hh => pos h (by rw [e]; exact List.mem_append_right _ (List.mem_cons_of_mem _ hh))
  omega
end
/-! ### an answer in the heap -/
def MayAt (H : Hp) (r : V) : Option (Plan Str) → Prop
  | none => r = .non
  | some p => PlanAt H r p
theorem MayAt.tups {H H' : Hp} {r : V} {o : Option (Plan Str)} (t : Tups H H') (h : MayAt H r o) : MayAt H' r o := by
  cases o with
  | none => exact h
  | some p => exact PlanAt.tups t h
def mayD : Option (Plan Str) → PyData
  | none => .none
  | some p => planD p
theorem MayAt.dp {K : PySem.W.Frag} {H : Hp} {r : V} {o : Option (Plan Str)} (h : MayAt H r o) : Dp K H r (mayD o) := by
  cases o with
  | none =>
    have h : r = .non := h
    rw [h]
    exact .non
  | some p => exact PlanAt.dp h
theorem mays_dp {K : PySem.W.Frag} {H : Hp} : ∀ {vs : List V} {os : List (Option (Plan Str))}, Paired (MayAt H) vs os → DpAll K H vs (os.map mayD)
  | _, _, .nil => .nil
  | _, _, .cons r t => .cons r.dp (mays_dp t)
theorem planD_eqv_none (p : Plan Str) : PyData.eqv (planD p) .none = false := by
  cases p with
  | leaf z => rw [planD]; rfl
  | node k ps => rw [planD]; rfl
theorem any_none : ∀ os : List (Option (Plan Str)), (os.map mayD).any (fun z => PyData.eqv z .none) = os.any Option.isNone
  | [] => rfl
  | o :: os => by
    rw [List.map_cons, List.any_cons, List.any_cons, any_none os]
    cases o with
    | none => rfl
    | some p =>
      show (PyData.eqv (planD p) .none || _) = _
      rw [planD_eqv_none]
      rfl
/-- no None among them -/
theorem all_some {H : Hp} : ∀ {vs : List V} {os : List (Option (Plan Str))}, Paired (MayAt H) vs os → os.any Option.isNone = false → ∃ ps, os = ps.map some ∧ PlansAt H vs ps
  | _, _, .nil, _ => ⟨[], rfl, PlansAt.nil⟩
  | _, _, .cons (b := o) r t, h => by
    rw [List.any_cons, Bool.or_eq_false_iff] at h
    obtain ⟨ps, e, hp⟩ := all_some t h.2
    cases o with
    | none => cases h.1
    | some p => exact ⟨p :: ps, by rw [List.map_cons, e], PlansAt.cons r hp⟩
end Fm
set_option maxHeartbeats 8000000
namespace Fm
open PySem PySem.Spec PyProof.Rows L2 FmM
theorem mays_dok : ∀ {os : List (Option (Plan Str))}, (∀ p, some p ∈ os → p.Good ∧ (∀ z, z ∈ p.lines → Line z) ∧ p.lines.length ≤ 8) → DokA 16 (os.map mayD)
  | [], _ => .nil
  | none :: os, h => .cons ⟨rfl, Nat.zero_le _⟩ (mays_dok fun p hp => h p (List.mem_cons_of_mem _ hp))
  | some p :: os, h => by
    obtain ⟨h1, h2, h3⟩ := h p List.mem_cons_self
    exact .cons ((plan_dok h1 h2).mono (by omega)) (mays_dok fun p hp => h p (List.mem_cons_of_mem _ hp))
theorem paired_map_some {α β : Type} {R : α → Option β → Prop} : ∀ {gs : List α} {ps : List β}, Paired R gs (ps.map some) → Paired (fun g p => R g (some p)) gs ps
  | _, [], .nil => .nil
  | _, _ :: _, .cons r t => .cons r (paired_map_some t)
section
variable {P : Program} {w : World} {K : PySem.W.Frag} {mg : Str → Option Value} {base : Heap}
theorem sc_plan_for : FnScope ["lines", "kinds", "kind", "contrary", "groups", "parts", "group"] ["lines", "kinds"] (defScope s_plan_for) := ⟨rfl, rfl, rfl, by decide +kernel, rfl, by decide +kernel, by decide +kernel⟩
def spPlanFor (n : Nat) : Sp := fun vs H Q _ => ∃ (v kv : V) (kd : Str → Str → Bool) (ls : List Str), vs = [v, kv] ∧ LinesAt H v ls ∧ KindsAt H kv kd ls ∧ Asc ls ∧ (∀ z, z ∈ ls → Line z) ∧ Sym kd ∧ 1 ≤ ls.length ∧ ls.length ≤ n ∧ ls.length ≤ 8 ∧
  ∀ H' r o, Same H H' → MayAt H' r o → PlanFor kd ls o → Q r H'
theorem c_plan_for_n (T : Txt K mg) : ∀ n, Cal P w K mg base (n + 2) "plan_for" (spPlanFor n) := by
  intro n
  induction n with
  | zero =>
    refine cal_of T.d_plan_for sc_plan_for (fun vs H Q E h => ?_) (fun f cdv A outer s H vs Q E hr h => ?_)
    · obtain ⟨v, kv, kd, ls, rfl, _⟩ := h
      rfl
    · obtain ⟨v, kv, kd, ls, rfl, _, _, _, _, _, h1, h0, _⟩ := h
      omega
  | succ n ih =>
    refine cal_of T.d_plan_for sc_plan_for (fun vs H Q E h => ?_) (fun f cdv A outer s H vs Q E hr h => ?_)
    · obtain ⟨v, kv, kd, ls, rfl, _⟩ := h
      rfl
    · obtain ⟨v, kv, kd, ls, rfl, hv, hk, asc, ln, sy, h1, hn, h8, q⟩ := h
      obtain ⟨tl, hl⟩ := T.k_LOW
      obtain ⟨th, hh⟩ := T.k_HIGH
      refine ⟨_, pss_cons (ps_if (pt_cmpR op_eq (pe_callB call_len (by rfl) T.b_len bt_len (pa_cons (pv 0) pa_nil)) pe_int (nomark _)) (pss_one (ps_ret (pe_ix ix_tup (pv 0) pe_int (fun _ _ => rfl)))) pss_nil)
        (pss_cons (ps_for PassesOwn.never rfl (pi_list (pe_lst (pa_cons (pe_tup (pa_cons (pe_glob (v := .str "low") (by rfl) hl ⟨_, rfl⟩) (pa_cons (pe_glob (v := .str "high") (by rfl) hh ⟨_, rfl⟩) pa_nil))) (pa_cons (pe_tup (pa_cons (pe_glob (v := .str "high") (by rfl) hh ⟨_, rfl⟩) (pa_cons (pe_glob (v := .str "low") (by rfl) hl ⟨_, rfl⟩) pa_nil))) pa_nil))))
            (pg_tup rfl (pgs_cons (pg_name (i := 2) sc_plan_for.nd rfl (.inl rfl)) (pgs_cons (pg_name (i := 3) sc_plan_for.nd rfl (.inl rfl)) pgs_nil)))
          (pss_cons (ps_set (i := 4) sc_plan_for.nd rfl (.inl rfl) (pe_d (c_linked T) hr (by omega) (pa_cons (pv 0) (pa_cons (pv 1) (pa_cons (pv 3) pa_nil)))))
          (pss_one (ps_if (pt_cmpR op_gt (pe_callB call_len (by rfl) T.b_len bt_len (pa_cons (pv 4) pa_nil)) pe_int (nomark _))
            (pss_cons (ps_set (i := 5) sc_plan_for.nd rfl (.inl rfl) (pe_callTy call_tuple_of (by rfl) T.b_tuple bt_tuple (pa_cons (pe_lc (own := [("group", 6)]) (g := gName 6) (tt := tYes) rfl sc_plan_for.nd (pi_list (pv 4))
                (blkOk_by (N := ["lines", "kinds", "kind", "contrary", "groups", "parts", "group"]) (sc := defScope s_plan_for) (by decide +kernel))
                (fun _ _ _ _ _ => pg_name (i := 6) sc_plan_for.nd rfl (Or.inl rfl)) (fun _ _ _ _ _ => pts_nil)
                (fun _ _ _ _ _ => pe_d ih hr (by omega) (pa_cons (pv 6) (pa_cons (pv 1) pa_nil)))) pa_nil)))
            (pss_one (ps_ret (pe_ifExp (pt_cmpR (op_inTD (room65 hr)) pe_non (pv 5) rfl) pe_non (pe_tup (pa_cons (pv 2) (pa_cons (pv 5) pa_nil))))))) pss_nil))))
        (pss_one (ps_ret pe_non))), ?_⟩
      obtain ⟨a, rfl, ha⟩ := hv
      have sa : SqT K H a (ls.map V.str) := .inl (.inl ha)
      refine ⟨_, rfl, _, _, rfl, .inr ⟨_, sa, rfl⟩, rfl, _, rfl, ?_⟩
      have elen : ((ls.map V.str).length : Int) = (ls.length : Nat) := by rw [List.length_map]
      rw [elen]
      by_cases one : ls.length = 1
      · refine ifb (fun _ => ?_) (fun h => ?_)
        · obtain ⟨z, rfl⟩ := List.length_eq_one_iff.mp one
          refine ⟨_, rfl, a, _, 0, .str z, rfl, rfl, sa, atI_nat (j := 0) rfl, q _ _ (some (.leaf z)) (Same.refl _) ?_ (planFor_one kd z)⟩
          show PlanAt _ _ _
          rw [PlanAt]
        · rw [one] at h
          exact absurd h (by decide)
      · refine ifb (fun h => ?_) (fun _ => ?_)
        · have : V.int ((ls.length : Nat) : Int) = V.int 1 := of_decide_eq_true h
          have := V.int.inj this
          omega
        have two : 2 ≤ ls.length := by omega
        refine ⟨by show 2 ≤ sizeLine; decide, fun t1 ht1 => ⟨by show 2 ≤ sizeLine; decide, fun t2 ht2 => ⟨by show 2 ≤ sizeLine; decide, fun l0 hl0 => ?_⟩⟩⟩
        have s1 : Same H (upd (upd (upd H t1 (.tup [.str "low", .str "high"])) t2 (.tup [.str "high", .str "low"])) l0 (.lst [.ref t1, .ref t2])) := sm_new (sm_new (same_new ht1) ht2) hl0
        have e1 : (upd (upd (upd H t1 (.tup [.str "low", .str "high"])) t2 (.tup [.str "high", .str "low"])) l0 (.lst [.ref t1, .ref t2])) t1 = some (.tup [.str (kS true), .str (kS false)]) := same_new hl0 _ _ (same_new ht2 _ _ upd_same)
        have e2 : (upd (upd (upd H t1 (.tup [.str "low", .str "high"])) t2 (.tup [.str "high", .str "low"])) l0 (.lst [.ref t1, .ref t2])) t2 = some (.tup [.str (kS false), .str (kS true)]) := same_new hl0 _ _ upd_same
        have e0 : (upd (upd (upd H t1 (.tup [.str "low", .str "high"])) t2 (.tup [.str "high", .str "low"])) l0 (.lst [.ref t1, .ref t2])) l0 = some (.lst [.ref t1, .ref t2]) := upd_same
        generalize upd (upd (upd H t1 (.tup [.str "low", .str "high"])) t2 (.tup [.str "high", .str "low"])) l0 (.lst [.ref t1, .ref t2]) = H1 at s1 e1 e2 e0
        refine ⟨l0, rfl, ⟨_, .inl (.inl e0)⟩, ?_⟩
        refine for_list (xs := [.ref t1, .ref t2]) (fun i σ H2 => ∃ y2 y3 y4, σ = [some (.ref a), some kv, y2, y3, y4, none, none] ∧ Same H1 H2 ∧ ∀ j, j < i → Conn kd (!decide (j = 0)) ls) ⟨none, none, none, rfl, Same.refl _, fun j hj => absurd hj (Nat.not_lt_zero _)⟩
          (fun i σ H2 _ p2 => ?_) (fun i x σ H2 hx p2 => ?_) (fun σ H2 p2 => ?_)
        · obtain ⟨y2, y3, y4, rfl, sm, _⟩ := p2
          exact .inl (.inl (sm _ _ e0))
        · obtain ⟨y2, y3, y4, rfl, sm, con⟩ := p2
          obtain ⟨k, t, rfl, ht, hki⟩ : ∃ k t, x = .ref t ∧ H2 t = some (.tup [.str (kS k), .str (kS (!k))]) ∧ k = decide (i = 0) := by
            match i, hx with
            | 0, hx => exact ⟨true, t1, by simpa using hx.symm, sm _ _ e1, rfl⟩
            | 1, hx => exact ⟨false, t2, by simpa using hx.symm, sm _ _ e2, rfl⟩
            | i + 2, hx => simp at hx
          refine ⟨t, _, rfl, .inl (.inl ht), rfl, _, _, rfl, _, _, rfl, rfl, ?_⟩
          have sm2 : Same H H2 := s1.trans sm
          refine ⟨_, rfl, _, rfl, _, rfl, _, kv, kd, !k, ls, rfl, ⟨a, rfl, sm2 _ _ ha⟩, hk.same sm2, asc, ln, sy, h8, fun H3 g ws gs s3 hg gat L => ?_⟩
          have sm3 := sm2.trans s3
          have wl : ws.length = gs.length := Paired.length gat
          refine ⟨_, rfl, _, _, rfl, .inl ⟨_, .inl (.inl hg), rfl⟩, _, _, rfl, rfl, _, rfl, ?_⟩
          by_cases many : 1 < gs.length
          · rw [decide_eq_true (show (1 : Int) < ((ws.length : Nat) : Int) by omega)]
            refine iteT ⟨_, rfl, g, rfl, ⟨_, .inl (.inl hg)⟩, fun D hD => ?_⟩
            refine loop_it (walk_list (xs := ws)) (LcI H3 D fun i acc H' => ∃ os, Paired (MayAt H') acc os ∧ Paired (PlanFor kd) (gs.take i) os) (LcI.start hD ⟨[], .nil, .nil⟩) (fun i H4 _ p4 => ?_) (fun i x H4o H4 hi p4 hy => ?_) fun H4 p4 => ?_
            · obtain ⟨acc, _, sm4, _⟩ := p4
              exact .inl (.inl (sm4 _ _ hg))
            · obtain ⟨acc, hDa, sm4, os, po, pf⟩ := p4
              obtain ⟨rfl, hx⟩ := hy
              obtain ⟨gi, hgi, hxg⟩ := paired_get gat hx
              have hmem : gi ∈ gs := List.mem_of_getElem? hgi
              obtain ⟨l1, l2⟩ := L.less many hmem
              have sub : ∀ z, z ∈ gi → z ∈ ls := fun z hz => L.groups.mem.mpr ⟨gi, hmem, hz⟩
              refine ⟨rfl, kept ⟨_, rfl, _, rfl, x, kv, kd, gi, rfl, hxg.tups (sm_tups sm4), (hk.same (sm3.trans sm4)).sub sub, L.asc gi hmem, fun z hz => ln z (sub z hz), sy, l2, by omega, by omega, fun H5 r o s5 hm hp => ?_⟩⟩
              refine ⟨acc, s5 _ _ hDa, ?_, LcI.push hD (sm4.trans s5) ⟨os ++ [o], ?_, ?_⟩⟩
              · rw [Paired.length po, ← Paired.length pf, List.length_take]
                have := L.groups.perm.length_eq
                have q2 : ws.length ≤ 8 := by
                  have : ∀ l : List (List Str), (∀ h, h ∈ l → h ≠ []) → l.length ≤ l.flatten.length := by
                    intro l
                    induction l with
                    | nil => intro _; exact Nat.zero_le _
                    | cons h l ih =>
                      intro q
                      rw [List.flatten_cons, List.length_append, List.length_cons]
                      have h1 := ih fun y hy => q y (List.mem_cons_of_mem _ hy)
                      have h2 : 0 < h.length := List.length_pos_iff.mpr (q h List.mem_cons_self)
                      omega
                  have := this gs L.groups.ne
                  omega
                exact small_of (m := 8) (by omega)
              · have tt : Tups H4 (upd H5 D (.lst (acc ++ [r]))) := (sm_tups s5).trans (tups_lst (s5 _ _ hDa))
                exact paired_snoc (Paired.mapP po fun _ _ z => z.tups tt) (hm.tups (tups_lst (s5 _ _ hDa)))
              · rw [List.take_add_one, hgi]
                exact paired_snoc pf hp
            · obtain ⟨acc, hDa, sm4, os, po, pf⟩ := p4
              rw [List.take_of_length_le (by omega)] at pf
              refine ⟨D, acc, rfl, .inl ⟨.inl (.inl hDa), fun t3 ht3 => ?_⟩⟩
              have tt : Tups H4 (upd H4 t3 (.tup acc)) := tups_new ht3
              have po3 : Paired (MayAt (upd H4 t3 (.tup acc))) acc os := Paired.mapP po fun _ _ z => z.tups tt
              have sm5 : Same H (upd H4 t3 (.tup acc)) := (sm3.trans sm4).trans (same_new ht3)
              have dok : DokA 16 (os.map mayD) := mays_dok fun p hp => by
                obtain ⟨gi, hgi, r⟩ := paired_mem' pf hp
                have l8 := (L.less many hgi).1
                exact ⟨r.1, fun z hz => ln z (L.groups.mem.mpr ⟨gi, hgi, r.2.1.mem_iff.mp hz⟩), by rw [r.2.1.length_eq]; omega⟩
              refine ⟨_, rfl, .none, os.map mayD, .non, .tup (.inl (.inl upd_same)) (mays_dp po3), rfl, (Dok.tup dok).shaped (by decide), _, rfl, ?_⟩
              rw [any_none]
              cases hany : os.any Option.isNone with
              | true =>
                obtain ⟨o, ho, hn⟩ := List.any_eq_true.mp hany
                have eo : o = none := by simpa using hn
                subst eo
                obtain ⟨gi, hgi, r⟩ := paired_mem' pf ho
                exact iteT (q _ _ none sm5 rfl (planFor_none L hgi r))
              | false =>
                obtain ⟨ps, rfl, hps⟩ := all_some po3 hany
                refine iteF ⟨_, rfl, _, rfl, by show 2 ≤ sizeLine; decide, fun u hu => ?_⟩
                refine q _ _ (some (.node k ps)) (sm5.trans (same_new hu)) ?_ (planFor_node sy asc.nodup L many (paired_map_some pf))
                show PlanAt _ _ _
                rw [PlanAt]
                exact ⟨u, t3, acc, rfl, upd_same, same_new hu _ _ upd_same, hps.tups (tups_new hu)⟩
          · rw [decide_eq_false (show ¬ (1 : Int) < ((ws.length : Nat) : Int) by omega)]
            refine iteF ⟨_, _, _, rfl, sm.trans s3, fun j hj => ?_⟩
            rcases Nat.lt_succ_iff_lt_or_eq.mp hj with h | h
            · exact con j h
            · subst h
              rw [← hki]
              exact L.groups.one (by omega)
        · obtain ⟨y2, y3, y4, rfl, sm, con⟩ := p2
          refine q _ _ none (s1.trans sm) rfl (planFor_both sy asc.nodup two fun c => ?_)
          cases c with
          | true => exact con 1 (show 1 < 2 by decide)
          | false => exact con 0 (show 0 < 2 by decide)
theorem c_plan_for (T : Txt K mg) : Cal P w K mg base 10 "plan_for" (spPlanFor 8) := c_plan_for_n T 8
end
end Fm
set_option maxHeartbeats 8000000
namespace Fm
open PySem PySem.Spec PyProof.Rows L2 FmM
/-! ### rows of four -/
def rowsN (ls : List Str) : Nat → List (List Str)
  | 0 => [[]]
  | n + 1 => (rowsN ls n).flatMap fun r => (ls.filter fun b => !decide (b ∈ r)).map fun b => r ++ [b]
theorem mem_rows (ls : List Str) : ∀ (n : Nat) (r : List Str), r ∈ rowsN ls n ↔ r.length = n ∧ r.Nodup ∧ ∀ z, z ∈ r → z ∈ ls
  | 0, r => by
    rw [rowsN, List.mem_singleton]
    constructor
    · rintro rfl
      exact ⟨rfl, List.nodup_nil, fun z hz => by simp at hz⟩
    · rintro ⟨h, _⟩
      exact List.length_eq_zero_iff.mp h
  | n + 1, r => by
    rw [rowsN, List.mem_flatMap]
    constructor
    · rintro ⟨q, hq, hr⟩
      obtain ⟨b, hb, rfl⟩ := List.mem_map.mp hr
      obtain ⟨h1, h2, h3⟩ := (mem_rows ls n q).mp hq
      obtain ⟨b1, b2⟩ := List.mem_filter.mp hb
      have b2 : b ∉ q := by simpa using b2
      refine ⟨by rw [List.length_append, h1]; rfl, List.nodup_append.mpr ⟨h2, by simp, fun a ha c hc => ?_⟩, fun z hz => ?_⟩
      · rw [List.mem_singleton.mp hc]
        exact fun e => b2 (e ▸ ha)
      · rcases List.mem_append.mp hz with h | h
        · exact h3 z h
        · rw [List.mem_singleton.mp h]; exact b1
    · rintro ⟨h1, h2, h3⟩
      have ne : r ≠ [] := fun e => by rw [e] at h1; simp at h1
      have er := List.dropLast_concat_getLast ne
      refine ⟨r.dropLast, (mem_rows ls n _).mpr ⟨by rw [List.length_dropLast, h1]; rfl, ?_, fun z hz => h3 z ((List.dropLast_sublist r).subset hz)⟩, List.mem_map.mpr ⟨r.getLast ne, List.mem_filter.mpr ⟨h3 _ (List.getLast_mem ne), ?_⟩, er⟩⟩
      · exact h2.sublist (List.dropLast_sublist r)
      · rw [← er, List.nodup_append] at h2
        have : r.getLast ne ∉ r.dropLast := fun z => h2.2.2 _ z _ (by simp) rfl
        simpa using this
theorem rows_len {ls : List Str} (h : ls.length ≤ 8) : ∀ n, (rowsN ls n).length ≤ 8 ^ n
  | 0 => Nat.le_refl _
  | n + 1 => by
    rw [rowsN, Nat.pow_succ]
    refine Nat.le_trans (flatMap_len (n := 8) fun r _ => ?_) (Nat.mul_le_mul_right 8 (rows_len h n))
    rw [List.length_map]
    exact Nat.le_trans (List.length_filter_le _ _) h
section
variable {P : Program} {w : World} {K : PySem.W.Frag} {mg : Str → Option Value} {base : Heap}
/-! ### plan_of, find_plan -/
theorem sc_plan_of : FnScope ["table"] ["table"] (defScope s_plan_of) := ⟨rfl, rfl, rfl, by decide +kernel, rfl, by decide +kernel, by decide +kernel⟩
def spFindPlan : Sp := fun vs H Q _ => ∃ (v : V) (kd : Str → Str → Bool) (ls : List Str), vs = [v] ∧ TabAt H v (chart kd ls) ∧ TabOk kd ls ∧ ∀ H' r o, Same H H' → MayAt H' r o → PlanFor kd ls o → Q r H'
theorem c_plan_of (T : Txt K mg) : Cal P w K mg base 11 "plan_of" spFindPlan := by
  refine cal_of T.d_plan_of sc_plan_of (fun vs H Q E h => ?_) (fun f cdv A outer s H vs Q E hr h => ?_)
  · obtain ⟨v, kd, ls, rfl, _⟩ := h
    rfl
  · obtain ⟨v, kd, ls, rfl, hv, ok, q⟩ := h
    refine ⟨_, pss_one (ps_ret (pe_d (c_plan_for T) hr (by omega) (pa_cons (pe_d (c_lines_tab T) hr (by omega) (pa_cons (pv 0) pa_nil)) (pa_cons (pe_d (c_kinds T) hr (by omega) (pa_cons (pv 0) pa_nil)) pa_nil)))), ?_⟩
    refine ⟨_, rfl, v, kd, ls, rfl, hv, ok, fun H1 lv s1 hl => ?_⟩
    refine ⟨_, rfl, v, kd, ls, rfl, hv.tups (sm_tups s1), ok, fun H2 kv s2 hk => ?_⟩
    have h2 := ok.two
    exact ⟨lv, kv, kd, ls, rfl, hl.tups (sm_tups s2), hk, ok.asc, ok.line, ok.sym, by omega, ok.le, ok.le, fun H3 r o s3 hm hp => q _ r o ((s1.trans s2).trans s3) hm hp⟩
theorem sc_find_plan : FnScope ["table"] ["table"] (defScope s_find_plan) := ⟨rfl, rfl, rfl, by decide +kernel, rfl, by decide +kernel, by decide +kernel⟩
theorem c_find_plan (T : Txt K mg) : Cal P w K mg base 12 "find_plan" spFindPlan := by
  refine cal_of T.d_find_plan sc_find_plan (fun vs H Q E h => ?_) (fun f cdv A outer s H vs Q E hr h => ?_)
  · obtain ⟨v, kd, ls, rfl, _⟩ := h
    rfl
  · obtain ⟨v, kd, ls, rfl, hv, ok, q⟩ := h
    refine ⟨_, pss_cons (ps_expr (pe_d (c_check_tab T) hr (by omega) (pa_cons (pv 0) pa_nil))) (pss_one (ps_ret (pe_d (c_plan_of T) hr (by omega) (pa_cons (pv 0) pa_nil)))), ?_⟩
    refine ⟨_, rfl, v, kd, ls, rfl, hv, ok, fun H1 s1 => ?_⟩
    exact ⟨_, rfl, v, kd, ls, rfl, hv.tups (sm_tups s1), ok, fun H2 r o s2 hm hp => q _ r o (s1.trans s2) hm hp⟩
/-! ### are_four -/
def four4 (kd : Str → Str → Bool) (w x y z : Str) : Bool := (kd w x == kd x y && kd x y == kd y z) && ((kd w y == kd x z && kd x z == kd w z) && !(kd w x == kd w y))
theorem four4_iff (kd : Str → Str → Bool) (w x y z : Str) : four4 kd w x y z = true ↔ ∃ c, P4 kd c w x y z := by
  unfold four4 P4
  cases kd w x <;> cases kd x y <;> cases kd y z <;> cases kd w y <;> cases kd x z <;> cases kd w z <;> simp
theorem dist_kinds (a b c : Bool) : decide (V.int ((dist [kS a, kS b, kS c]).length : Nat) = V.int 1) = (a == b && b == c) := by
  cases a <;> cases b <;> cases c <;> decide
theorem sc_are_four : FnScope ["four", "kinds", "w", "x", "y", "z", "chain", "rest"] ["four", "kinds"] (defScope s_are_four) := ⟨rfl, rfl, rfl, by decide +kernel, rfl, by decide +kernel, by decide +kernel⟩
def spAreFour : Sp := fun vs H Q _ => ∃ (v kv : V) (kd : Str → Str → Bool) (ls : List Str) (w x y z : Str), vs = [v, kv] ∧ LinesAt H v [w, x, y, z] ∧ KindsAt H kv kd ls ∧ w ∈ ls ∧ x ∈ ls ∧ y ∈ ls ∧ z ∈ ls ∧ [w, x, y, z].Nodup ∧
  ∀ H', Same H H' → Q (.bl (four4 kd w x y z)) H'
theorem c_are_four (T : Txt K mg) : Cal P w K mg base 1 "are_four" spAreFour := by
  refine cal_of T.d_are_four sc_are_four (fun vs H Q E h => ?_) (fun f cdv A outer s H vs Q E hr h => ?_)
  · obtain ⟨v, kv, kd, ls, a1, a2, a3, a4, rfl, _⟩ := h
    rfl
  · obtain ⟨v, kv, kd, ls, a1, a2, a3, a4, rfl, hv, hk, m1, m2, m3, m4, nd, q⟩ := h
    have u1 := room1 hr
    refine ⟨_, pss_cons (ps_asg (pv 0) (pg_tup rfl (pgs_cons (pg_name (i := 2) sc_are_four.nd rfl (.inl rfl)) (pgs_cons (pg_name (i := 3) sc_are_four.nd rfl (.inl rfl)) (pgs_cons (pg_name (i := 4) sc_are_four.nd rfl (.inl rfl)) (pgs_cons (pg_name (i := 5) sc_are_four.nd rfl (.inl rfl)) pgs_nil))))))
      (pss_cons (ps_set (i := 6) sc_are_four.nd rfl (.inl rfl) (pe_lst (pa_cons (pe_dget u1 (pv 1) (pe_tup (pa_cons (pv 2) (pa_cons (pv 3) pa_nil))) (fun _ _ => rfl)) (pa_cons (pe_dget u1 (pv 1) (pe_tup (pa_cons (pv 3) (pa_cons (pv 4) pa_nil))) (fun _ _ => rfl)) (pa_cons (pe_dget u1 (pv 1) (pe_tup (pa_cons (pv 4) (pa_cons (pv 5) pa_nil))) (fun _ _ => rfl)) pa_nil)))))
      (pss_cons (ps_set (i := 7) sc_are_four.nd rfl (.inl rfl) (pe_lst (pa_cons (pe_dget u1 (pv 1) (pe_tup (pa_cons (pv 2) (pa_cons (pv 4) pa_nil))) (fun _ _ => rfl)) (pa_cons (pe_dget u1 (pv 1) (pe_tup (pa_cons (pv 3) (pa_cons (pv 5) pa_nil))) (fun _ _ => rfl)) (pa_cons (pe_dget u1 (pv 1) (pe_tup (pa_cons (pv 2) (pa_cons (pv 5) pa_nil))) (fun _ _ => rfl)) pa_nil)))))
      (pss_one (ps_ret (pe_and (pe_cmpR op_eq (pe_callB cr_lenT (by rfl) T.b_len bt_len (pa_cons (pe_callTy (cr_setT rfl) (by rfl) T.b_set bt_set (pa_cons (pv 6) pa_nil)) pa_nil)) pe_int (nomark _))
        (pe_and (pe_cmpR op_eq (pe_callB cr_lenT (by rfl) T.b_len bt_len (pa_cons (pe_callTy (cr_setT rfl) (by rfl) T.b_set bt_set (pa_cons (pv 7) pa_nil)) pa_nil)) pe_int (nomark _))
          (pe_one (pe_cmpR op_ne (pe_ix ix_list (pv 6) pe_int (fun _ _ => rfl)) (pe_ix ix_list (pv 7) pe_int (fun _ _ => rfl)) (nomark _))))))))), ?_⟩
    obtain ⟨a, rfl, ha⟩ := hv
    obtain ⟨d, kvs, rfl, hd, has⟩ := hk
    simp only [List.nodup_cons, List.mem_cons, List.not_mem_nil, or_false, not_or, not_false_eq_true, List.nodup_nil, and_true] at nd
    obtain ⟨⟨n12, n13, n14⟩, ⟨n23, n24⟩, n34⟩ := nd
    -- a look into the dict
    have dg : ∀ {H' : Hp} {x y : Str} {t : Addr}, Same H H' → H' t = none → x ∈ ls → y ∈ ls → x ≠ y → DGet (upd H' t (.tup [.str x, .str y])) d (.ref t) (some (.str (kS (kd x y)))) := fun {H' x y t} s ht mx my n => by
      have z : DGet (upd H' t (.tup [.str x, .str y])) d (.ref t) (valV kvs (kk x y)) := DGet.t (k := kk x y) (same_new ht _ _ (s _ _ hd)) upd_same
      rw [show valV kvs (kk x y) = some (.str (kS (kd x y))) from has x y mx my n] at z
      exact z
    have z2 : (2 : Nat) ≤ sizeLine := by decide
    have z3 : (3 : Nat) ≤ sizeLine := by decide
    refine ⟨_, rfl, a, _, rfl, .inl (.inl ha), rfl, _, _, rfl, _, _, rfl, _, _, rfl, _, _, rfl, rfl, ?_⟩
    refine ⟨_, rfl, _, rfl, _, rfl, z2, fun t1 h1 => ⟨d, _, rfl, dg (Same.refl _) h1 m1 m2 n12, ?_⟩⟩
    have s1 := same_new (o := .tup [.str a1, .str a2]) h1
    generalize upd H t1 (.tup [.str a1, .str a2]) = H1 at s1
    refine ⟨_, rfl, _, rfl, _, rfl, z2, fun t2 h2 => ⟨d, _, rfl, dg s1 h2 m2 m3 n23, ?_⟩⟩
    have s2 := sm_new (o := .tup [.str a2, .str a3]) s1 h2
    generalize upd H1 t2 (.tup [.str a2, .str a3]) = H2 at s2
    refine ⟨_, rfl, _, rfl, _, rfl, z2, fun t3 h3 => ⟨d, _, rfl, dg s2 h3 m3 m4 n34, z3, fun l1 hl1 => ?_⟩⟩
    have s3 := sm_new (o := .lst [.str (kS (kd a1 a2)), .str (kS (kd a2 a3)), .str (kS (kd a3 a4))]) (sm_new (o := .tup [.str a3, .str a4]) s2 h3) hl1
    have e3 : (upd (upd H2 t3 (.tup [.str a3, .str a4])) l1 (.lst [.str (kS (kd a1 a2)), .str (kS (kd a2 a3)), .str (kS (kd a3 a4))])) l1 = some (.lst ([kS (kd a1 a2), kS (kd a2 a3), kS (kd a3 a4)].map V.str)) := upd_same
    generalize upd (upd H2 t3 (.tup [.str a3, .str a4])) l1 (.lst [.str (kS (kd a1 a2)), .str (kS (kd a2 a3)), .str (kS (kd a3 a4))]) = H3 at s3 e3
    refine ⟨_, rfl, _, rfl, _, rfl, z2, fun t4 h4 => ⟨d, _, rfl, dg s3 h4 m1 m3 n13, ?_⟩⟩
    have s4 := sm_new (o := .tup [.str a1, .str a3]) s3 h4
    have k4 := same_new (o := .tup [.str a1, .str a3]) h4
    generalize upd H3 t4 (.tup [.str a1, .str a3]) = H4 at s4 k4
    refine ⟨_, rfl, _, rfl, _, rfl, z2, fun t5 h5 => ⟨d, _, rfl, dg s4 h5 m2 m4 n24, ?_⟩⟩
    have s5 := sm_new (o := .tup [.str a2, .str a4]) s4 h5
    have k5 := sm_new (o := .tup [.str a2, .str a4]) k4 h5
    generalize upd H4 t5 (.tup [.str a2, .str a4]) = H5 at s5 k5
    refine ⟨_, rfl, _, rfl, _, rfl, z2, fun t6 h6 => ⟨d, _, rfl, dg s5 h6 m1 m4 n14, z3, fun l2 hl2 => ?_⟩⟩
    have s6 := sm_new (o := .lst [.str (kS (kd a1 a3)), .str (kS (kd a2 a4)), .str (kS (kd a1 a4))]) (sm_new (o := .tup [.str a1, .str a4]) s5 h6) hl2
    have k6 := sm_new (o := .lst [.str (kS (kd a1 a3)), .str (kS (kd a2 a4)), .str (kS (kd a1 a4))]) (sm_new (o := .tup [.str a1, .str a4]) k5 h6) hl2
    have e6 : (upd (upd H5 t6 (.tup [.str a1, .str a4])) l2 (.lst [.str (kS (kd a1 a3)), .str (kS (kd a2 a4)), .str (kS (kd a1 a4))])) l2 = some (.lst ([kS (kd a1 a3), kS (kd a2 a4), kS (kd a1 a4)].map V.str)) := upd_same
    have e7 := k6 _ _ e3
    generalize upd (upd H5 t6 (.tup [.str a1, .str a4])) l2 (.lst [.str (kS (kd a1 a3)), .str (kS (kd a2 a4)), .str (kS (kd a1 a4))]) = H6 at s6 k6 e6 e7
    refine ⟨_, rfl, l1, _, rfl, (.inl (.inl e7)), show 3 < 4000 by decide, fun p1 hp1 => ⟨p1, _, rfl, upd_same, rfl, _, rfl, ?_⟩⟩
    have s7 := sm_new (o := SetTO P w p1 (dist [kS (kd a1 a2), kS (kd a2 a3), kS (kd a3 a4)])) s6 hp1
    have k7 := same_new (o := SetTO P w p1 (dist [kS (kd a1 a2), kS (kd a2 a3), kS (kd a3 a4)])) hp1
    have c1 := dist_kinds (kd a1 a2) (kd a2 a3) (kd a3 a4)
    refine ifb (fun h => ?_) (fun h => ?_)
    · have h' : (kd a1 a2 == kd a2 a3 && kd a2 a3 == kd a3 a4) = true := c1.symm.trans h
      refine ⟨_, rfl, l2, _, rfl, .inl (.inl (k7 _ _ e6)), show 3 < 4000 by decide, fun p2 hp2 => ⟨p2, _, rfl, upd_same, rfl, _, rfl, ?_⟩⟩
      have s8 := sm_new (o := SetTO P w p2 (dist [kS (kd a1 a3), kS (kd a2 a4), kS (kd a1 a4)])) s7 hp2
      have k8 := sm_new (o := SetTO P w p2 (dist [kS (kd a1 a3), kS (kd a2 a4), kS (kd a1 a4)])) k7 hp2
      have c2 := dist_kinds (kd a1 a3) (kd a2 a4) (kd a1 a4)
      refine ifb (fun g => ?_) (fun g => ?_)
      · have g' : (kd a1 a3 == kd a2 a4 && kd a2 a4 == kd a1 a4) = true := c2.symm.trans g
        refine ⟨_, rfl, l1, _, 0, _, rfl, rfl, .inl (.inl (k8 _ _ e7)), atI_nat (j := 0) rfl, _, rfl, l2, _, 0, _, rfl, rfl, .inl (.inl (k8 _ _ e6)), atI_nat (j := 0) rfl, rfl, ?_⟩
        refine bl_to ?_ (q _ s8)
        show (!decide (V.str (kS (kd a1 a2)) = V.str (kS (kd a1 a3)))) = _
        rw [kS_eq]
        unfold four4
        rw [h', g']
        cases kd a1 a2 <;> cases kd a1 a3 <;> rfl
      · refine bl_to ?_ (q _ s8)
        have g' : (kd a1 a3 == kd a2 a4 && kd a2 a4 == kd a1 a4) = false := c2.symm.trans g
        unfold four4
        rw [g', Bool.false_and, Bool.and_false]
    · refine bl_to ?_ (q _ s7)
      have h' : (kd a1 a2 == kd a2 a3 && kd a2 a3 == kd a3 a4) = false := c1.symm.trans h
      unfold four4
      rw [h', Bool.false_and]
end
end Fm
set_option maxHeartbeats 8000000
namespace Fm
open PySem PySem.Spec PyProof.Rows L2 FmM
theorem LinesAt.ne_non {H : Hp} {v : V} {ls : List Str} (h : LinesAt H v ls) : v ≠ .non := by
  obtain ⟨a, rfl, _⟩ := h
  exact fun e => nomatch e
theorem PlanAt.ne_non {H : Hp} {v : V} {p : Plan Str} (h : PlanAt H v p) : v ≠ .non := by
  cases p with
  | leaf z =>
    rw [PlanAt] at h
    rw [h]
    exact fun e => nomatch e
  | node k ps =>
    rw [PlanAt] at h
    obtain ⟨a, b, vs, rfl, _⟩ := h
    exact fun e => nomatch e
section
variable {P : Program} {w : World} {K : PySem.W.Frag} {mg : Str → Option Value} {base : Heap}
/-! ### rows_of_four -/
theorem sc_rows : FnScope ["lines", "rows", "turn", "row", "line"] ["lines"] (defScope s_rows_of_four) := ⟨rfl, rfl, rfl, by decide +kernel, rfl, by decide +kernel, by decide +kernel⟩
def spRows : Sp := fun vs H Q _ => ∃ (v : V) (ls : List Str), vs = [v] ∧ LinesAt H v ls ∧ ls.length ≤ 8 ∧ ∀ H' g ws, Same H H' → H' g = some (.lst ws) → GroupsAt H' ws (rowsN ls 4) → Q (.ref g) H'
theorem c_rows (T : Txt K mg) : Cal P w K mg base 1 "rows_of_four" spRows := by
  refine cal_of T.d_rows_of_four sc_rows (fun vs H Q E h => ?_) (fun f cdv A outer s H vs Q E hr h => ?_)
  · obtain ⟨v, ls, rfl, _⟩ := h
    rfl
  · obtain ⟨v, ls, rfl, hv, h8, q⟩ := h
    refine ⟨_, pss_cons (ps_set (i := 1) sc_rows.nd rfl (.inl rfl) (pe_lst (pa_cons (pe_tup pa_nil) pa_nil)))
      (pss_cons (ps_for PassesOwn.never rfl (pi_range1 (by rfl) T.b_range (pa_cons pe_int pa_nil)) (pg_name (i := 2) sc_rows.nd rfl (.inl rfl))
        (pss_one (ps_setLc2 (i := 1) (own := [("row", 3), ("line", 4)]) (vs1 := [4]) (g := gName 3) (g1 := gName 4) (tt := tYes) (wi1 := iTup K (tVar 0)) (tt1 := tTest (tOp (rIn K true) (tVar 4) (tVar 3))) (te := tOp (rCatA K) (tVar 3) (tTup (tCons (tVar 4) tNil))) rfl sc_rows.nd rfl rfl (by rfl) (pi_list (pv 1))
          (blkOk_by (N := ["lines", "rows", "turn", "row", "line"]) (sc := defScope s_rows_of_four) (by decide +kernel)) (by decide)
          (fun _ _ _ _ _ => pg_name (i := 3) sc_rows.nd rfl (Or.inl rfl)) (fun _ _ _ _ _ => pts_nil)
          (fun _ _ _ _ _ => pi_tup (pv 0))
          (fun _ _ _ _ _ => pg_name (i := 4) sc_rows.nd rfl (Or.inl rfl)) (fun _ _ _ _ _ => pts_one (pt_cmpR op_notIn_seq (pv 4) (pv 3) rfl))
          (fun _ _ _ _ _ => pe_op op_catA (pv 3) (pe_tup (pa_cons (pv 4) pa_nil))))))
      (pss_one (ps_ret (pv 1)))), ?_⟩
    obtain ⟨a, rfl, ha⟩ := hv
    refine ⟨Nat.zero_le _, fun t0 ht0 => ⟨by show 1 ≤ sizeLine; decide, fun l0 hl0 => ?_⟩⟩
    have s0 : Same H (upd (upd H t0 (.tup [])) l0 (.lst [.ref t0])) := sm_new (same_new ht0) hl0
    refine ⟨4, rfl, by decide, by decide, ?_⟩
    refine for_range (lo := 0) (n := 4) (fun i σ H1 => ∃ rl ws y2, σ = [some (.ref a), some (.ref rl), y2, none, none] ∧ Same H H1 ∧ H1 rl = some (.lst ws) ∧ GroupsAt H1 ws (rowsN ls i))
      ⟨l0, [.ref t0], none, rfl, s0, upd_same, .cons ⟨t0, rfl, same_new hl0 _ _ upd_same⟩ .nil⟩ (fun i σ H1 hi p1 => ?_) (fun σ H1 p1 => ?_)
    · obtain ⟨rl, ws, y2, rfl, sm, hrl, gat⟩ := p1
      have wl : ws.length = (rowsN ls i).length := Paired.length gat
      have hrow := rows_len h8 i
      have h512 : (8 : Nat) ^ i ≤ 512 := by
        have : i = 0 ∨ i = 1 ∨ i = 2 ∨ i = 3 := by omega
        rcases this with rfl | rfl | rfl | rfl <;> decide
      generalize hRs : rowsN ls i = Rs at gat wl hrow
      refine ⟨_, rfl, rl, rfl, ⟨_, .inl (.inl hrl)⟩, fun D hD => ?_⟩
      refine loop_it (walk_list (xs := ws)) (LcI H1 D fun j acc H' => GroupsAt H' acc ((Rs.take j).flatMap fun r => (ls.filter fun b => !decide (b ∈ r)).map fun b => r ++ [b])) (LcI.start hD .nil) (fun j H2 _ p2 => ?_) (fun j x H2o H2 hj p2 hy => ?_) fun H2 p2 => ?_
      · obtain ⟨acc, _, sm2, _⟩ := p2
        exact .inl (.inl (sm2 _ _ hrl))
      · obtain ⟨acc, hDa, sm2, ra⟩ := p2
        obtain ⟨rfl, hx⟩ := hy
        obtain ⟨r, hr, c, rfl, hc⟩ := paired_get gat hx
        have ha2 := (sm.trans sm2) _ _ ha
        refine ⟨rfl, kept ⟨_, rfl, a, rfl, ⟨_, .inl (.inl ha2)⟩, ?_⟩⟩
        refine loop_it (walk_tup (xs := ls.map V.str)) (LcI H1 D fun l acc' H' => GroupsAt H' acc' (((Rs.take j).flatMap fun r => (ls.filter fun b => !decide (b ∈ r)).map fun b => r ++ [b]) ++ ((ls.take l).filter fun b => !decide (b ∈ r)).map fun b => r ++ [b]))
          ⟨acc, hDa, sm2, by simpa using ra⟩ (fun l H3 _ p3 => ?_) (fun l y H3o H3 hl p3 hy3 => ?_) fun H3 p3 => ?_
        · obtain ⟨acc', _, sm3, _⟩ := p3
          exact .inl (.inl ((sm.trans sm3) _ _ ha))
        · obtain ⟨acc', hD3, sm3, r3⟩ := p3
          obtain ⟨rfl, hy4⟩ := hy3
          obtain ⟨b, hb, rfl⟩ := strs_at hy4
          have hc3 := sm3 _ _ hc
          have e5 := filter_take_succ (p := fun b => !decide (b ∈ r)) hb
          refine ⟨rfl, _, rfl, _, rfl, c, _, rfl, .inr (.inl (.inl hc3)), rfl, flat_strs _, _, rfl, ?_⟩
          have eb : (!inV (.str b) (r.map V.str)) = !decide (b ∈ r) := by rw [inV_strs]
          refine ifb (fun h => ?_) (fun h => ?_)
          · have h' : (!decide (b ∈ r)) = true := eb.symm.trans h
            refine ⟨_, rfl, _, rfl, by show 1 ≤ sizeLine; decide, fun t ht => ?_⟩
            have sm4 := sm_new (o := .tup [.str b]) sm3 ht
            have tt4 : Tups H3 (upd H3 t (.tup [.str b])) := tups_new ht
            have hD4 : (upd H3 t (.tup [.str b])) D = some (.lst acc') := same_new ht _ _ hD3
            have hc4 := same_new (o := .tup [.str b]) ht _ _ hc3
            have fin : ∀ (H4 : Hp) (y : Addr), Same (upd H3 t (.tup [.str b])) H4 → H4 y = some (.tup ((r ++ [b]).map V.str)) → ∃ acc, H4 D = some (.lst acc) ∧ acc.length < sizeLine ∧ LcI H1 D (fun l acc' H' => GroupsAt H' acc' (((Rs.take j).flatMap fun r => (ls.filter fun b => !decide (b ∈ r)).map fun b => r ++ [b]) ++ ((ls.take l).filter fun b => !decide (b ∈ r)).map fun b => r ++ [b])) (l + 1) (upd H4 D (.lst (acc ++ [V.ref y]))) := fun H4 y s4 hy => by
              refine ⟨acc', s4 _ _ hD4, ?_, LcI.push hD (sm4.trans s4) ?_⟩
              · rw [Paired.length r3, List.length_append, List.length_map]
                have l1 : ((Rs.take j).flatMap fun r => (ls.filter fun b => !decide (b ∈ r)).map fun b => r ++ [b]).length ≤ (Rs.take j).length * 8 := flatMap_len fun x _ => by
                  rw [List.length_map]
                  exact Nat.le_trans (List.length_filter_le _ _) h8
                have l2 : (Rs.take j).length ≤ 512 := Nat.le_trans (List.length_take_le' _ _) (by omega)
                have l3 : ((ls.take l).filter fun b => !decide (b ∈ r)).length ≤ 8 := Nat.le_trans (List.length_filter_le _ _) (Nat.le_trans (List.length_take_le' _ _) h8)
                exact small_of (m := 5000) (by omega)
              · rw [e5, h', if_pos rfl, List.map_append, ← List.append_assoc]
                have tt : Tups H3 (upd H4 D (.lst (acc' ++ [V.ref y]))) := (tt4.trans (sm_tups s4)).trans (tups_lst (s4 _ _ hD4))
                refine paired_snoc (r3.tups tt) ⟨y, rfl, ?_⟩
                rw [upd_ne (ne_lt (s4 _ _ hD4) hy)]
                exact hy
            refine ⟨c, t, r.map V.str, [.str b], rfl, rfl, .inl (.inl hc4), .inl (.inl upd_same), ?_, fun e => ?_, fun _ e => (nomatch e), fun _ _ p hp => ?_⟩
            · rw [List.length_map]
              obtain ⟨rl, _⟩ := (mem_rows ls i r).mp (by rw [hRs]; exact List.mem_of_getElem? hr)
              rw [rl]
              exact small_le (m := 100) (by simp; omega)
            · have er : r = [] := List.map_eq_nil_iff.mp e
              refine fin _ t (Same.refl _) ?_
              rw [er]
              exact upd_same
            · refine fin _ p (same_new hp) ?_
              rw [List.map_append]
              exact upd_same
          · have h' : (!decide (b ∈ r)) = false := eb.symm.trans h
            refine ⟨acc', hD3, sm3, ?_⟩
            show GroupsAt H3 acc' (_ ++ List.map _ (List.filter _ (List.take (l + 1) ls)))
            rw [e5, h', if_neg Bool.false_ne_true, List.append_nil]
            exact r3
        · obtain ⟨acc', hD3, sm3, r3⟩ := p3
          rw [List.length_map, List.take_length] at r3
          refine ⟨acc', hD3, sm3, ?_⟩
          show GroupsAt H3 acc' (List.flatMap _ (List.take (j + 1) Rs))
          rw [flat_take_succ hr]
          exact r3
      · obtain ⟨acc, hDa, sm2, ra⟩ := p2
        rw [List.take_of_length_le (by omega)] at ra
        refine ⟨D, acc, _, rfl, sm.trans sm2, hDa, ?_⟩
        rw [rowsN, hRs]
        exact ra
    · obtain ⟨rl, ws, y2, rfl, sm, hrl, gat⟩ := p1
      exact ⟨_, rfl, q _ rl ws sm hrl gat⟩
/-! ### find_four -/
theorem sc_find_four : FnScope ["table", "kinds", "fours", "four"] ["table"] (defScope s_find_four) := ⟨rfl, rfl, rfl, by decide +kernel, rfl, by decide +kernel, by decide +kernel⟩
def spFindFour : Sp := fun vs H Q _ => ∃ (v : V) (kd : Str → Str → Bool) (ls : List Str), vs = [v] ∧ TabAt H v (chart kd ls) ∧ TabOk kd ls ∧
  ∀ H' r, Same H H' → ((r = .non ∧ ¬ HasFour kd ls) ∨ ∃ w x y z, LinesAt H' r [w, x, y, z] ∧ IsFour kd ls w x y z) → Q r H'
def isRow4 (kd : Str → Str → Bool) : List Str → Bool
  | [w, x, y, z] => four4 kd w x y z
  | _ => false
theorem c_find_four (T : Txt K mg) : Cal P w K mg base 13 "find_four" spFindFour := by
  refine cal_of T.d_find_four sc_find_four (fun vs H Q E h => ?_) (fun f cdv A outer s H vs Q E hr h => ?_)
  · obtain ⟨v, kd, ls, rfl, _⟩ := h
    rfl
  · obtain ⟨v, kd, ls, rfl, hv, ok, q⟩ := h
    refine ⟨_, pss_cons (ps_if (pt_cmpR op_notN (pe_d (c_find_plan T) hr (by omega) (pa_cons (pv 0) pa_nil)) pe_non (nomark _)) (pss_one (ps_ret pe_non)) pss_nil)
      (pss_cons (ps_set (i := 1) sc_find_four.nd rfl (.inr rfl) (pe_d (c_kinds T) hr (by omega) (pa_cons (pv 0) pa_nil)))
      (pss_cons (ps_setLc (i := 2) (own := [("four", 3)]) (g := gName 3) (tt := tTest (tCall spAreFour [] E0 (tCons (tVar 3) (tCons (tVar 1) tNil)))) (te := tVar 3) rfl sc_find_four.nd rfl rfl (by rfl) (pi_list (pe_d (c_rows T) hr (by omega) (pa_cons (pe_d (c_lines_tab T) hr (by omega) (pa_cons (pv 0) pa_nil)) pa_nil)))
          (blkOk_by (N := ["table", "kinds", "fours", "four"]) (sc := defScope s_find_four) (by decide +kernel))
          (fun _ _ _ _ _ => pg_name (i := 3) sc_find_four.nd rfl (Or.inl rfl))
          (fun _ _ _ _ _ => pts_one (pt_val (pe_d (c_are_four T) hr (by omega) (pa_cons (pv 3) (pa_cons (pv 1) pa_nil)))))
          (fun _ _ _ _ _ => pv 3))
      (pss_one (ps_ret (pe_ix ix_list (pv 2) pe_int (fun _ _ => rfl)))))), ?_⟩
    refine ⟨_, rfl, v, kd, ls, rfl, hv, ok, fun H1 r o s1 hm hp => ⟨rfl, _, rfl, ?_⟩⟩
    cases o with
    | some p =>
      have ne : r ≠ .non := PlanAt.ne_non hm
      rw [decide_eq_false ne]
      exact iteT (q _ _ s1 (.inl ⟨rfl, hp.2.2.2.2.1⟩))
    | none =>
      have hf : HasFour kd ls := hp
      have er : r = .non := hm
      rw [decide_eq_true er]
      refine iteF ⟨_, rfl, v, kd, ls, rfl, hv.tups (sm_tups s1), ok, fun H2 kv s2 hk => ?_⟩
      refine ⟨_, rfl, v, kd, ls, rfl, hv.tups (sm_tups (s1.trans s2)), ok, fun H3 lv s3 hl => ?_⟩
      refine ⟨lv, ls, rfl, hl, ok.le, fun H4 g ws s4 hg gat => ?_⟩
      refine ⟨g, rfl, ⟨_, .inl (.inl hg)⟩, fun D hD => ?_⟩
      have sm0 := (s1.trans s2).trans (s3.trans s4)
      have k4 := (hk.same s3).same s4
      have wl : ws.length = (rowsN ls 4).length := Paired.length gat
      have hrow : (rowsN ls 4).length ≤ 4096 := rows_len ok.le 4
      refine loop_it (walk_list (xs := ws)) (LcI H4 D fun i acc H' => GroupsAt H' acc (((rowsN ls 4).take i).filter (isRow4 kd))) (LcI.start hD .nil) (fun i H5 _ p5 => ?_) (fun i x H5o H5 hi p5 hy => ?_) fun H5 p5 => ?_
      · obtain ⟨acc, _, sm5, _⟩ := p5
        exact .inl (.inl (sm5 _ _ hg))
      · obtain ⟨acc, hDa, sm5, ra⟩ := p5
        obtain ⟨rfl, hx⟩ := hy
        obtain ⟨r, hr, hxr⟩ := paired_get gat hx
        have e5 := filter_take_succ (p := isRow4 kd) hr
        obtain ⟨g1, g2, g3⟩ := (mem_rows ls 4 r).mp (List.mem_of_getElem? hr)
        match r, g1 with
        | [a1, a2, a3, a4], _ =>
          refine ⟨rfl, _, rfl, _, rfl, x, kv, kd, ls, a1, a2, a3, a4, rfl, hxr.tups (sm_tups sm5), k4.same sm5, g3 _ (by simp), g3 _ (by simp), g3 _ (by simp), g3 _ (by simp), g2, fun H6 s6 => ⟨_, rfl, ?_⟩⟩
          refine ifb (fun h => ?_) (fun h => ?_)
          · have h' : isRow4 kd [a1, a2, a3, a4] = true := h
            refine ⟨_, rfl, acc, s6 _ _ hDa, ?_, LcI.push hD (sm5.trans s6) ?_⟩
            · rw [Paired.length ra]
              have l1 := List.length_filter_le (isRow4 kd) ((rowsN ls 4).take i)
              have l2 := List.length_take_le' i (rowsN ls 4)
              exact small_of (m := 5000) (by omega)
            · rw [e5, h', if_pos rfl]
              have tt : Tups H5 (upd H6 D (.lst (acc ++ [x]))) := (sm_tups s6).trans (tups_lst (s6 _ _ hDa))
              exact paired_snoc (ra.tups tt) (hxr.tups ((sm_tups sm5).trans tt))
          · have h' : isRow4 kd [a1, a2, a3, a4] = false := h
            refine ⟨acc, s6 _ _ hDa, sm5.trans s6, ?_⟩
            show GroupsAt H6 acc (List.filter _ (List.take (i + 1) (rowsN ls 4)))
            rw [e5, h', if_neg Bool.false_ne_true, List.append_nil]
            exact ra.tups (sm_tups s6)
      · obtain ⟨acc, hDa, sm5, ra⟩ := p5
        rw [List.take_of_length_le (by omega)] at ra
        obtain ⟨a1, a2, a3, a4, f4⟩ := hf
        have mem : [a1, a2, a3, a4] ∈ (rowsN ls 4).filter (isRow4 kd) := List.mem_filter.mpr ⟨(mem_rows ls 4 _).mpr ⟨rfl, f4.nd, fun z hz => by
          simp only [List.mem_cons, List.not_mem_nil, or_false] at hz
          rcases hz with e | e | e | e
          · rw [e]; exact f4.mw
          · rw [e]; exact f4.mx
          · rw [e]; exact f4.my
          · rw [e]; exact f4.mz⟩, (four4_iff kd a1 a2 a3 a4).mpr f4.four⟩
        cases hfs : (rowsN ls 4).filter (isRow4 kd) with
        | nil => rw [hfs] at mem; simp at mem
        | cons r0 rs =>
          rw [hfs] at ra
          have m0 : r0 ∈ (rowsN ls 4).filter (isRow4 kd) := by rw [hfs]; simp
          obtain ⟨n1, n2⟩ := List.mem_filter.mp m0
          obtain ⟨g1, g2, g3⟩ := (mem_rows ls 4 r0).mp n1
          match r0, g1 with
          | [b1, b2, b3, b4], _ =>
            cases ra with
            | cons r1 r2 =>
              refine ⟨_, rfl, D, _, 0, _, rfl, rfl, .inl (.inl hDa), atI_nat (j := 0) rfl, q _ _ (sm0.trans sm5) (.inr ⟨b1, b2, b3, b4, r1, ⟨g3 _ (by simp), g3 _ (by simp), g3 _ (by simp), g3 _ (by simp), g2, (four4_iff kd b1 b2 b3 b4).mp n2⟩⟩)⟩
end
end Fm
set_option maxHeartbeats 8000000
namespace Fm
open PySem PySem.Spec PyProof.Rows L2 FmM
theorem sqL_same {K : PySem.W.Frag} {H H' : Hp} {a : Addr} {xs : List V} (s : Same H H') (h : SqL K H a xs) : SqL K H' a xs := by
  rcases h with (h | ⟨o, h⟩) | h
  · exact .inl (.inl (s _ _ h))
  · exact .inl (.inr ⟨o, s _ _ h⟩)
  · exact .inr h
theorem gen2 {R P : Hp → Prop} {H1 : Hp} (h : ∀ H2, P H2 → R H2) (p : P H1) : R H1 := h H1 p
theorem m0 : (0 : Int) < 2147483387 := by decide
def PoolAt (H : Hp) (l : Addr) : Prop := ∃ a b c : Int, H l = some (.lst [.int a, .int b, .int c])
section
variable {P : Program} {w : World} {K : PySem.W.Frag} {mg : Str → Option Value} {base : Heap}
/-! ### a cell of the script -/
theorem sc_cell : FnScope ["_law_script", "_law_k", "_law_state", "_law_number_here"] ["_law_script", "_law_k"] (defScope s_l_cell) := ⟨rfl, rfl, rfl, by decide +kernel, rfl, by decide +kernel, by decide +kernel⟩
def spCell (K : PySem.W.Frag) : Sp := fun vs H Q _ => ∃ (a : Addr) (ns : List Int) (k : Nat), vs = [.ref a, .int (k : Nat)] ∧ SqL K H a (ns.map V.int) ∧ k < 64 ∧ ∀ H' z, Same H H' → Q (.int z) H'
theorem c_cell (T : Txt K mg) : Cal P w K mg base 1 "_law_cell" (spCell K) := by
  refine cal_of T.d_l_cell sc_cell (fun vs H Q E h => ?_) (fun f cdv A outer s H vs Q E hr h => ?_)
  · obtain ⟨a, ns, k, rfl, _⟩ := h
    rfl
  · obtain ⟨a, ns, k, rfl, hv, hk, q⟩ := h
    refine ⟨_, pss_cons (ps_if (pt_cmpR op_lt (pv 1) (pe_callB call_len (by rfl) T.b_len bt_len (pa_cons (pv 0) pa_nil)) (nomark _)) (pss_one (ps_ret (pe_ix ix_list (pv 0) (pv 1) (fun _ _ => rfl)))) pss_nil)
      (pss_cons (ps_set (i := 2) sc_cell.nd rfl (.inl rfl) (pe_op op_mod (pe_op op_mul pe_int (pe_op op_add (pe_op op_add (pe_op op_mul (pv 1) (pv 1)) (pe_op op_mul pe_int (pv 1))) pe_int)) pe_int))
      (pss_cons (ps_for PassesOwn.never rfl (pi_list (pe_slice sl_list (pv 0) po_none (po_some pe_int))) (pg_name (i := 3) sc_cell.nd rfl (.inl rfl))
        (pss_one (ps_set (i := 2) sc_cell.nd rfl (.inl rfl) (pe_op op_mod (pe_op op_add (pe_op op_mul (pv 2) pe_int) (pv 3)) pe_int))))
      (pss_one (ps_ret (pv 2))))), ?_⟩
    refine ⟨_, rfl, _, rfl, _, _, rfl, .inl ⟨_, hv, rfl⟩, _, _, rfl, rfl, _, rfl, ?_⟩
    refine ifb (fun h => ?_) (fun h => ?_)
    · have lt : (k : Int) < ((ns.map V.int).length : Nat) := of_decide_eq_true h
      have lt' : k < ns.length := by rw [List.length_map] at lt; omega
      exact ⟨_, rfl, _, rfl, a, _, k, .int ns[k], rfl, rfl, hv, atI_nat (by rw [List.getElem?_map, List.getElem?_eq_getElem lt']; rfl), q _ _ (Same.refl _)⟩
    · refine ⟨_, rfl, _, rfl, _, _, rfl, rfl, .inl ⟨by omega, by omega⟩, _, rfl, _, _, rfl, rfl, .inl ⟨by omega, by omega⟩, _, _, rfl, rfl, _, _, rfl, rfl, _, _, rfl, rfl, .inl ⟨by omega, by omega⟩, _, _, rfl, rfl, m0, ?_⟩
      refine ⟨_, rfl, 3, rfl, a, _, rfl, hv, fun p hp => ⟨p, rfl, ⟨_, .inl (.inl upd_same)⟩, ?_⟩⟩
      have cut : ∃ ms : List Int, cutV (ns.map V.int) none (some 3) = ms.map V.int := by
        unfold cutV
        rw [← List.map_drop, ← List.map_take]
        exact ⟨_, rfl⟩
      obtain ⟨ms, ems⟩ := cut
      rw [ems]
      refine for_list (xs := ms.map V.int) (fun i σ H1 => ∃ z y3, σ = [some (.ref a), some (.int (k : Nat)), some (.int z), y3] ∧ H1 = upd H p (.lst (ms.map V.int))) ⟨_, none, rfl, rfl⟩ (fun i σ H1 _ p1 => ?_) (fun i x σ H1 hx p1 => ?_) (fun σ H1 p1 => ?_)
      · obtain ⟨z, y3, rfl, rfl⟩ := p1
        exact .inl (.inl upd_same)
      · obtain ⟨z, y3, rfl, rfl⟩ := p1
        obtain ⟨m, rfl⟩ : ∃ m, x = .int m := by
          rw [List.getElem?_map] at hx
          cases e : ms[i]? with
          | none => rw [e] at hx; cases hx
          | some m => rw [e] at hx; cases hx; exact ⟨m, rfl⟩
        exact ⟨_, rfl, _, _, rfl, rfl, .inr ⟨by omega, by omega⟩, _, rfl, _, _, rfl, rfl, _, _, rfl, rfl, m0, _, _, rfl, rfl⟩
      · obtain ⟨z, y3, rfl, rfl⟩ := p1
        exact ⟨_, rfl, q _ _ (same_new hp)⟩
/-! ### a pool -/
theorem sc_pool : FnScope ["_law_cell_here", "_law_digits"] ["_law_cell_here"] (defScope s_l_pool) := ⟨rfl, rfl, rfl, by decide +kernel, rfl, by decide +kernel, by decide +kernel⟩
def spPool : Sp := fun vs H Q _ => ∃ z : Int, vs = [.int z] ∧ ∀ H' l, Same H H' → H l = none → PoolAt H' l → Q (.ref l) H'
theorem c_pool (T : Txt K mg) : Cal P w K mg base 1 "_law_pool" spPool := by
  refine cal_of T.d_l_pool sc_pool (fun vs H Q E h => ?_) (fun f cdv A outer s H vs Q E hr h => ?_)
  · obtain ⟨z, rfl, _⟩ := h
    rfl
  · obtain ⟨z, rfl, q⟩ := h
    refine ⟨_, pss_cons (ps_set (i := 1) sc_pool.nd rfl (.inl rfl) (pe_ifExp (PW.pt (pw_or (pt_cmpR op_lt (pv 0) pe_int (nomark _)) (pw_or1 (pt_cmpR op_ge (pv 0) (pe_op op_pow pe_int pe_int) (nomark _))))) (pe_callB call_abs (by rfl) T.b_abs bt_abs (pa_cons (pv 0) pa_nil)) pe_int))
      (pss_one (ps_ret (pe_lst (pa_cons (pe_op op_mod (pv 0) pe_int) (pa_cons (pv 1) (pa_cons pe_int pa_nil)))))), ?_⟩
    have fin : ∀ d : Int, tRet (tLst (tCons (tOp (rI (fun _ j => 0 < j) fun i j => V.int (i % j)) (tVar 0) (tC (.int 2147483387))) (tCons (tVar 1) (tCons (tC (.int 0)) tNil)))) { nx := fun _ H' => Q .non H', rt := Q } [some (.int z), some (.int d)] H := fun d =>
      ⟨_, rfl, _, _, rfl, rfl, m0, _, rfl, by show 3 ≤ sizeLine; decide, fun l hl => q _ l (same_new hl) hl ⟨_, _, _, upd_same⟩⟩
    refine ⟨_, rfl, _, _, rfl, rfl, _, rfl, ?_⟩
    refine ifb (fun _ => ?_) (fun _ => ?_)
    · exact iteT ⟨_, rfl, _, rfl, fin _⟩
    · refine ⟨_, rfl, _, _, rfl, rfl, ⟨by decide, by decide, by decide⟩, _, _, rfl, rfl, _, rfl, ?_⟩
      refine ifb (fun _ => ?_) (fun _ => ?_)
      · exact ⟨_, rfl, _, rfl, fin _⟩
      · exact fin _
/-! ### a draw -/
theorem sc_draw : FnScope ["_law_pool_here", "_law_upto", "_law_state", "_law_digit"] ["_law_pool_here", "_law_upto"] (defScope s_l_draw) := ⟨rfl, rfl, rfl, by decide +kernel, rfl, by decide +kernel, by decide +kernel⟩
def spDraw : Sp := fun vs H Q _ => ∃ (l : Addr) (u : Nat), vs = [.ref l, .int (u : Nat)] ∧ PoolAt H l ∧ 0 < u ∧ u < 1000 ∧ ∀ H' (r : Nat), SameBut l H H' → PoolAt H' l → r < u → Q (.int (r : Nat)) H'
theorem ixN3 {j : Nat} (h : j < 3) : ixN 3 (j : Int) = some j := by
  have : j = 0 ∨ j = 1 ∨ j = 2 := by omega
  rcases this with rfl | rfl | rfl <;> rfl
theorem c_draw (T : Txt K mg) : Cal P w K mg base 1 "_law_draw" spDraw := by
  refine cal_of T.d_l_draw sc_draw (fun vs H Q E h => ?_) (fun f cdv A outer s H vs Q E hr h => ?_)
  · obtain ⟨l, u, rfl, _⟩ := h
    rfl
  · obtain ⟨l, u, rfl, ⟨a, b, c, hl⟩, u0, u1, q⟩ := h
    refine ⟨_, pss_cons (ps_asg (pe_op op_add (pe_ix ix_list (pv 0) pe_int (fun _ _ => rfl)) pe_int) (pg_sub (pv 0) pe_int set_list))
      (pss_cons (ps_set (i := 2) sc_draw.nd rfl (.inl rfl) (pe_ix ix_list (pv 0) pe_int (fun _ _ => rfl)))
      (pss_cons (ps_asg (pe_op op_mod (pe_op op_add (pe_op op_add (pe_op op_mul (pv 2) (pe_op op_add (pe_op op_mod (pv 2) pe_int) pe_int)) (pe_op op_mul pe_int (pe_ix ix_list (pv 0) pe_int (fun _ _ => rfl)))) pe_int) pe_int) (pg_sub (pv 0) pe_int set_list))
      (pss_cons (ps_if (pt_cmpR op_gt (pe_ix ix_list (pv 0) pe_int (fun _ _ => rfl)) pe_int (nomark _))
        (pss_cons (ps_asg (pe_callB call_divmod (by rfl) T.b_divmod bt_divmod (pa_cons (pe_ix ix_list (pv 0) pe_int (fun _ _ => rfl)) (pa_cons (pv 1) pa_nil))) (pg_tup rfl (pgs_cons (pg_sub (pv 0) pe_int set_list) (pgs_cons (pg_name (i := 3) sc_draw.nd rfl (.inl rfl)) pgs_nil))))
        (pss_one (ps_ret (pv 3)))) pss_nil)
      (pss_one (ps_ret (pe_op op_mod (pe_op op_fdiv (pe_ix ix_list (pv 0) pe_int (fun _ _ => rfl)) pe_int) (pv 1))))))), ?_⟩
    have small : ∀ z : Int, ∃ r : Nat, z % (u : Int) = (r : Nat) ∧ r < u := fun z => by
      have h1 := Int.emod_nonneg z (show (u : Int) ≠ 0 by omega)
      have h2 := Int.emod_lt_of_pos z (show (0 : Int) < (u : Int) by omega)
      exact ⟨(z % (u : Int)).toNat, by omega, by omega⟩
    -- the count
    refine ⟨_, rfl, l, _, 2, _, rfl, rfl, .inl (.inl hl), atI_nat (j := 2) rfl, _, _, rfl, rfl, ?_⟩
    refine ⟨_, rfl, l, _, 2, 2, rfl, rfl, hl, ixN3 (j := 2) (by decide), ?_⟩
    have e1 : (upd H l (.lst ([V.int a, .int b, .int c].set 2 (.int (c + 1))))) l = some (.lst [.int a, .int b, .int (c + 1)]) := upd_same
    have b1 : SameBut l H (upd H l (.lst ([V.int a, .int b, .int c].set 2 (.int (c + 1))))) := sameBut_upd
    generalize upd H l (.lst ([V.int a, .int b, .int c].set 2 (.int (c + 1)))) = H1 at e1 b1
    refine ⟨_, rfl, l, _, 0, _, rfl, rfl, .inl (.inl e1), atI_nat (j := 0) rfl, ?_⟩
    -- the state
    refine ⟨_, rfl, _, rfl, _, _, rfl, rfl, (show (0 : Int) < 43019 by decide), _, _, rfl, rfl, _, _, rfl, rfl, .inr ⟨?_, ?_⟩, _, rfl, l, _, 2, _, rfl, rfl, .inl (.inl e1), atI_nat (j := 2) rfl, _, _, rfl, rfl, .inl ⟨by omega, by omega⟩, _, _, rfl, rfl, _, _, rfl, rfl, _, _, rfl, rfl, m0, ?_⟩
    · have := Int.emod_nonneg a (show (43019 : Int) ≠ 0 by omega)
      show -(2 ^ 64) < a % 43019 + 28001
      omega
    · have := Int.emod_lt_of_pos a (show (0 : Int) < 43019 by omega)
      show a % 43019 + 28001 < 2 ^ 64
      omega
    refine ⟨_, rfl, l, _, 0, 0, rfl, rfl, e1, ixN3 (j := 0) (by decide), ?_⟩
    refine gen2 (P := fun H2 => ∃ z : Int, H2 l = some (.lst [.int z, .int b, .int (c + 1)]) ∧ SameBut l H H2) (fun H2 p2 => ?_) ⟨_, upd_same, b1.trans sameBut_upd⟩
    obtain ⟨z, e2, b2⟩ := p2
    refine ⟨_, rfl, l, _, 1, _, rfl, rfl, .inl (.inl e2), atI_nat (j := 1) rfl, _, _, rfl, rfl, _, rfl, ?_⟩
    refine ifb (fun _ => ?_) (fun _ => ?_)
    · refine ⟨_, rfl, l, _, 1, _, rfl, rfl, .inl (.inl e2), atI_nat (j := 1) rfl, _, rfl, _, _, rfl, ⟨by omega, by omega⟩, fun p hp => ?_⟩
      have nlp : l ≠ p := ne_of_none e2 hp
      have e3 : (upd H2 p (.tup [.int (b / (u : Int)), .int (b % (u : Int))])) l = some (.lst [.int z, .int b, .int (c + 1)]) := by rw [upd_ne nlp]; exact e2
      refine ⟨p, _, rfl, .inl (.inl upd_same), rfl, _, _, rfl, _, rfl, l, _, 1, 1, rfl, rfl, e3, ixN3 (j := 1) (by decide), _, _, rfl, rfl, ?_⟩
      obtain ⟨r, er, lr⟩ := small b
      rw [er]
      refine ⟨_, rfl, q _ r ?_ ⟨_, _, _, upd_same⟩ lr⟩
      exact (b2.trans (fun x o n e => same_new hp x o e)).trans sameBut_upd
    · refine ⟨_, rfl, l, _, 0, _, rfl, rfl, .inl (.inl e2), atI_nat (j := 0) rfl, _, _, rfl, rfl, ⟨by decide, by decide⟩, _, rfl, _, _, rfl, rfl, by omega, ?_⟩
      obtain ⟨r, er, lr⟩ := small (z / 64)
      have := q H2 r b2 ⟨_, _, _, e2⟩ lr
      rw [← er] at this
      exact this
end
end Fm
set_option maxHeartbeats 8000000
namespace Fm
open PySem PySem.Spec PyProof.Rows L2 FmM
theorem sb_grow {l D : Addr} {H0 H : Hp} {o : HO} (hD : H0 D = none) (s : SameBut l H0 H) : SameBut l H0 (upd H D o) := fun b x n e => by
  rw [upd_ne (ne_of_none e hD)]
  exact s b x n e
theorem sb_new {l p : Addr} {H0 H : Hp} {o : HO} (s : SameBut l H0 H) (h : H p = none) : SameBut l H0 (upd H p o) := fun b x n e => same_new h _ _ (s b x n e)
theorem sb_same {l : Addr} {H0 H H' : Hp} (s : SameBut l H0 H) (t : Same H H') : SameBut l H0 H' := fun b x n e => t _ _ (s b x n e)
theorem PoolAt.same {H H' : Hp} {l : Addr} (s : Same H H') (h : PoolAt H l) : PoolAt H' l := let ⟨a, b, c, e⟩ := h; ⟨a, b, c, s _ _ e⟩
theorem PoolAt.upd {H : Hp} {l D : Addr} {o : HO} (n : l ≠ D) (h : PoolAt H l) : PoolAt (L2.upd H D o) l := let ⟨a, b, c, e⟩ := h; ⟨a, b, c, by rw [upd_ne n]; exact e⟩
theorem PoolAt.ne {H : Hp} {l p : Addr} (h : PoolAt H l) (n : H p = none) : l ≠ p := let ⟨_, _, _, e⟩ := h; ne_of_none e n
theorem sb_fresh {l p : Addr} {H0 H : Hp} (s : SameBut l H0 H) (h : PoolAt H l) (n : H p = none) : H0 p = none := by
  cases e : H0 p with
  | none => rfl
  | some o =>
    have := s p o (Ne.symm (h.ne n)) e
    rw [n] at this
    cases this
theorem SameBut.refl (l : Addr) (H : Hp) : SameBut l H H := fun _ _ _ e => e
section
variable {P : Program} {w : World} {K : PySem.W.Frag} {mg : Str → Option Value} {base : Heap}
theorem map_erase {α β : Type} (g : α → β) : ∀ (L : List α) (i : Nat), (L.map g).eraseIdx i = (L.eraseIdx i).map g
  | [], _ => rfl
  | _ :: _, 0 => rfl
  | x :: L, i + 1 => by rw [List.map_cons, List.eraseIdx_cons_succ, List.eraseIdx_cons_succ, List.map_cons, map_erase g L i]
theorem erase_perm {α : Type} : ∀ {L : List α} {i : Nat} {x : α}, L[i]? = some x → (x :: L.eraseIdx i).Perm L
  | [], _, _, h => by simp at h
  | y :: L, 0, x, h => by
    have : y = x := by simpa using h
    rw [this]
    exact List.Perm.refl _
  | y :: L, i + 1, x, h => by
    rw [List.eraseIdx_cons_succ]
    exact (List.Perm.swap y x _).trans ((erase_perm (by simpa using h)).cons y)
/-! ### a kind, drawn -/
theorem sc_sort : FnScope ["_law_pool_here"] ["_law_pool_here"] (defScope s_l_sort) := ⟨rfl, rfl, rfl, by decide +kernel, rfl, by decide +kernel, by decide +kernel⟩
def spSort : Sp := fun vs H Q _ => ∃ l : Addr, vs = [.ref l] ∧ PoolAt H l ∧ ∀ H' k, SameBut l H H' → PoolAt H' l → Q (.str (kS k)) H'
theorem c_sort (T : Txt K mg) : Cal P w K mg base 2 "_law_sort" spSort := by
  refine cal_of T.d_l_sort sc_sort (fun vs H Q E h => ?_) (fun f cdv A outer s H vs Q E hr h => ?_)
  · obtain ⟨l, rfl, _⟩ := h
    rfl
  · obtain ⟨l, rfl, hl, q⟩ := h
    refine ⟨_, pss_one (ps_ret (pe_ix ix_list (pe_lst (pa_cons pe_str (pa_cons pe_str pa_nil))) (pe_d (c_draw T) hr (by omega) (pa_cons (pv 0) (pa_cons pe_int pa_nil))) (fun _ _ => rfl))), ?_⟩
    refine ⟨by show 2 ≤ sizeLine; decide, fun p hp => ⟨_, rfl, l, 2, rfl, hl.upd (hl.ne hp), by decide, by decide, fun H' r sb hl' hr' => ?_⟩⟩
    have e := sb p _ (Ne.symm (hl.ne hp)) upd_same
    have sb' : SameBut l H H' := fun b x n e => sb b x n (same_new hp _ _ e)
    have : r = 0 ∨ r = 1 := by omega
    rcases this with rfl | rfl
    · exact ⟨p, _, 0, _, rfl, rfl, .inl (.inl e), atI_nat (j := 0) rfl, q _ true sb' hl'⟩
    · exact ⟨p, _, 1, _, rfl, rfl, .inl (.inl e), atI_nat (j := 1) rfl, q _ false sb' hl'⟩
/-! ### things in another order -/
theorem sc_mixed : FnScope ["_law_pool_here", "_law_things", "_law_left", "_law_found", "_law_k"] ["_law_pool_here", "_law_things"] (defScope s_l_mixed) := ⟨rfl, rfl, rfl, by decide +kernel, rfl, by decide +kernel, by decide +kernel⟩
def spMixed : Sp := fun vs H Q _ => ∃ (l t : Addr) (ls : List Str), vs = [.ref l, .ref t] ∧ PoolAt H l ∧ H t = some (.lst (ls.map V.str)) ∧ l ≠ t ∧ ls.length ≤ 8 ∧
  ∀ (H' : Hp) (r : Addr) (ms : List Str), SameBut l H H' → PoolAt H' l → H r = none → H' r = some (.lst (ms.map V.str)) → ms.Perm ls → Q (.ref r) H'
theorem c_mixed (T : Txt K mg) : Cal P w K mg base 2 "_law_mixed" spMixed := by
  refine cal_of T.d_l_mixed sc_mixed (fun vs H Q E h => ?_) (fun f cdv A outer s H vs Q E hr h => ?_)
  · obtain ⟨l, t, ls, rfl, _⟩ := h
    rfl
  · obtain ⟨l, t, ls, rfl, hl, ht, nlt, h8, q⟩ := h
    refine ⟨_, pss_cons (ps_par (i := 2) (j := 3) rfl sc_mixed.nd rfl rfl (by decide) rfl rfl (pa_cons (pe_callTy call_list_of (by rfl) T.b_list bt_list (pa_cons (pv 1) pa_nil)) (pa_cons (pe_lst pa_nil) pa_nil)) (by rfl))
      (pss_cons (ps_for PassesOwn.never rfl (pi_range1 (by rfl) T.b_range (pa_cons (pe_callB call_len (by rfl) T.b_len bt_len (pa_cons (pv 1) pa_nil)) pa_nil)) (pg_name (i := 4) sc_mixed.nd rfl (.inl rfl))
        (pss_one (ps_expr (pe_bm PySem.F.plainAttrs_list PySem.F.slot_list_append PySem.F.type_list_append mt_append (pv 3) (pa_cons (pe_bm PySem.F.plainAttrs_list PySem.F.slot_list_pop PySem.F.type_list_pop mt_popAt (pv 2)
          (pa_cons (pe_d (c_draw T) hr (by omega) (pa_cons (pv 0) (pa_cons (pe_callB call_len (by rfl) T.b_len bt_len (pa_cons (pv 2) pa_nil)) pa_nil))) pa_nil)) pa_nil)))))
      (pss_one (ps_ret (pv 3)))), ?_⟩
    refine ⟨_, rfl, t, _, rfl, .inl (.inl (.inl ht)), fun lf hlf => ⟨Nat.zero_le _, fun fd hfd => ⟨_, _, rfl, ?_⟩⟩⟩
    have s0 : Same H (upd (upd H lf (.lst (ls.map V.str))) fd (.lst [])) := sm_new (same_new hlf) hfd
    have n1 : lf ≠ fd := ne_of_none upd_same hfd
    have n2 : l ≠ lf := hl.ne hlf
    have n3 : l ≠ fd := (hl.upd n2).ne hfd
    have hfd0 : H fd = none := fresh_of (same_new hlf) hfd
    have len0 : ((ls.map V.str).length : Int) = (ls.length : Nat) := by rw [List.length_map]
    refine ⟨_, rfl, _, _, rfl, .inl ⟨_, .inl (.inl (s0 _ _ ht)), rfl⟩, _, rfl, ?_⟩
    rw [len0]
    refine ⟨by omega, by omega, ?_⟩
    rw [show ((ls.length : Nat) : Int).toNat = ls.length from by omega]
    refine for_range (lo := 0) (n := ls.length) (fun i σ H1 => ∃ L F y4, σ = [some (.ref l), some (.ref t), some (.ref lf), some (.ref fd), y4] ∧ SameBut l H H1 ∧ PoolAt H1 l ∧ H1 lf = some (.lst (L.map V.str)) ∧ H1 fd = some (.lst (F.map V.str)) ∧ (F ++ L).Perm ls ∧ F.length = i)
      ⟨ls, [], none, rfl, sm_but s0 l, hl.same s0, by rw [upd_ne n1]; exact upd_same, upd_same, List.Perm.refl _, rfl⟩ (fun i σ H1 hi p1 => ?_) (fun σ H1 p1 => ?_)
    · obtain ⟨L, F, y4, rfl, sb, hl1, el, ef, pm, fl⟩ := p1
      have ln := pm.length_eq
      rw [List.length_append] at ln
      refine ⟨_, rfl, .inl ⟨rfl, _, .inl (.inl ef)⟩, _, rfl, .inl ⟨rfl, _, .inl (.inl el)⟩, _, rfl, _, rfl, _, _, rfl, .inl ⟨_, .inl (.inl el), rfl⟩, l, L.length, by rw [List.length_map]; rfl, hl1, by omega, by omega, fun H2 r sb2 hl2 hr2 => ?_⟩
      have el2 := sb2 lf _ (Ne.symm n2) el
      have ef2 := sb2 fd _ (Ne.symm n3) ef
      have hy : (L.map V.str)[r]? = some (.str L[r]) := by rw [List.getElem?_map, List.getElem?_eq_getElem hr2]; rfl
      refine ⟨lf, _, _, r, _, rfl, rfl, el2, by omega, by omega, seqIx (by rw [List.length_map]; exact hr2), hy, ?_⟩
      have ef3 : (upd H2 lf (.lst ((L.map V.str).eraseIdx r))) fd = some (.lst (F.map V.str)) := by rw [upd_ne (Ne.symm n1)]; exact ef2
      refine ⟨fd, _, _, rfl, rfl, ef3, by rw [List.length_map]; exact small_of (m := 8) (by omega), ?_⟩
      refine ⟨L.eraseIdx r, F ++ [L[r]], _, rfl, sb_grow hfd0 (sb_grow hlf (sb.trans sb2)), (hl2.upd n2).upd n3, ?_, ?_, ?_, by rw [List.length_append, fl]; rfl⟩
      · rw [upd_ne n1, upd_same, map_erase]
      · rw [upd_same, List.map_append]
        rfl
      · refine List.Perm.trans ?_ pm
        rw [List.append_assoc]
        exact (erase_perm (List.getElem?_eq_getElem hr2)).append_left F
    · obtain ⟨L, F, y4, rfl, sb, hl1, el, ef, pm, fl⟩ := p1
      have ln := pm.length_eq
      rw [List.length_append] at ln
      have : L = [] := List.length_eq_zero_iff.mp (by omega)
      subst this
      rw [List.append_nil] at pm
      exact ⟨_, rfl, q _ fd F sb hl1 hfd0 ef pm⟩
end
end Fm
set_option maxHeartbeats 8000000
namespace Fm
open PySem PySem.Spec PyProof.Rows L2 FmM
/-! ### lines that the law makes up -/
def ownW : List Str := ["low", "high", "enter", "go", "rest", "same", "a", "none", "line", "plan", "kind", "undo"]
def lineB (z : Str) : Bool := decide (1 ≤ z.cps.size) && decide (z.cps.size ≤ 6) && z.cps.toList.all fun c => decide (97 ≤ c) && decide (c ≤ 122)
theorem line_of {z : Str} (h : lineB z = true) : Line z := by
  unfold lineB at h
  simp only [Bool.and_eq_true, decide_eq_true_eq, List.all_eq_true] at h
  exact ⟨h.1.1, h.1.2, h.2⟩
theorem own_lines : ∀ z, z ∈ ownW → Line z := fun z hz => line_of (List.all_eq_true.mp (show ownW.all lineB = true by decide +kernel) z hz)
theorem own_nodup : ownW.Nodup := by decide +kernel
theorem map_range_nodup {g : Nat → Str} {n : Nat} (h : ∀ i j, i < j → j < n → g i ≠ g j) : ((List.range n).map g).Nodup := by
  unfold List.Nodup
  rw [List.pairwise_map]
  refine (List.pairwise_lt_range (n := n)).imp_of_mem fun {a b} ha hb hab => h a b hab (List.mem_range.mp hb)
def strides : List Nat := [1, 5, 7, 11]
theorem stride_is {s : Nat} (h : s ∈ strides) : s = 1 ∨ s = 5 ∨ s = 7 ∨ s = 11 := by
  unfold strides at h
  simpa using h
theorem stride12 {s f i j : Nat} (h : s ∈ strides) (hij : i < j) (hj : j < 12) : (f + s * i) % 12 ≠ (f + s * j) % 12 := by
  rcases stride_is h with rfl | rfl | rfl | rfl <;> omega
theorem stride26 {s f i j : Nat} (h : s ∈ strides) (hij : i < j) (hj : j < 26) : (f + s * i) % 26 ≠ (f + s * j) % 26 := by
  rcases stride_is h with rfl | rfl | rfl | rfl <;> omega
theorem own_at {j : Nat} (h : j < 12) : ownW[j]? = some (ownW.getD j Str.empty) := by
  have : j < ownW.length := h
  rw [List.getD_eq_getElem?_getD, List.getElem?_eq_getElem this]
  rfl
theorem own_inj {i j : Nat} (hi : i < 12) (hj : j < 12) (e : ownW.getD i Str.empty = ownW.getD j Str.empty) : i = j := by
  have hi' : i < ownW.length := hi
  have hj' : j < ownW.length := hj
  have e1 := own_at hi
  have e2 := own_at hj
  rw [List.getElem?_eq_getElem hi'] at e1
  rw [List.getElem?_eq_getElem hj'] at e2
  have e3 : ownW[i] = ownW[j] := (Option.some.inj e1).trans (e.trans (Option.some.inj e2).symm)
  exact (List.getElem_inj own_nodup).mp e3
def wordsA (f s n : Nat) : List Str := (List.range n).map fun k => ownW.getD ((f + s * k) % 12) Str.empty
theorem wordsA_ok {f s n : Nat} (hs : s ∈ strides) (hn : n ≤ 8) : (wordsA f s n).Nodup ∧ ∀ z, z ∈ wordsA f s n → Line z := by
  refine ⟨map_range_nodup fun i j hij hj e => stride12 (f := f) hs hij (by omega) (own_inj (Nat.mod_lt _ (by decide)) (Nat.mod_lt _ (by decide)) e), fun z hz => ?_⟩
  obtain ⟨k, _, rfl⟩ := List.mem_map.mp hz
  have : (f + s * k) % 12 < 12 := Nat.mod_lt _ (by decide)
  exact own_lines _ (List.mem_of_getElem? (own_at this))
/-- a letter within a stem -/
def wordB (L : List Nat) (cut b s k : Nat) : Str := SX.S (L.take cut ++ [97 + (b + s * k) % 26] ++ L.drop cut)
def wordsB (L : List Nat) (cut b s n : Nat) : List Str := (List.range n).map (wordB L cut b s)
theorem wordsB_ok {L : List Nat} {cut b s n : Nat} (hs : s ∈ strides) (hn : n ≤ 8) (hL : L.length ≤ 5) (hc : ∀ c, c ∈ L → 97 ≤ c ∧ c ≤ 122) : (wordsB L cut b s n).Nodup ∧ ∀ z, z ∈ wordsB L cut b s n → Line z := by
  refine ⟨map_range_nodup fun i j hij hj e => ?_, fun z hz => ?_⟩
  · have e1 := SX.S_inj e
    have e2 := (List.append_cancel_right e1)
    have e3 := List.append_cancel_left e2
    have e4 : 97 + (b + s * i) % 26 = 97 + (b + s * j) % 26 := (List.cons.inj e3).1
    exact stride26 (f := b) hs hij (by omega) (by omega)
  · obtain ⟨k, _, rfl⟩ := List.mem_map.mp hz
    have hm : (b + s * k) % 26 < 26 := Nat.mod_lt _ (by decide)
    have len : (wordB L cut b s k).cps.size = L.length + 1 := by
      show (L.take cut ++ [97 + (b + s * k) % 26] ++ L.drop cut).toArray.size = _
      rw [List.size_toArray, List.length_append, List.length_append, List.length_take, List.length_drop, List.length_singleton]
      omega
    refine ⟨by omega, by omega, fun c hcm => ?_⟩
    have hcm : c ∈ L.take cut ++ [97 + (b + s * k) % 26] ++ L.drop cut := hcm
    rcases List.mem_append.mp hcm with h | h
    · rcases List.mem_append.mp h with h | h
      · exact hc c (List.mem_of_mem_take h)
      · rw [List.mem_singleton.mp h]; omega
    · exact hc c (List.mem_of_mem_drop h)
def alph : Str := "abcdefghijklmnopqrstuvwxyz"
theorem alph_list : alph.cps.toList = (List.range 26).map (· + 97) := by decide +kernel
theorem alph_at {j : Nat} (h : j < 26) : atI alph.cps.toList (j : Int) = some (97 + j) := by
  refine atI_nat ?_
  rw [alph_list, List.getElem?_map, List.getElem?_range h]
  show some (j + 97) = some (97 + j)
  rw [Nat.add_comm]
theorem joinL_nil : ∀ ys : List (List Nat), TL.joinL [] ys = ys.flatten
  | [] => rfl
  | [p] => by rw [List.flatten_singleton]; rfl
  | p :: q :: r => by
    show p ++ ([] ++ TL.joinL [] (q :: r)) = _
    rw [joinL_nil (q :: r), List.nil_append]
    rfl
theorem join_letters (cs : List Nat) : Txt.join (SX.S []) (cs.map fun c => SX.S [c]) = SX.S cs := by
  have e : (cs.map fun c => SX.S [c]) = (cs.map fun c => [c]).map SX.S := by rw [List.map_map]; rfl
  rw [e, SX.join_S, joinL_nil]
  congr 1
  induction cs with
  | nil => rfl
  | cons c cs ih => rw [List.map_cons, List.flatten_cons]; exact congrArg (c :: ·) (ih (by rw [List.map_map]; rfl))
end Fm
set_option maxHeartbeats 8000000
namespace Fm
open PySem PySem.Spec PyProof.Rows L2 FmM
theorem cut_lo {cs : List Nat} {cut : Nat} (h : cut ≤ cs.length) : cutS (SX.S cs) none (some (cut : Int)) = SX.S (cs.take cut) := by
  unfold cutS
  rw [HT.sIx_none, HT.sIx_nat, SX.S_len, Nat.min_eq_left h, Nat.sub_zero]
  rfl
theorem cut_hi {cs : List Nat} {cut : Nat} (h : cut ≤ cs.length) : cutS (SX.S cs) (some (cut : Int)) none = SX.S (cs.drop cut) := by
  unfold cutS
  rw [HT.sIx_none, HT.sIx_nat, SX.S_len, Nat.min_eq_left h]
  show SX.S ((cs.drop cut).take (cs.length - cut)) = _
  rw [List.take_of_length_le (by rw [List.length_drop]; exact Nat.le_refl _)]
section
variable {P : Program} {w : World} {K : PySem.W.Frag} {mg : Str → Option Value} {base : Heap}
abbrev nCalls : List Str := ["_law_pool_here", "_law_many", "_law_own", "_law_first", "_law_stride", "_law_letters", "_law_stem", "_law_cut", "_law_begin", "_law_signs", "_law_k", "_law_sign"]
theorem sc_calls : FnScope nCalls ["_law_pool_here", "_law_many"] (defScope s_l_calls) := ⟨rfl, rfl, rfl, by decide +kernel, rfl, by decide +kernel, by decide +kernel⟩
def spCalls : Sp := fun vs H Q _ => ∃ (l : Addr) (m : Nat), vs = [.ref l, .int (m : Nat)] ∧ PoolAt H l ∧ m ≤ 8 ∧
  ∀ (H' : Hp) (r : Addr) (ls : List Str), SameBut l H H' → PoolAt H' l → H r = none → H' r = some (.lst (ls.map V.str)) → Asc ls → (∀ z, z ∈ ls → Line z) → ls.length = m → Q (.ref r) H'
theorem c_calls (T : Txt K mg) : Cal P w K mg base 2 "_law_calls" spCalls := by
  refine cal_of T.d_l_calls sc_calls (fun vs H Q E h => ?_) (fun f cdv A outer s H vs Q E hr h => ?_)
  · obtain ⟨l, m, rfl, _⟩ := h
    rfl
  · obtain ⟨l, m, rfl, hl, h8, q⟩ := h
    refine ⟨_, pss_cons (ps_set (i := 2) sc_calls.nd rfl (.inr rfl) (pe_lst (pa_cons pe_str (pa_cons pe_str (pa_cons pe_str (pa_cons pe_str (pa_cons pe_str (pa_cons pe_str (pa_cons pe_str (pa_cons pe_str (pa_cons pe_str (pa_cons pe_str (pa_cons pe_str (pa_cons pe_str pa_nil))))))))))))))
      (pss_cons (ps_asg (pe_tup (pa_cons (pe_d (c_draw T) hr (by omega) (pa_cons (pv 0) (pa_cons pe_int pa_nil))) (pa_cons (pe_ix ix_list (pe_lst (pa_cons pe_int (pa_cons pe_int (pa_cons pe_int (pa_cons pe_int pa_nil))))) (pe_d (c_draw T) hr (by omega) (pa_cons (pv 0) (pa_cons pe_int pa_nil))) (fun _ _ => rfl)) pa_nil)))
          (pg_tup rfl (pgs_cons (pg_name (i := 3) sc_calls.nd rfl (.inr rfl)) (pgs_cons (pg_name (i := 4) sc_calls.nd rfl (.inr rfl)) pgs_nil))))
      (pss_cons (ps_if (pt_cmpR op_eq (pe_d (c_draw T) hr (by omega) (pa_cons (pv 0) (pa_cons pe_int pa_nil))) pe_int (nomark _))
        (pss_one (ps_ret (pe_callB cr_sortedS (by rfl) T.b_sorted bt_sorted (pa_cons (pe_lc (own := [("_law_k", 10)]) (g := gName 10) (tt := tYes) (te := tOp (rIxL K) (tVar 2) (tOp (rI (fun _ j => 0 < j) fun i j => .int (i % j)) (tOp (rI0 fun i j => .int (i + j)) (tVar 3) (tOp (rI CMul fun i j => .int (i * j)) (tVar 4) (tVar 10))) (tC (.int 12)))) rfl sc_calls.nd (pi_range1 (by rfl) T.b_range (pa_cons (pv 1) pa_nil))
            (blkOk_by (N := nCalls) (sc := defScope s_l_calls) (by decide +kernel)) (fun _ _ _ _ _ => pg_name (i := 10) sc_calls.nd rfl (Or.inl rfl)) (fun _ _ _ _ _ => pts_nil)
            (fun _ _ _ _ _ => pe_ix ix_list (pv 2) (pe_op op_mod (pe_op op_add (pv 3) (pe_op op_mul (pv 4) (pv 10))) pe_int) (fun _ _ => rfl))) pa_nil)))) pss_nil)
      (pss_cons (ps_set (i := 5) sc_calls.nd rfl (.inr rfl) pe_str)
      (pss_cons (ps_set (i := 6) sc_calls.nd rfl (.inr rfl) (pe_join pe_str (pe_lc (own := [("_law_k", 10)]) (g := gName 10) (tt := tYes) rfl sc_calls.nd (pi_range1 (by rfl) T.b_range (pa_cons (pe_d (c_draw T) hr (by omega) (pa_cons (pv 0) (pa_cons pe_int pa_nil))) pa_nil))
            (blkOk_by (N := nCalls) (sc := defScope s_l_calls) (by decide +kernel)) (fun _ _ _ _ _ => pg_name (i := 10) sc_calls.nd rfl (Or.inl rfl)) (fun _ _ _ _ _ => pts_nil)
            (fun _ _ _ _ _ => pe_ix ix_str (pv 5) (pe_d (c_draw T) hr (by omega) (pa_cons (pv 0) (pa_cons pe_int pa_nil))) (fun _ _ => rfl)))))
      (pss_cons (ps_asg (pe_tup (pa_cons (pe_d (c_draw T) hr (by omega) (pa_cons (pv 0) (pa_cons (pe_op op_add (pe_callB call_len (by rfl) T.b_len bt_len (pa_cons (pv 6) pa_nil)) pe_int) pa_nil))) (pa_cons (pe_d (c_draw T) hr (by omega) (pa_cons (pv 0) (pa_cons pe_int pa_nil))) pa_nil)))
          (pg_tup rfl (pgs_cons (pg_name (i := 7) sc_calls.nd rfl (.inr rfl)) (pgs_cons (pg_name (i := 8) sc_calls.nd rfl (.inr rfl)) pgs_nil))))
      (pss_cons (ps_setLc (i := 9) (own := [("_law_k", 10)]) (g := gName 10) (tt := tYes) (te := tOp rIxS (tVar 5) (tOp (rI (fun _ j => 0 < j) fun i j => .int (i % j)) (tOp (rI0 fun i j => .int (i + j)) (tVar 8) (tOp (rI CMul fun i j => .int (i * j)) (tVar 4) (tVar 10))) (tC (.int 26)))) rfl sc_calls.nd rfl rfl (by rfl) (pi_range1 (by rfl) T.b_range (pa_cons (pv 1) pa_nil))
            (blkOk_by (N := nCalls) (sc := defScope s_l_calls) (by decide +kernel)) (fun _ _ _ _ _ => pg_name (i := 10) sc_calls.nd rfl (Or.inl rfl)) (fun _ _ _ _ _ => pts_nil)
            (fun _ _ _ _ _ => pe_ix ix_str (pv 5) (pe_op op_mod (pe_op op_add (pv 8) (pe_op op_mul (pv 4) (pv 10))) pe_int) (fun _ _ => rfl)))
      (pss_one (ps_ret (pe_callB cr_sortedS (by rfl) T.b_sorted bt_sorted (pa_cons (pe_lc (own := [("_law_sign", 11)]) (g := gName 11) (tt := tYes) rfl sc_calls.nd (pi_list (pv 9))
            (blkOk_by (N := nCalls) (sc := defScope s_l_calls) (by decide +kernel)) (fun _ _ _ _ _ => pg_name (i := 11) sc_calls.nd rfl (Or.inl rfl)) (fun _ _ _ _ _ => pts_nil)
            (fun _ _ _ _ _ => pe_op op_add_str (pe_op op_add_str (pe_slice sl_str (pv 6) po_none (po_some (pv 7))) (pv 11)) (pe_slice sl_str (pv 6) (po_some (pv 7)) po_none))) pa_nil)))))))))), ?_⟩
    -- own words
    refine ⟨by show 12 ≤ sizeLine; decide, fun ow how => ?_⟩
    refine gen2 (P := fun H1 => SameBut l H H1 ∧ PoolAt H1 l ∧ H1 ow = some (.lst (ownW.map V.str))) (fun H1 p1 => ?_) ⟨sm_but (same_new how) l, hl.upd (hl.ne how), upd_same⟩
    obtain ⟨sb1, hl1, ho1⟩ := p1
    have low : l ≠ ow := hl.ne how
    -- the first, the stride
    refine ⟨_, rfl, l, 12, rfl, hl1, by decide, by decide, fun H2 fi sb2 hl2 hfi => ?_⟩
    refine ⟨by show 4 ≤ sizeLine; decide, fun sl hsl => ⟨_, rfl, l, 4, rfl, hl2.upd (hl2.ne hsl), by decide, by decide, fun H3 r sb3 hl3 hr3 => ?_⟩⟩
    have es3 : H3 sl = some (.lst [.int 1, .int 5, .int 7, .int 11]) := sb3 sl _ (Ne.symm (hl2.ne hsl)) upd_same
    obtain ⟨st, hst, hat⟩ : ∃ st : Nat, st ∈ strides ∧ [V.int 1, .int 5, .int 7, .int 11][r]? = some (.int (st : Nat)) := by
      have : r = 0 ∨ r = 1 ∨ r = 2 ∨ r = 3 := by omega
      rcases this with rfl | rfl | rfl | rfl
      · exact ⟨1, by decide, rfl⟩
      · exact ⟨5, by decide, rfl⟩
      · exact ⟨7, by decide, rfl⟩
      · exact ⟨11, by decide, rfl⟩
    refine ⟨sl, _, r, _, rfl, rfl, .inl (.inl es3), atI_nat hat, by show 2 ≤ sizeLine; decide, fun t ht => ⟨t, _, rfl, .inl (.inl upd_same), rfl, _, _, rfl, _, _, rfl, rfl, ?_⟩⟩
    have sb2' : SameBut l H H2 := sb1.trans sb2
    refine gen2 (P := fun H4 => SameBut l H H4 ∧ PoolAt H4 l ∧ H4 ow = some (.lst (ownW.map V.str))) (fun H4 p4 => ?_)
      ⟨sb_new ((sb_new sb2' hsl).trans sb3) ht, hl3.upd (hl3.ne ht), same_new ht _ _ (sb3 _ _ (Ne.symm low) (same_new hsl _ _ (sb2 _ _ (Ne.symm low) ho1)))⟩
    obtain ⟨sb4, hl4, ho4⟩ := p4
    have hs11 : st ≤ 11 := by rcases stride_is hst with rfl | rfl | rfl | rfl <;> decide
    refine ⟨_, rfl, l, 3, rfl, hl4, by decide, by decide, fun H5 r5 sb5 hl5 hr5 => ⟨rfl, _, rfl, ?_⟩⟩
    have sbH5 := sb4.trans sb5
    have ho5 := sb5 _ _ (Ne.symm low) ho4
    refine ifb (fun _ => ?_) (fun _ => ?_)
    · -- own words, ascending
      refine ⟨_, rfl, (m : Int), rfl, by omega, by omega, ?_⟩
      rw [show ((m : Nat) : Int).toNat = m from by omega]
      refine fun D hD => ?_
      refine loop_it walk_range (LcI H5 D fun i acc _ => acc = (wordsA fi st i).map V.str) (LcI.start hD rfl) (fun _ _ _ _ => trivial) (fun i x H6o H6 hi p6 hy => ?_) fun H6 p6 => ?_
      · obtain ⟨acc, hDa, sm6, ea⟩ := p6
        obtain ⟨rfl, rfl⟩ := hy
        have hm12 : (fi + st * i) % 12 < 12 := Nat.mod_lt _ (by decide)
        have ei : ((fi : Int) + (st : Int) * (0 + (i : Int))) % 12 = (((fi + st * i) % 12 : Nat) : Int) := by
          rw [Int.zero_add]
          omega
        refine ⟨rfl, kept ⟨_, rfl, _, rfl, _, rfl, _, rfl, _, _, rfl, rfl, .inl ⟨by omega, by omega⟩, _, _, rfl, rfl, _, _, rfl, rfl, (show (0 : Int) < 12 by decide), ow, _, _, .str (ownW.getD ((fi + st * i) % 12) Str.empty), rfl, rfl, .inl (.inl (sm6 _ _ ho5)), ?_, acc, hDa, ?_, LcI.push hD sm6 ?_⟩⟩
        · show atI (ownW.map V.str) (((fi : Int) + (st : Int) * (0 + (i : Int))) % 12) = _
          rw [ei]
          exact atI_nat (by rw [List.getElem?_map, own_at hm12]; rfl)
        · rw [ea, List.length_map]
          unfold wordsA
          rw [List.length_map, List.length_range]
          exact small_of (m := 8) (by omega)
        · rw [ea]
          unfold wordsA
          rw [List.range_succ, List.map_append, List.map_append]
          rfl
      · obtain ⟨acc, hDa, sm6, ea⟩ := p6
        obtain ⟨w1, w2⟩ := wordsA_ok (f := fi) hst h8
        have wl : (wordsA fi st m).length = m := by unfold wordsA; rw [List.length_map, List.length_range]
        refine ⟨D, wordsA fi st m, rfl, .inl (.inl (by rw [hDa, ea])), by omega, fun ys c py sy hc => ?_⟩
        have ey := sorted_is py sy
        subst ey
        have smc : Same H5 (upd H6 c (.lst ((srt (wordsA fi st m)).map V.str))) := sm_new sm6 hc
        refine q _ c _ (sb_same sbH5 smc) (hl5.same smc) (sb_fresh sbH5 hl5 (fresh_of sm6 hc)) upd_same (srt_asc w1) (fun z hz => w2 z (srt_mem.mp hz)) (by rw [srt_len, wl])
    · -- a stem with a letter
      refine ⟨⟨_, rfl⟩, ⟨_, rfl, l, 6, rfl, hl5, by decide, by decide, fun H6 n sb6 hl6 hn => ⟨(n : Int), rfl, by omega, by omega, ?_⟩⟩⟩
      rw [show ((n : Nat) : Int).toNat = n from by omega]
      refine fun D hD => ?_
      have nlD : l ≠ D := hl6.ne hD
      refine loop_it walk_range (fun i H' => ∃ cs : List Nat, H' D = some (.lst (cs.map fun c => V.str (SX.S [c]))) ∧ SameBut l H6 H' ∧ PoolAt H' l ∧ cs.length = i ∧ ∀ c, c ∈ cs → 97 ≤ c ∧ c ≤ 122) ⟨[], upd_same, sm_but (same_new hD) l, hl6.upd nlD, rfl, fun c hc => by simp at hc⟩ (fun _ _ _ _ => trivial) (fun i x H7o H7 hi p7 hy => ?_) fun H7 p7 => ?_
      · obtain ⟨cs, hDa, sb7, hl7, ci, cl⟩ := p7
        obtain ⟨rfl, rfl⟩ := hy
        refine ⟨rfl, kept ⟨_, rfl, _, rfl, l, 26, rfl, hl7, by decide, by decide, fun H8 r8 sb8 hl8 hr8 => ⟨alph, _, _, rfl, rfl, by decide, alph_at hr8, _, sb8 _ _ (Ne.symm nlD) hDa, ?_, cs ++ [97 + r8], ?_, sb_grow hD (sb7.trans sb8), hl8.upd nlD, ?_, ?_⟩⟩⟩
        · rw [List.length_map]
          exact small_of (m := 8) (by omega)
        · rw [upd_same, List.map_append]
          rfl
        · rw [List.length_append, ci]; rfl
        · intro c hc
          rcases List.mem_append.mp hc with h | h
          · exact cl c h
          · rw [List.mem_singleton.mp h]; omega
      · obtain ⟨cs, hDa, sb7, hl7, ci, cl⟩ := p7
        have ej : Txt.join ("" : Str) (cs.map fun c => SX.S [c]) = SX.S cs := by
          have : ("" : Str) = SX.S [] := by decide +kernel
          rw [this]
          exact join_letters cs
        refine ⟨"", D, cs.map fun c => SX.S [c], rfl, rfl, .inl (.inl (.inl (by rw [hDa, List.map_map]; rfl))), ?_, ?_⟩
        · rw [List.length_map, List.map_map]
          have : ((fun x : Str => x.length) ∘ fun c => SX.S [c]) = fun _ : Nat => 1 := rfl
          rw [this]
          have h0 : ("" : Str).length = 0 := by decide +kernel
          rw [h0, List.map_const', List.sum_replicate_nat]
          omega
        · rw [ej]
          have sbH7 : SameBut l H H7 := (sbH5.trans sb6).trans sb7
          have hn5 : cs.length ≤ 5 := by omega
          -- the place of the letter
          have lenS : (SX.S cs).length = cs.length := SX.S_len cs
          refine ⟨_, rfl, _, rfl, _, _, rfl, ⟨by rw [lenS]; exact small_le (m := 8) (by omega), rfl⟩, _, _, rfl, rfl, l, cs.length + 1, ?_, hl7, by omega, by omega, fun H8 cut sb8 hl8 hcut => ?_⟩
          · rw [lenS]; rfl
          refine ⟨_, rfl, l, 26, rfl, hl8, by decide, by decide, fun H9 b sb9 hl9 hb9 => ?_⟩
          refine ⟨by show 2 ≤ sizeLine; decide, fun t2 ht2 => ⟨t2, _, rfl, .inl (.inl upd_same), rfl, _, _, rfl, _, _, rfl, rfl, ?_⟩⟩
          refine gen2 (P := fun H10 => SameBut l H H10 ∧ PoolAt H10 l) (fun H10 p10 => ?_) ⟨sb_new ((sbH7.trans sb8).trans sb9) ht2, hl9.upd (hl9.ne ht2)⟩
          obtain ⟨sb10, hl10⟩ := p10
          -- the letters
          refine ⟨_, rfl, (m : Int), rfl, by omega, by omega, ?_⟩
          rw [show ((m : Nat) : Int).toNat = m from by omega]
          refine fun D2 hD2 => ?_
          refine loop_it walk_range (LcI H10 D2 fun i acc _ => acc = (List.range i).map fun k => V.str (SX.S [97 + (b + st * k) % 26])) (LcI.start hD2 rfl) (fun _ _ _ _ => trivial) (fun i x H11o H11 hi p11 hy => ?_) fun H11 p11 => ?_
          · obtain ⟨acc, hDa2, sm11, ea⟩ := p11
            obtain ⟨rfl, rfl⟩ := hy
            have hm26 : (b + st * i) % 26 < 26 := Nat.mod_lt _ (by decide)
            have ei : ((b : Int) + (st : Int) * (0 + (i : Int))) % 26 = (((b + st * i) % 26 : Nat) : Int) := by
              rw [Int.zero_add]
              omega
            refine ⟨rfl, kept ⟨_, rfl, _, rfl, _, rfl, _, rfl, _, _, rfl, rfl, .inl ⟨by omega, by omega⟩, _, _, rfl, rfl, _, _, rfl, rfl, (show (0 : Int) < 26 by decide), alph, _, 97 + (b + st * i) % 26, rfl, rfl, by decide, ?_, acc, hDa2, ?_, LcI.push hD2 sm11 ?_⟩⟩
            · show atI alph.cps.toList (((b : Int) + (st : Int) * (0 + (i : Int))) % 26) = _
              rw [ei]
              exact alph_at hm26
            · rw [ea, List.length_map, List.length_range]
              exact small_of (m := 8) (by omega)
            · rw [ea, List.range_succ, List.map_append]
              rfl
          · obtain ⟨acc2, hDa2, sm11, ea2⟩ := p11
            have hl11 := hl10.same sm11
            -- the words
            refine ⟨_, rfl, D2, rfl, ⟨_, .inl (.inl hDa2)⟩, fun D3 hD3 => ?_⟩
            have al : acc2.length = m := by rw [ea2, List.length_map, List.length_range]
            refine loop_it (walk_list (xs := acc2)) (LcI H11 D3 fun i acc _ => acc = (wordsB cs cut b st i).map V.str) (LcI.start hD3 rfl) (fun i H12 _ p12 => ?_) (fun i x H12o H12 hi p12 hy => ?_) fun H12 p12 => ?_
            · obtain ⟨acc, _, sm12, _⟩ := p12
              exact .inl (.inl (sm12 _ _ hDa2))
            · obtain ⟨acc, hDa3, sm12, ea⟩ := p12
              obtain ⟨rfl, hx⟩ := hy
              have hi' : i < m := by omega
              have ex : x = V.str (SX.S [97 + (b + st * i) % 26]) := by
                rw [ea2, List.getElem?_map, List.getElem?_range hi'] at hx
                exact (Option.some.inj hx).symm
              subst ex
              have cl' : cut ≤ cs.length := by omega
              have zS : (SX.S cs).length ≤ sizeLine := by rw [lenS]; exact small_le (m := 8) (by omega)
              refine ⟨rfl, kept ⟨_, rfl, _, rfl, _, rfl, SX.S cs, rfl, zS, _, rfl, _, _, rfl, rfl, ?_, _, rfl, _, rfl, _, rfl, SX.S cs, rfl, zS, _, _, rfl, rfl, ?_, acc, hDa3, ?_, LcI.push hD3 sm12 ?_⟩⟩
              · rw [cut_lo cl', SX.S_len, List.length_take, SX.S_len, List.length_singleton]
                exact small_le (m := 100) (by omega)
              · rw [cut_lo cl', cut_hi cl', SX.S_cat, SX.S_len, SX.S_len, List.length_append, List.length_take, List.length_drop, List.length_singleton]
                exact small_le (m := 100) (by omega)
              · rw [ea, List.length_map]
                unfold wordsB
                rw [List.length_map, List.length_range]
                exact small_of (m := 8) (by omega)
              · rw [cut_lo cl', cut_hi cl', SX.S_cat, SX.S_cat, ea]
                unfold wordsB
                rw [List.range_succ, List.map_append, List.map_append]
                rfl
            · obtain ⟨acc, hDa3, sm12, ea⟩ := p12
              rw [al] at ea
              obtain ⟨w1, w2⟩ := wordsB_ok (cut := cut) (b := b) hst h8 hn5 cl
              have wl : (wordsB cs cut b st m).length = m := by unfold wordsB; rw [List.length_map, List.length_range]
              refine ⟨D3, wordsB cs cut b st m, rfl, .inl (.inl (by rw [hDa3, ea])), by omega, fun ys c py sy hc => ?_⟩
              have ey := sorted_is py sy
              subst ey
              have smc : Same H10 (upd H12 c (.lst ((srt (wordsB cs cut b st m)).map V.str))) := sm_new (sm11.trans sm12) hc
              refine q _ c _ (sb_same sb10 smc) (hl10.same smc) (sb_fresh sb10 hl10 (fresh_of (sm11.trans sm12) hc)) upd_same (srt_asc w1) (fun z hz => w2 z (srt_mem.mp hz)) (by rw [srt_len, wl])
end
end Fm
set_option maxHeartbeats 8000000
namespace Fm
open PySem PySem.Spec PyProof.Rows L2 FmM
theorem cutV_take {xs : List V} {k : Nat} (h : k ≤ xs.length) : cutV xs none (some (k : Int)) = xs.take k := by
  unfold cutV
  rw [HT.sIx_none, HT.sIx_nat, Nat.min_eq_left h, Nat.sub_zero, List.drop_zero]
theorem cutV_mid {xs : List V} {a b : Nat} (h : a ≤ b) (hb : b ≤ xs.length) : cutV xs (some (a : Int)) (some (b : Int)) = (xs.drop a).take (b - a) := by
  unfold cutV
  rw [HT.sIx_nat, HT.sIx_nat, Nat.min_eq_left hb, Nat.min_eq_left (Nat.le_trans h hb)]
theorem cutV_drop {xs : List V} {k : Nat} (h : k ≤ xs.length) : cutV xs (some (k : Int)) none = xs.drop k := by
  unfold cutV
  rw [HT.sIx_none, HT.sIx_nat, Nat.min_eq_left h]
  exact List.take_of_length_le (by rw [List.length_drop]; exact Nat.le_refl _)
theorem PlansAt.take {H : Hp} : ∀ {ps : List (Plan Str)} {vs : List V} (n : Nat), PlansAt H vs ps → PlansAt H (vs.take n) (ps.take n)
  | _, _, 0, _ => by rw [List.take_zero, List.take_zero]; exact PlansAt.nil
  | [], vs, n + 1, h => by rw [PlansAt] at h; rw [h]; exact PlansAt.nil
  | p :: ps, vs, n + 1, h => by
    rw [PlansAt] at h
    obtain ⟨v, r, e, h1, h2⟩ := h
    rw [e]
    exact PlansAt.cons h1 (h2.take n)
theorem PlansAt.drop {H : Hp} : ∀ {ps : List (Plan Str)} {vs : List V} (n : Nat), PlansAt H vs ps → PlansAt H (vs.drop n) (ps.drop n)
  | _, _, 0, h => h
  | [], vs, n + 1, h => by rw [PlansAt] at h; rw [h]; exact PlansAt.nil
  | p :: ps, vs, n + 1, h => by
    rw [PlansAt] at h
    obtain ⟨v, r, e, h1, h2⟩ := h
    rw [e]
    exact h2.drop n
theorem leaves_at {H : Hp} : ∀ ms : List Str, PlansAt H (ms.map V.str) (ms.map Plan.leaf)
  | [] => PlansAt.nil
  | m :: ms => PlansAt.cons (by rw [PlanAt]) (leaves_at ms)
theorem leaves_lines : ∀ ms : List Str, linesL (ms.map Plan.leaf) = ms
  | [] => by rw [List.map_nil, linesL]
  | m :: ms => by rw [List.map_cons, linesL, Plan.lines, leaves_lines ms]; rfl
section
variable {P : Program} {w : World} {K : PySem.W.Frag} {mg : Str → Option Value} {base : Heap}
theorem sc_tree : FnScope ["_law_pool_here", "_law_calls_here", "_law_left", "_law_many", "_law_at"] ["_law_pool_here", "_law_calls_here"] (defScope s_l_tree) := ⟨rfl, rfl, rfl, by decide +kernel, rfl, by decide +kernel, by decide +kernel⟩
def spTree : Sp := fun vs H Q _ => ∃ (l t : Addr) (ls : List Str), vs = [.ref l, .ref t] ∧ PoolAt H l ∧ H t = some (.lst (ls.map V.str)) ∧ l ≠ t ∧ 1 ≤ ls.length ∧ ls.length ≤ 8 ∧
  ∀ (H' : Hp) (r : V) (p : Plan Str), SameBut l H H' → PoolAt H' l → PlanAt H' r p → p.Good → p.lines.Perm ls → Q r H'
theorem c_tree (T : Txt K mg) : Cal P w K mg base 3 "_law_tree" spTree := by
  refine cal_of T.d_l_tree sc_tree (fun vs H Q E h => ?_) (fun f cdv A outer s H vs Q E hr h => ?_)
  · obtain ⟨l, t, ls, rfl, _⟩ := h
    rfl
  · obtain ⟨l, t, ls, rfl, hl, ht, nlt, h1, h8, q⟩ := h
    refine ⟨_, pss_cons (ps_set (i := 2) sc_tree.nd rfl (.inl rfl) (pe_d (c_mixed T) hr (by omega) (pa_cons (pv 0) (pa_cons (pv 1) pa_nil))))
      (pss_cons (ps_while PassesOwn.never (pt_cmpR op_gt (pe_callB call_len (by rfl) T.b_len bt_len (pa_cons (pv 2) pa_nil)) pe_int (nomark _))
        (pss_cons (ps_set (i := 3) sc_tree.nd rfl (.inl rfl) (pe_op op_add pe_int (pe_d (c_draw T) hr (by omega) (pa_cons (pv 0) (pa_cons (pe_callB (call_min2 rfl) (by rfl) T.b_min bt_min (pa_cons pe_int (pa_cons (pe_op op_sub (pe_callB call_len (by rfl) T.b_len bt_len (pa_cons (pv 2) pa_nil)) pe_int) pa_nil))) pa_nil)))))
        (pss_cons (ps_set (i := 4) sc_tree.nd rfl (.inl rfl) (pe_d (c_draw T) hr (by omega) (pa_cons (pv 0) (pa_cons (pe_op op_add (pe_op op_sub (pe_callB call_len (by rfl) T.b_len bt_len (pa_cons (pv 2) pa_nil)) (pv 3)) pe_int) pa_nil))))
        (pss_one (ps_set (i := 2) sc_tree.nd rfl (.inl rfl) (pe_op op_cat (pe_op op_cat (pe_slice sl_list (pv 2) po_none (po_some (pv 4)))
            (pe_lst (pa_cons (pe_tup (pa_cons (pe_d (c_sort T) hr (by omega) (pa_cons (pv 0) pa_nil)) (pa_cons (pe_callTy call_tuple_of (by rfl) T.b_tuple bt_tuple (pa_cons (pe_slice sl_list (pv 2) (po_some (pv 4)) (po_some (pe_op op_add (pv 4) (pv 3)))) pa_nil)) pa_nil))) pa_nil)))
            (pe_slice sl_list (pv 2) (po_some (pe_op op_add (pv 4) (pv 3))) po_none)))))))
      (pss_one (ps_ret (pe_ix ix_list (pv 2) pe_int (fun _ _ => rfl))))), ?_⟩
    refine ⟨_, rfl, _, rfl, l, t, ls, rfl, hl, ht, nlt, h8, fun H1 r1 ms sb1 hl1 hrn hm1 pm => ?_⟩
    refine ⟨fun m σ H2 => ∃ lf vs ps y3 y4, σ = [some (.ref l), some (.ref t), some (.ref lf), y3, y4] ∧ SameBut l H H2 ∧ PoolAt H2 l ∧ H2 lf = some (.lst vs) ∧ l ≠ lf ∧ PlansAt H2 vs ps ∧ GoodL ps ∧ (linesL ps).Perm ls ∧ 1 ≤ ps.length ∧ ps.length = m,
      ⟨ms.length, r1, ms.map V.str, ms.map Plan.leaf, none, none, rfl, sb1, hl1, hm1, ?_, leaves_at ms, goodL_of fun p hp => ?_, by rw [leaves_lines]; exact pm, by rw [List.length_map, pm.length_eq]; exact h1, List.length_map _⟩, fun m σ H2 p2 => ?_⟩
    · exact hl.ne hrn
    · obtain ⟨z, _, rfl⟩ := List.mem_map.mp hp
      rw [Plan.Good]
      trivial
    · obtain ⟨lf, vs, ps, y3, y4, rfl, sb2, hl2, hlf, nlf, pat, gd, pm2, one, em⟩ := p2
      have vl : vs.length = ps.length := pat.len
      have ps8 : ps.length ≤ 8 := by
        have h1 := linesL_len gd
        have h2 := pm2.length_eq
        omega
      have sL : SqL K H2 lf vs := .inl (.inl hlf)
      refine ⟨_, rfl, _, _, rfl, .inl ⟨_, sL, rfl⟩, _, _, rfl, rfl, _, rfl, ?_⟩
      refine ifb (fun h => ?_) (fun h => ?_)
      · have two : (1 : Int) < (vs.length : Nat) := of_decide_eq_true h
        refine ⟨_, fun _ _ h => h, ?_⟩
        -- many
        obtain ⟨u, hu, hmin⟩ : ∃ u : Nat, 0 < u ∧ (if ((vs.length : Nat) : Int) - 1 < 3 then ((vs.length : Nat) : Int) - 1 else 3) = (u : Nat) ∧ u ≤ vs.length - 1 ∧ u ≤ 3 := by
          by_cases c : ((vs.length : Nat) : Int) - 1 < 3
          · exact ⟨vs.length - 1, by omega, by rw [if_pos c]; omega, by omega, by omega⟩
          · exact ⟨3, by omega, by rw [if_neg c]; rfl, by omega, by omega⟩
        obtain ⟨eu, u1, u2⟩ := hmin
        refine ⟨_, rfl, _, rfl, _, _, rfl, .inl ⟨_, sL, rfl⟩, _, _, rfl, rfl, _, _, rfl, l, u, by rw [eu]; rfl, hl2, hu, by omega, fun H3 r3 sb3 hl3 hr3 => ?_⟩
        have hlf3 := sb3 _ _ (Ne.symm nlf) hlf
        have t23 : Tups H2 H3 := fun b xs e => sb3 b _ (fun e' => by
          obtain ⟨a1, a2, a3, e3⟩ := hl2
          rw [e', e3] at e
          cases e) e
        have sL3 : SqL K H3 lf vs := .inl (.inl hlf3)
        refine ⟨_, _, rfl, rfl, ?_⟩
        -- at
        refine ⟨_, rfl, _, rfl, _, _, rfl, .inl ⟨_, sL3, rfl⟩, _, rfl, _, _, rfl, rfl, _, _, rfl, rfl, l, vs.length - (2 + r3) + 1, ?_, hl3, by omega, by omega, fun H4 at' sb4 hl4 hat => ?_⟩
        · have : ((vs.length : Nat) : Int) - (2 + (r3 : Nat)) + 1 = ((vs.length - (2 + r3) + 1 : Nat) : Int) := by omega
          show [V.ref l, V.int (((vs.length : Nat) : Int) - (2 + (r3 : Nat)) + 1)] = _
          rw [this]
        have hlf4 := sb4 _ _ (Ne.symm nlf) hlf3
        have t34 : Tups H3 H4 := fun b xs e => sb4 b _ (fun e' => by
          obtain ⟨a1, a2, a3, e3⟩ := hl3
          rw [e', e3] at e
          cases e) e
        have pat4 := pat.tups (t23.trans t34)
        have sL4 : SqL K H4 lf vs := .inl (.inl hlf4)
        have em2 : (2 : Int) + (r3 : Nat) = ((2 + r3 : Nat) : Int) := by omega
        have ea : (at' : Int) + ((2 : Int) + (r3 : Nat)) = ((at' + (2 + r3) : Nat) : Int) := by omega
        -- the new list
        refine ⟨_, rfl, _, rfl, at', rfl, lf, vs, rfl, sL4, fun pa hpa => ?_⟩
        have npa : l ≠ pa := hl4.ne hpa
        refine ⟨_, rfl, l, rfl, hl4.upd npa, fun H5 k sb5 hl5 => ?_⟩
        have pa5 : H5 pa = some (.lst (cutV vs none (some (at' : Int)))) := sb5 _ _ (Ne.symm npa) upd_same
        have hlf5 : H5 lf = some (.lst vs) := sb5 _ _ (Ne.symm nlf) (same_new hpa _ _ hlf4)
        have t45 : Tups H4 H5 := fun b xs e => sb5 b _ (fun e' => by
          obtain ⟨a1, a2, a3, e3⟩ := hl4
          rw [e', e3] at e
          cases e) (same_new hpa _ _ e)
        refine ⟨_, rfl, _, rfl, at', rfl, _, rfl, _, rfl, _, _, rfl, rfl, _, rfl, lf, vs, rfl, .inl (.inl hlf5), fun pb hpb => ⟨pb, _, rfl, .inl ⟨.inl (.inl upd_same), fun pc hpc => ?_⟩⟩⟩
        refine ⟨by show 2 ≤ sizeLine; decide, fun pd hpd => ⟨by show 1 ≤ sizeLine; decide, fun pe hpe => ?_⟩⟩
        -- so far: pa the front, pb the middle, pc its tuple, pd the junction, pe the list of it
        have sN := sm_new (o := .lst [V.ref pd]) (sm_new (o := .tup [.str (kS k), .ref pc]) (sm_new (o := .tup (cutV vs (some (at' : Int)) (some ((at' : Int) + ((2 : Int) + (r3 : Nat)))))) (same_new (o := .lst (cutV vs (some (at' : Int)) (some ((at' : Int) + ((2 : Int) + (r3 : Nat)))))) hpb) hpc) hpd) hpe
        have mid : cutV vs (some (at' : Int)) (some ((at' : Int) + ((2 : Int) + (r3 : Nat)))) = (vs.drop at').take (2 + r3) := by
          rw [ea, cutV_mid (by omega) (by omega), Nat.add_sub_cancel_left]
        have fpa := sN _ _ pa5
        rw [cutV_take (by omega)] at fpa
        have fpc := same_new (o := .lst [V.ref pd]) hpe _ _ (same_new (o := .tup [.str (kS k), .ref pc]) hpd _ _ (upd_same (H := upd H5 pb (.lst (cutV vs (some (at' : Int)) (some ((at' : Int) + ((2 : Int) + (r3 : Nat))))))) (a := pc) (o := .tup (cutV vs (some (at' : Int)) (some ((at' : Int) + ((2 : Int) + (r3 : Nat))))))))
        have fpd := same_new (o := .lst [V.ref pd]) hpe _ _ (upd_same (H := upd (upd H5 pb (.lst (cutV vs (some (at' : Int)) (some ((at' : Int) + ((2 : Int) + (r3 : Nat))))))) pc (.tup (cutV vs (some (at' : Int)) (some ((at' : Int) + ((2 : Int) + (r3 : Nat))))))) (a := pd) (o := .tup [.str (kS k), .ref pc]))
        have sbF := sb_same ((sb_new (((sb2.trans sb3).trans sb4)) hpa).trans sb5) sN
        refine gen2 (R := fun H6 => rCat (.ref pa) (.ref pe) H6 _) (P := fun H6 => SameBut l H H6 ∧ PoolAt H6 l ∧ H6 lf = some (.lst vs) ∧ H6 pa = some (.lst (vs.take at')) ∧ H6 pc = some (.tup ((vs.drop at').take (2 + r3))) ∧ H6 pd = some (.tup [.str (kS k), .ref pc]) ∧ H6 pe = some (.lst [.ref pd]) ∧ PlansAt H6 vs ps) (fun H6 p6 => ?_) ⟨sbF, hl5.same sN, sN _ _ hlf5, fpa, by rw [← mid]; exact fpc, fpd, upd_same, pat4.tups (t45.trans (sm_tups sN))⟩
        · obtain ⟨sb6, hl6, hlf6, pa6, pc6, pd6, pe6, pat6⟩ := p6
          refine ⟨pa, pe, _, _, rfl, rfl, pa6, pe6, ?_, fun pf hpf => ?_⟩
          · rw [List.length_take]
            exact small_le (m := 100) (by simp; omega)
          have npf : l ≠ pf := hl6.ne hpf
          refine ⟨_, rfl, _, rfl, _, rfl, _, _, rfl, rfl, _, rfl, lf, vs, rfl, .inl (.inl (same_new hpf _ _ hlf6)), fun pg hpg => ?_⟩
          have npg : l ≠ pg := (hl6.upd npf).ne hpg
          have pf7 : (upd (upd H6 pf (.lst (vs.take at' ++ [.ref pd]))) pg (.lst (cutV vs (some ((at' : Int) + ((2 : Int) + (r3 : Nat)))) none))) pf = some (.lst (vs.take at' ++ [.ref pd])) := same_new hpg _ _ upd_same
          refine ⟨pf, pg, _, _, rfl, rfl, pf7, upd_same, ?_, fun ph hph => ?_⟩
          · have := cutV_length vs (some ((at' : Int) + ((2 : Int) + (r3 : Nat)))) none
            rw [List.length_append, List.length_take]
            exact small_le (m := 100) (by simp; omega)
          · have nph : l ≠ ph := ((hl6.upd npf).upd npg).ne hph
            have s6 : Same H6 (upd (upd (upd H6 pf (.lst (vs.take at' ++ [.ref pd]))) pg (.lst (cutV vs (some ((at' : Int) + ((2 : Int) + (r3 : Nat)))) none))) ph (.lst (vs.take at' ++ [.ref pd] ++ cutV vs (some ((at' : Int) + ((2 : Int) + (r3 : Nat)))) none))) := sm_new (sm_new (same_new hpf) hpg) hph
            have ec : cutV vs (some ((at' : Int) + ((2 : Int) + (r3 : Nat)))) none = vs.drop (at' + (2 + r3)) := by
              rw [ea]
              exact cutV_drop (by omega)
            have node : PlanAt (upd (upd (upd H6 pf (.lst (vs.take at' ++ [.ref pd]))) pg (.lst (cutV vs (some ((at' : Int) + ((2 : Int) + (r3 : Nat)))) none))) ph (.lst (vs.take at' ++ [.ref pd] ++ cutV vs (some ((at' : Int) + ((2 : Int) + (r3 : Nat)))) none))) (.ref pd) (.node k ((ps.drop at').take (2 + r3))) := by
              rw [PlanAt]
              exact ⟨pd, pc, _, rfl, s6 _ _ pd6, s6 _ _ pc6, ((pat6.drop at').take (2 + r3)).tups (sm_tups s6)⟩
            refine ⟨_, ?_, ph, vs.take at' ++ [.ref pd] ++ vs.drop (at' + (2 + r3)), ps.take at' ++ [.node k ((ps.drop at').take (2 + r3))] ++ ps.drop (at' + (2 + r3)), _, _, rfl, sb_same sb6 s6, hl6.same s6, ?_, nph, ?_, ?_, ?_, ?_, rfl⟩
            · rw [List.length_append, List.length_append, List.length_take, List.length_drop, List.length_singleton]
              omega
            · rw [upd_same, ec]
            · exact (((pat6.take at').tups (sm_tups s6)).append (PlansAt.cons node PlansAt.nil)).append ((pat6.drop (at' + (2 + r3))).tups (sm_tups s6))
            · refine goodL_of fun p hp => ?_
              rcases List.mem_append.mp hp with hp | hp
              · rcases List.mem_append.mp hp with hp | hp
                · exact goodL_mem gd p (List.mem_of_mem_take hp)
                · rw [List.mem_singleton.mp hp, Plan.Good]
                  refine ⟨by rw [List.length_take, List.length_drop]; omega, goodL_of fun y hy => goodL_mem gd y (List.mem_of_mem_drop (List.mem_of_mem_take hy))⟩
              · exact goodL_mem gd p (List.mem_of_mem_drop hp)
            · refine List.Perm.trans (List.Perm.of_eq ?_) pm2
              rw [linesL_append, linesL_append, linesL, linesL, Plan.lines, List.append_nil, ← linesL_append, ← linesL_append]
              congr 1
              rw [List.append_assoc, ← List.drop_drop, List.take_append_drop, List.take_append_drop]
            · rw [List.length_append, List.length_append, List.length_singleton]
              omega
      · have le1 : ¬ (1 : Int) < (vs.length : Nat) := of_decide_eq_false h
        have one' : ps.length = 1 := by omega
        obtain ⟨p, rfl⟩ := List.length_eq_one_iff.mp one'
        rw [PlansAt] at pat
        obtain ⟨v, rr, rfl, hv, hrr⟩ := pat
        rw [PlansAt] at hrr
        subst hrr
        rw [linesL, linesL, List.append_nil] at pm2
        rw [GoodL] at gd
        exact ⟨_, rfl, lf, _, 0, v, rfl, rfl, sL, atI_nat (j := 0) rfl, q _ _ p sb2 hl2 hv gd.1 pm2⟩
end
end Fm
set_option maxHeartbeats 8000000
namespace Fm
open PySem PySem.Spec PyProof.Rows L2 FmM
/-! ### a table over given pairs is a chart of some kinds -/
def prs (ts : List Tri) : List (Str × Str) := ts.map fun t => (t.1, t.2.1)
def TabOn (H : Hp) (v : V) (ls : List Str) : Prop := ∃ ts, TabAt H v ts ∧ prs ts = pairs ls
def kdOf (ts : List Tri) (a b : Str) : Bool := match ts.find? fun t => (decide (t.1 = a) && decide (t.2.1 = b)) || (decide (t.1 = b) && decide (t.2.1 = a)) with
  | some t => t.2.2
  | none => true
theorem kdOf_sym (ts : List Tri) : Sym (kdOf ts) := fun a b => by
  unfold kdOf
  have : (fun t : Tri => (decide (t.1 = a) && decide (t.2.1 = b)) || (decide (t.1 = b) && decide (t.2.1 = a))) = (fun t : Tri => (decide (t.1 = b) && decide (t.2.1 = a)) || (decide (t.1 = a) && decide (t.2.1 = b))) := by
    funext t
    exact Bool.or_comm _ _
  rw [this]
theorem kdOf_at {ls : List Str} (h : Asc ls) {ts : List Tri} (e : prs ts = pairs ls) {t : Tri} (ht : t ∈ ts) : kdOf ts t.1 t.2.1 = t.2.2 := by
  have inP : ∀ u, u ∈ ts → (u.1, u.2.1) ∈ pairs ls := fun u hu => by rw [← e]; exact List.mem_map.mpr ⟨u, hu, rfl⟩
  have nd : (prs ts).Nodup := by
    rw [e]
    refine (pairs_lex h).imp fun {p q} l e => ?_
    subst e
    rcases l with l | ⟨_, l⟩ <;> exact LtS.irrefl _ l
  have uniq : ∀ u, u ∈ ts → u.1 = t.1 → u.2.1 = t.2.1 → u = t := by
    intro u hu e1 e2
    obtain ⟨i, hi⟩ := List.getElem?_of_mem hu
    obtain ⟨j, hj⟩ := List.getElem?_of_mem ht
    have hi' : (prs ts)[i]? = some (t.1, t.2.1) := by
      unfold prs
      rw [List.getElem?_map, hi, ← e1, ← e2]
      rfl
    have hj' : (prs ts)[j]? = some (t.1, t.2.1) := by
      unfold prs
      rw [List.getElem?_map, hj]
      rfl
    obtain ⟨l1, g1⟩ := List.getElem?_eq_some_iff.mp hi'
    obtain ⟨l2, g2⟩ := List.getElem?_eq_some_iff.mp hj'
    have : i = j := (List.getElem_inj nd).mp (g1.trans g2.symm)
    subst this
    rw [hi] at hj
    exact Option.some.inj hj
  unfold kdOf
  cases hf : ts.find? fun u => (decide (u.1 = t.1) && decide (u.2.1 = t.2.1)) || (decide (u.1 = t.2.1) && decide (u.2.1 = t.1)) with
  | none =>
    have := List.find?_eq_none.mp hf t ht
    simp at this
  | some u =>
    have hu := List.mem_of_find?_eq_some hf
    have hp := List.find?_some hf
    simp only [Bool.or_eq_true, Bool.and_eq_true, decide_eq_true_eq] at hp
    rcases hp with ⟨e1, e2⟩ | ⟨e1, e2⟩
    · rw [uniq u hu e1 e2]
    · have l1 := ((mem_pairs h).mp (inP u hu)).2.2
      have l2 := ((mem_pairs h).mp (inP t ht)).2.2
      have l1 : LtS u.1 u.2.1 := l1
      rw [e1, e2] at l1
      exact absurd l1 (LtS.asymm l2)
theorem chart_of {ls : List Str} (h : Asc ls) {ts : List Tri} (e : prs ts = pairs ls) : ts = chart (kdOf ts) ls := by
  unfold chart
  rw [← e]
  unfold prs
  rw [List.map_map]
  conv => lhs; rw [← List.map_id ts]
  refine List.map_congr_left fun t ht => ?_
  show t = (t.1, t.2.1, kdOf ts t.1 t.2.1)
  rw [kdOf_at h e ht]
theorem TabOn.chart {H : Hp} {v : V} {ls : List Str} (h : TabOn H v ls) (asc : Asc ls) (ln : ∀ z, z ∈ ls → Line z) (two : 2 ≤ ls.length) (le : ls.length ≤ 8) : ∃ kd, TabAt H v (Fm.chart kd ls) ∧ TabOk kd ls := by
  obtain ⟨ts, ht, e⟩ := h
  refine ⟨kdOf ts, ?_, asc, ln, kdOf_sym ts, two, le⟩
  rw [← chart_of asc e]
  exact ht
theorem TabOn.tups {H H' : Hp} {v : V} {ls : List Str} (t : Tups H H') (h : TabOn H v ls) : TabOn H' v ls := let ⟨ts, h, e⟩ := h; ⟨ts, h.tups t, e⟩
def PairAt (H : Hp) (v : V) (p : Str × Str) : Prop := ∃ a, v = .ref a ∧ H a = some (.tup [.str p.1, .str p.2])
theorem PairAt.tups {H H' : Hp} {v : V} {p : Str × Str} (s : Tups H H') (h : PairAt H v p) : PairAt H' v p := let ⟨a, e, h⟩ := h; ⟨a, e, s _ _ h⟩
section
variable {P : Program} {w : World} {K : PySem.W.Frag} {mg : Str → Option Value} {base : Heap}
/-! ### leaves -/
theorem sc_leaves : FnScope ["_law_tree_here", "_law_found", "_law_part"] ["_law_tree_here"] (defScope s_l_leaves) := ⟨rfl, rfl, rfl, by decide +kernel, rfl, by decide +kernel, by decide +kernel⟩
def spLeaves (n : Nat) : Sp := fun vs H Q _ => ∃ (v : V) (p : Plan Str), vs = [v] ∧ PlanAt H v p ∧ p.Good ∧ p.lines.length ≤ n ∧ p.lines.length ≤ 8 ∧ ∀ (H' : Hp) (r : Addr), Same H H' → H r = none → H' r = some (.lst (p.lines.map V.str)) → Q (.ref r) H'
theorem c_leaves_n (T : Txt K mg) : ∀ n, Cal P w K mg base (n + 1) "_law_leaves" (spLeaves n) := by
  intro n
  induction n with
  | zero =>
    refine cal_of T.d_l_leaves sc_leaves (fun vs H Q E h => ?_) (fun f cdv A outer s H vs Q E hr h => ?_)
    · obtain ⟨v, p, rfl, _⟩ := h
      rfl
    · obtain ⟨v, p, rfl, _, g, hn, _⟩ := h
      have := List.length_pos_iff.mpr (Plan.lines_ne g)
      omega
  | succ n ih =>
    refine cal_of T.d_l_leaves sc_leaves (fun vs H Q E h => ?_) (fun f cdv A outer s H vs Q E hr h => ?_)
    · obtain ⟨v, p, rfl, _⟩ := h
      rfl
    · obtain ⟨v, p, rfl, hv, g, hn, h8, q⟩ := h
      refine ⟨_, pss_cons (ps_if (pt_val (pe_callB call_isi (by rfl) T.b_isinstance bt_isinstance (pa_cons (pv 0) (pa_cons (pe_bltn (v := .ty "str") (by rfl) T.b_str bt_str rfl) pa_nil))))
          (pss_one (ps_ret (pe_lst (pa_cons (pv 0) pa_nil)))) pss_nil)
        (pss_cons (ps_set (i := 1) sc_leaves.nd rfl (.inl rfl) (pe_lst pa_nil))
        (pss_cons (ps_for PassesOwn.never rfl (pi_tup (pe_ix ix_tup (pv 0) pe_int (fun _ _ => rfl))) (pg_name (i := 2) sc_leaves.nd rfl (.inl rfl))
          (pss_one (ps_expr (pe_bm PySem.F.plainAttrs_list PySem.F.slot_list_extend PySem.F.type_list_extend mt_extend (pv 1) (pa_cons (pe_d ih hr (by omega) (pa_cons (pv 2) pa_nil)) pa_nil)))))
        (pss_one (ps_ret (pv 1))))), ?_⟩
      cases p with
      | leaf z =>
        rw [PlanAt] at hv
        subst hv
        refine ⟨_, rfl, _, _, .type "str", .type "str", true, rfl, .ty _, .base (.str _), isi_str, true, rfl, ?_⟩
        refine iteT ⟨_, rfl, by show 1 ≤ sizeLine; decide, fun a ha => q _ a (same_new ha) ha ?_⟩
        rw [upd_same, Plan.lines]
        rfl
      | node k ps =>
        rw [PlanAt] at hv
        obtain ⟨a, b, ws, rfl, ha, hb, hp⟩ := hv
        have hg := g
        rw [Plan.Good] at hg
        refine ⟨_, rfl, _, _, .type "tuple", .type "str", false, rfl, .ty _, .base (.tup ha), isi_tup_str, false, rfl, ?_⟩
        refine iteF ⟨Nat.zero_le _, fun D hD => ?_⟩
        have s0 : Same H (upd H D (.lst [])) := same_new hD
        refine ⟨_, rfl, a, _, 1, _, rfl, rfl, .inl (.inl (s0 _ _ ha)), atI_nat (j := 1) rfl, b, rfl, ⟨ws, .inl (.inl (s0 _ _ hb))⟩, ?_⟩
        have hwl := hp.len
        refine for_tup (xs := ws) (fun i σ H1 => ∃ y2, σ = [some (.ref a), some (.ref D), y2] ∧ Same H H1 ∧ H1 D = some (.lst ((linesL (ps.take i)).map V.str))) ⟨none, rfl, s0, by rw [upd_same, List.take_zero, linesL]; rfl⟩ (fun i σ H1 _ p1 => ?_) (fun i x σ H1 hx p1 => ?_) (fun σ H1 p1 => ?_)
        · obtain ⟨y2, rfl, sm, _⟩ := p1
          exact .inl (.inl (sm _ _ hb))
        · obtain ⟨y2, rfl, sm, eD⟩ := p1
          obtain ⟨pi, hpi, hxp⟩ := hp.get hx
          have hmem : pi ∈ ps := List.mem_of_getElem? hpi
          have hlt := part_len g hmem
          refine ⟨_, rfl, .inl ⟨rfl, _, .inl (.inl eD)⟩, _, rfl, x, pi, rfl, hxp.tups (sm_tups sm), goodL_mem hg.2 pi hmem, by omega, by omega, fun H2 r s2 hr0 hr2 => ?_⟩
          have et : ps.take (i + 1) = ps.take i ++ [pi] := by rw [List.take_add_one, hpi]; rfl
          have el : linesL (ps.take (i + 1)) = linesL (ps.take i) ++ pi.lines := by rw [et, linesL_append, linesL, linesL, List.append_nil]
          refine ⟨D, r, _, _, rfl, rfl, s2 _ _ eD, hr2, ?_, _, rfl, sm_grow hD (sm.trans s2), ?_⟩
          · have sub : (linesL (ps.take (i + 1))).Sublist (linesL ps) := by
              conv => rhs; rw [← List.take_append_drop (i + 1) ps, linesL_append]
              exact List.sublist_append_left _ _
            have := sub.length_le
            rw [el, List.length_append] at this
            rw [Plan.lines] at h8
            rw [List.length_map, List.length_map]
            exact small_le (m := 8) (by omega)
          · rw [upd_same, el, List.map_append]
        · obtain ⟨y2, rfl, sm, eD⟩ := p1
          rw [hwl, List.take_length] at eD
          exact ⟨_, rfl, q _ D sm hD (by rw [Plan.lines]; exact eD)⟩
theorem c_leaves (T : Txt K mg) : Cal P w K mg base 9 "_law_leaves" (spLeaves 8) := c_leaves_n T 8
/-! ### where two leaves meet -/
theorem sc_apart : FnScope ["_law_tree_here", "_law_call", "_law_mate", "_law_part", "_law_leaves_here"] ["_law_tree_here", "_law_call", "_law_mate"] (defScope s_l_apart) := ⟨rfl, rfl, rfl, by decide +kernel, rfl, by decide +kernel, by decide +kernel⟩
def spApart (n : Nat) : Sp := fun vs H Q _ => ∃ (v : V) (p : Plan Str) (a b : Str), vs = [v, .str a, .str b] ∧ PlanAt H v p ∧ p.Good ∧ p.lines.length ≤ n ∧ p.lines.length ≤ 8 ∧ a ∈ p.lines ∧ b ∈ p.lines ∧ a ≠ b ∧ ∀ (H' : Hp) (k : Bool), Same H H' → Q (.str (kS k)) H'
theorem c_apart_n (T : Txt K mg) : ∀ n, Cal P w K mg base (n + 10) "_law_apart" (spApart n) := by
  intro n
  induction n with
  | zero =>
    refine cal_of T.d_l_apart sc_apart (fun vs H Q E h => ?_) (fun f cdv A outer s H vs Q E hr h => ?_)
    · obtain ⟨v, p, a, b, rfl, _⟩ := h
      rfl
    · obtain ⟨v, p, a, b, rfl, _, g, hn, _⟩ := h
      have := List.length_pos_iff.mpr (Plan.lines_ne g)
      omega
  | succ n ih =>
    refine cal_of T.d_l_apart sc_apart (fun vs H Q E h => ?_) (fun f cdv A outer s H vs Q E hr h => ?_)
    · obtain ⟨v, p, a, b, rfl, _⟩ := h
      rfl
    · obtain ⟨v, p, a, b, rfl, hv, g, hn, h8, ma, mb, nab, q⟩ := h
      refine ⟨_, pss_cons (ps_for PassesOwn.never rfl (pi_tup (pe_ix ix_tup (pv 0) pe_int (fun _ _ => rfl))) (pg_name (i := 3) sc_apart.nd rfl (.inl rfl))
          (pss_cons (ps_set (i := 4) sc_apart.nd rfl (.inl rfl) (pe_d (c_leaves T) hr (by omega) (pa_cons (pv 3) pa_nil)))
          (pss_one (ps_if (PW.pt (pw_and (pt_cmpR op_in_seq (pv 1) (pv 4) rfl) (pw_and1 (pt_cmpR op_in_seq (pv 2) (pv 4) rfl))))
            (pss_one (ps_ret (pe_d ih hr (by omega) (pa_cons (pv 3) (pa_cons (pv 1) (pa_cons (pv 2) pa_nil)))))) pss_nil))))
        (pss_one (ps_ret (pe_ix ix_tup (pv 0) pe_int (fun _ _ => rfl)))), ?_⟩
      cases p with
      | leaf z =>
        rw [Plan.lines] at ma mb
        exact absurd ((List.mem_singleton.mp ma).trans (List.mem_singleton.mp mb).symm) nab
      | node k ps =>
        rw [PlanAt] at hv
        obtain ⟨x, y, ws, rfl, hx, hy, hp⟩ := hv
        have hg := g
        rw [Plan.Good] at hg
        refine ⟨_, rfl, x, _, 1, _, rfl, rfl, .inl (.inl hx), atI_nat (j := 1) rfl, y, rfl, ⟨ws, .inl (.inl hy)⟩, ?_⟩
        refine for_tup (xs := ws) (fun i σ H1 => ∃ y3 y4, σ = [some (.ref x), some (.str a), some (.str b), y3, y4] ∧ Same H H1) ⟨none, none, rfl, Same.refl _⟩ (fun i σ H1 hi p1 => ?_) (fun i v σ H1 hi p1 => ?_) (fun σ H1 p1 => ?_)
        · obtain ⟨y3, y4, rfl, sm⟩ := p1
          exact .inl (.inl (sm _ _ hy))
        · obtain ⟨y3, y4, rfl, sm⟩ := p1
          obtain ⟨r, hr1, hvr⟩ := hp.get hi
          have hmem : r ∈ ps := List.mem_of_getElem? hr1
          have gr := goodL_mem hg.2 r hmem
          have hlt := part_len g hmem
          refine ⟨_, rfl, v, r, rfl, hvr.tups (sm_tups sm), gr, by omega, by omega, fun H2 c s2 _ hc => ?_⟩
          refine ⟨_, rfl, _, rfl, c, _, rfl, .inl (.inl (.inl hc)), rfl, flat_strs _, _, rfl, ?_⟩
          have e1 : inV (.str a) (r.lines.map V.str) = decide (a ∈ r.lines) := inV_strs _ _
          have e2 : inV (.str b) (r.lines.map V.str) = decide (b ∈ r.lines) := inV_strs _ _
          refine ifb (fun ha => ?_) (fun _ => iteF ⟨_, _, rfl, sm.trans s2⟩)
          refine ⟨_, rfl, _, rfl, c, _, rfl, .inl (.inl (.inl hc)), rfl, flat_strs _, _, rfl, ?_⟩
          refine ifb (fun hb => ?_) (fun _ => ⟨_, _, rfl, sm.trans s2⟩)
          exact ⟨_, rfl, _, rfl, _, rfl, v, r, a, b, rfl, hvr.tups (sm_tups (sm.trans s2)), gr, by omega, by omega, of_decide_eq_true (e1.symm.trans ha), of_decide_eq_true (e2.symm.trans hb), nab, fun H3 k3 s3 => q _ k3 ((sm.trans s2).trans s3)⟩
        · obtain ⟨y3, y4, rfl, sm⟩ := p1
          exact ⟨_, rfl, x, _, 0, _, rfl, rfl, .inl (.inl (sm _ _ hx)), atI_nat (j := 0) rfl, q _ k sm⟩
theorem c_apart (T : Txt K mg) : Cal P w K mg base 18 "_law_apart" (spApart 8) := c_apart_n T 8
/-! ### the pairs -/
theorem sc_lpairs : FnScope ["_law_calls_here", "_law_found", "_law_k", "_law_j"] ["_law_calls_here"] (defScope s_l_pairs) := ⟨rfl, rfl, rfl, by decide +kernel, rfl, by decide +kernel, by decide +kernel⟩
def spLPairs : Sp := fun vs H Q _ => ∃ (a : Addr) (ls : List Str), vs = [.ref a] ∧ H a = some (.lst (ls.map V.str)) ∧ ls.length ≤ 8 ∧ ∀ (H' : Hp) (r : Addr) (ws : List V), Same H H' → H' r = some (.lst ws) → Paired (PairAt H') ws (pairs ls) → Q (.ref r) H'
theorem c_lpairs (T : Txt K mg) : Cal P w K mg base 1 "_law_pairs" spLPairs := by
  refine cal_of T.d_l_pairs sc_lpairs (fun vs H Q E h => ?_) (fun f cdv A outer s H vs Q E hr h => ?_)
  · obtain ⟨a, ls, rfl, _⟩ := h
    rfl
  · obtain ⟨a, ls, rfl, ha, h8, q⟩ := h
    refine ⟨_, pss_cons (ps_set (i := 1) sc_lpairs.nd rfl (.inl rfl) (pe_lst pa_nil))
      (pss_cons (ps_for PassesOwn.never rfl (pi_range1 (by rfl) T.b_range (pa_cons (pe_callB call_len (by rfl) T.b_len bt_len (pa_cons (pv 0) pa_nil)) pa_nil)) (pg_name (i := 2) sc_lpairs.nd rfl (.inr rfl))
        (pss_one (ps_expr (pe_bm PySem.F.plainAttrs_list PySem.F.slot_list_extend PySem.F.type_list_extend mt_extend (pv 1) (pa_cons (pe_lc (own := [("_law_j", 3)]) (g := gName 3) (tt := tYes) (te := tTup (tCons (tOp (rIxL K) (tVar 0) (tVar 2)) (tCons (tOp (rIxL K) (tVar 0) (tVar 3)) tNil))) rfl sc_lpairs.nd
            (pi_range2 (by rfl) T.b_range (pa_cons (pe_op op_add (pv 2) pe_int) (pa_cons (pe_callB call_len (by rfl) T.b_len bt_len (pa_cons (pv 0) pa_nil)) pa_nil)))
            (blkOk_by (N := ["_law_calls_here", "_law_found", "_law_k", "_law_j"]) (sc := defScope s_l_pairs) (by decide +kernel)) (fun _ _ _ _ _ => pg_name (i := 3) sc_lpairs.nd rfl (Or.inl rfl)) (fun _ _ _ _ _ => pts_nil)
            (fun _ _ _ _ _ => pe_tup (pa_cons (pe_ix ix_list (pv 0) (pv 2) (fun _ _ => rfl)) (pa_cons (pe_ix ix_list (pv 0) (pv 3) (fun _ _ => rfl)) pa_nil)))) pa_nil)))))
      (pss_one (ps_ret (pv 1)))), ?_⟩
    refine ⟨Nat.zero_le _, fun F hF => ?_⟩
    have s0 : Same H (upd H F (.lst [])) := same_new hF
    have nl : (ls.map V.str).length = ls.length := List.length_map _
    refine ⟨_, rfl, _, _, rfl, .inl ⟨_, .inl (.inl (s0 _ _ ha)), rfl⟩, _, rfl, by omega, by omega, ?_⟩
    rw [show (((ls.map V.str).length : Nat) : Int).toNat = ls.length from by omega]
    refine for_range (lo := 0) (n := ls.length) (fun i σ H1 => ∃ acc done y2, σ = [some (.ref a), some (.ref F), y2, none] ∧ Same H H1 ∧ H1 F = some (.lst acc) ∧ Paired (PairAt H1) acc done ∧ done ++ pairs (ls.drop i) = pairs ls) ⟨[], [], none, rfl, s0, upd_same, .nil, rfl⟩ (fun i σ H1 hi p1 => ?_) (fun σ H1 p1 => ?_)
    · obtain ⟨acc, done, y2, rfl, sm, hFa, pa, ed⟩ := p1
      have ha1 := sm _ _ ha
      have sL : SqL K H1 a (ls.map V.str) := .inl (.inl ha1)
      have e0 : (0 : Int) + (i : Nat) = ((i : Nat) : Int) := by omega
      refine ⟨_, rfl, .inl ⟨rfl, _, .inl (.inl hFa)⟩, ?_⟩
      refine ⟨_, rfl, _, _, rfl, rfl, _, rfl, _, _, rfl, .inl ⟨_, sL, rfl⟩, _, _, rfl, ⟨by omega, by omega, by omega, by omega⟩, ?_⟩
      refine fun D hD => ?_
      have nFD : F ≠ D := ne_of_none hFa hD
      refine loop_it walk_range (LcI H1 D fun j acc' H' => Paired (PairAt H') acc' (((ls.drop (i + 1)).take j).map fun b => (ls[i], b))) (LcI.start hD .nil) (fun _ _ _ _ => trivial) (fun j x H2o H2 hj p2 hy => ?_) fun H2 p2 => ?_
      · obtain ⟨acc', hDa, sm2, ra⟩ := p2
        obtain ⟨rfl, rfl⟩ := hy
        have hj' : i + 1 + j < ls.length := by omega
        have hb : (ls.drop (i + 1))[j]? = some ls[i + 1 + j] := by rw [List.getElem?_drop, List.getElem?_eq_getElem hj']
        have sL2 : SqL K H2 a (ls.map V.str) := .inl (.inl (sm2 _ _ ha1))
        have ej : (0 : Int) + (i : Nat) + 1 + (j : Nat) = ((i + 1 + j : Nat) : Int) := by omega
        refine ⟨rfl, kept ⟨_, rfl, _, rfl, a, _, _, .str ls[i], rfl, rfl, sL2, by rw [e0]; exact atI_nat (by rw [List.getElem?_map, List.getElem?_eq_getElem hi]; rfl), _, rfl, _, rfl, a, _, _, .str ls[i + 1 + j], rfl, rfl, sL2, by rw [ej]; exact atI_nat (by rw [List.getElem?_map, List.getElem?_eq_getElem hj']; rfl), by show 2 ≤ sizeLine; decide, fun t ht => ?_⟩⟩
        have hD3 : (upd H2 t (.tup [.str ls[i], .str ls[i + 1 + j]])) D = some (.lst acc') := same_new ht _ _ hDa
        refine ⟨acc', hD3, ?_, LcI.push hD (sm_new sm2 ht) ?_⟩
        · rw [Paired.length ra, List.length_map, List.length_take, List.length_drop]
          exact small_of (m := 8) (by omega)
        · rw [List.take_add_one, hb, List.map_append]
          have tt : Tups H2 (upd (upd H2 t (.tup [.str ls[i], .str ls[i + 1 + j]])) D (.lst (acc' ++ [V.ref t]))) := (tups_new ht).trans (tups_lst hD3)
          refine paired_snoc (Paired.mapP ra fun _ _ z => z.tups tt) ⟨t, rfl, ?_⟩
          rw [upd_ne (ne_lt hD3 upd_same)]
          exact upd_same
      · obtain ⟨acc', hDa, sm2, ra⟩ := p2
        have en : (((ls.map V.str).length : Nat) : Int) - ((0 : Int) + (i : Nat) + 1) = ((ls.length - (i + 1) : Nat) : Int) := by omega
        rw [show ((((ls.map V.str).length : Nat) : Int) - ((0 : Int) + (i : Nat) + 1)).toNat = ls.length - (i + 1) from by rw [en]; omega, List.take_of_length_le (by rw [List.length_drop]; exact Nat.le_refl _)] at ra
        have hF2 := sm2 _ _ hFa
        have pl := pairs_len ls
        have tot : (done ++ (ls.drop (i + 1)).map fun b => (ls[i], b)) ++ pairs (ls.drop (i + 1)) = pairs ls := by
          rw [← ed, List.drop_eq_getElem_cons hi, pairs, List.append_assoc]
        have tl := congrArg List.length tot
        rw [List.length_append, List.length_append] at tl
        have p28 : (pairs ls).length ≤ 64 := by
          have : ls.length * ls.length ≤ 8 * 8 := Nat.mul_le_mul h8 h8
          omega
        refine ⟨F, D, _, _, rfl, rfl, hF2, hDa, ?_, acc ++ acc', done ++ (ls.drop (i + 1)).map (fun b => (ls[i], b)), _, rfl, sm_grow hF (sm.trans sm2), upd_same, ?_, tot⟩
        · rw [Paired.length pa, Paired.length ra]
          exact small_le (m := 64) (by omega)
        · have tt : Tups H2 (upd H2 F (.lst (acc ++ acc'))) := tups_lst hF2
          exact paired_append (Paired.mapP pa fun _ _ z => z.tups ((sm_tups sm2).trans tt)) (Paired.mapP ra fun _ _ z => z.tups tt)
    · obtain ⟨acc, done, y2, rfl, sm, hFa, pa, ed⟩ := p1
      rw [List.drop_length, pairs, List.append_nil] at ed
      subst ed
      exact ⟨_, rfl, q _ F acc sm hFa pa⟩
/-! ### the chart of a plan -/
theorem sc_lchart : FnScope ["_law_tree_here", "_law_call", "_law_mate"] ["_law_tree_here"] (defScope s_l_chart) := ⟨rfl, rfl, rfl, by decide +kernel, rfl, by decide +kernel, by decide +kernel⟩
def spLChart : Sp := fun vs H Q _ => ∃ (v : V) (p : Plan Str), vs = [v] ∧ PlanAt H v p ∧ p.Good ∧ p.lines.Nodup ∧ p.lines.length ≤ 8 ∧ ∀ (H' : Hp) (r : V), Same H H' → TabOn H' r (srt p.lines) → Q r H'
theorem c_lchart (T : Txt K mg) : Cal P w K mg base 19 "_law_chart" spLChart := by
  refine cal_of T.d_l_chart sc_lchart (fun vs H Q E h => ?_) (fun f cdv A outer s H vs Q E hr h => ?_)
  · obtain ⟨v, p, rfl, _⟩ := h
    rfl
  · obtain ⟨v, p, rfl, hv, g, nd, h8, q⟩ := h
    refine ⟨_, pss_one (ps_ret (pe_callTy call_tuple_of (by rfl) T.b_tuple bt_tuple (pa_cons (pe_lc (own := [("_law_call", 1), ("_law_mate", 2)]) (g := gTup K 2 (gCons (gName 1) (gCons (gName 2) gNil))) (tt := tYes) (te := tTup (tCons (tVar 1) (tCons (tVar 2) (tCons (tCall (spApart 8) [] E0 (tCons (tVar 0) (tCons (tVar 1) (tCons (tVar 2) tNil)))) tNil)))) rfl sc_lchart.nd
        (pi_list (pe_d (c_lpairs T) hr (by omega) (pa_cons (pe_callB cr_sortedS (by rfl) T.b_sorted bt_sorted (pa_cons (pe_d (c_leaves T) hr (by omega) (pa_cons (pv 0) pa_nil)) pa_nil)) pa_nil)))
        (blkOk_by (N := ["_law_tree_here", "_law_call", "_law_mate"]) (sc := defScope s_l_chart) (by decide +kernel))
        (fun _ _ _ _ _ => pg_tup rfl (pgs_cons (pg_name (i := 1) sc_lchart.nd rfl (Or.inl rfl)) (pgs_cons (pg_name (i := 2) sc_lchart.nd rfl (Or.inl rfl)) pgs_nil))) (fun _ _ _ _ _ => pts_nil)
        (fun _ _ _ _ _ => pe_tup (pa_cons (pv 1) (pa_cons (pv 2) (pa_cons (pe_d (c_apart T) hr (by omega) (pa_cons (pv 0) (pa_cons (pv 1) (pa_cons (pv 2) pa_nil)))) pa_nil))))) pa_nil))), ?_⟩
    have asc := srt_asc nd
    refine ⟨_, rfl, v, p, rfl, hv, g, h8, h8, fun H1 r1 s1 _ hr1 => ?_⟩
    refine ⟨r1, p.lines, rfl, .inl (.inl hr1), by omega, fun ys c py sy hc => ?_⟩
    have ey := sorted_is py sy
    subst ey
    refine ⟨c, srt p.lines, rfl, upd_same, by rw [srt_len]; exact h8, fun H2 r2 ws s2 hr2 pw => ?_⟩
    have sm0 : Same H H2 := (sm_new s1 hc).trans s2
    have pl := pairs_len (srt p.lines)
    have p28 : (pairs (srt p.lines)).length ≤ 64 := by
      have : (srt p.lines).length * (srt p.lines).length ≤ 8 * 8 := Nat.mul_le_mul (by rw [srt_len]; exact h8) (by rw [srt_len]; exact h8)
      omega
    have wl := Paired.length pw
    refine ⟨r2, rfl, ⟨_, .inl (.inl hr2)⟩, fun D hD => ?_⟩
    refine loop_it (walk_list (xs := ws)) (LcI H2 D fun i acc H' => ∃ ts, TrisAt H' acc ts ∧ prs ts = (pairs (srt p.lines)).take i) (LcI.start hD ⟨[], .nil, rfl⟩) (fun i H3 _ p3 => ?_) (fun i x H3o H3 hi p3 hy => ?_) fun H3 p3 => ?_
    · obtain ⟨acc, _, sm3, _⟩ := p3
      exact .inl (.inl (sm3 _ _ hr2))
    · obtain ⟨acc, hDa, sm3, ts, rt, et⟩ := p3
      obtain ⟨rfl, hx⟩ := hy
      obtain ⟨pr, hpr, b, rfl, hb⟩ := paired_get pw hx
      obtain ⟨m1, m2, lt⟩ := (mem_pairs asc).mp (List.mem_of_getElem? hpr)
      refine ⟨b, _, rfl, .inl (.inl (sm3 _ _ hb)), rfl, _, _, rfl, _, _, rfl, rfl, rfl, kept ⟨_, rfl, _, rfl, _, rfl, _, rfl, _, rfl, v, p, pr.1, pr.2, rfl, hv.tups (sm_tups (sm0.trans sm3)), g, h8, h8, srt_mem.mp m1, srt_mem.mp m2, lt.ne, fun H4 k s4 => ?_⟩⟩
      refine ⟨by show 3 ≤ sizeLine; decide, fun t ht => ?_⟩
      have hD4 : (upd H4 t (.tup [.str pr.1, .str pr.2, .str (kS k)])) D = some (.lst acc) := same_new ht _ _ (s4 _ _ hDa)
      refine ⟨acc, hD4, ?_, LcI.push hD ((sm3.trans s4).trans (same_new ht)) ⟨ts ++ [(pr.1, pr.2, k)], ?_, ?_⟩⟩
      · rw [TrisAt.len rt]
        have := congrArg List.length et
        unfold prs at this
        rw [List.length_map, List.length_take] at this
        exact small_of (m := 64) (by omega)
      · have tt : Tups H3 (upd (upd H4 t (.tup [.str pr.1, .str pr.2, .str (kS k)])) D (.lst (acc ++ [V.ref t]))) := ((sm_tups s4).trans (tups_new ht)).trans (tups_lst hD4)
        refine paired_snoc (rt.tups tt) ⟨t, rfl, ?_⟩
        rw [upd_ne (ne_lt hD4 upd_same)]
        exact upd_same
      · rw [List.take_add_one, hpr, ← et]
        unfold prs
        rw [List.map_append]
        rfl
    · obtain ⟨acc, hDa, sm3, ts, rt, et⟩ := p3
      rw [List.take_of_length_le (by omega)] at et
      refine ⟨D, acc, rfl, .inl ⟨.inl (.inl hDa), fun t ht => ?_⟩⟩
      exact q _ _ ((sm0.trans sm3).trans (same_new ht)) ⟨ts, ⟨t, acc, rfl, upd_same, rt.tups (tups_new ht)⟩, et⟩
end
end Fm
set_option maxHeartbeats 8000000
namespace Fm
open PySem PySem.Spec PyProof.Rows L2 FmM
theorem pairs_filter (ms : List Str) : ∀ ls : List Str, (pairs ls).filter (fun p => decide (p.1 ∈ ms) && decide (p.2 ∈ ms)) = pairs (ls.filter fun z => decide (z ∈ ms))
  | [] => rfl
  | a :: r => by
    rw [pairs, List.filter_append, pairs_filter ms r, List.filter_map]
    by_cases h : a ∈ ms
    · rw [List.filter_cons_of_pos (by simpa using h), pairs]
      congr 2
      refine List.filter_congr fun b _ => ?_
      show (decide (a ∈ ms) && decide (b ∈ ms)) = _
      rw [decide_eq_true h, Bool.true_and]
    · rw [List.filter_cons_of_neg (by simpa using h)]
      have : r.filter ((fun p : Str × Str => decide (p.1 ∈ ms) && decide (p.2 ∈ ms)) ∘ fun b => (a, b)) = [] := by
        refine List.filter_eq_nil_iff.mpr fun b _ => ?_
        show ¬ (decide (a ∈ ms) && decide (b ∈ ms)) = true
        rw [decide_eq_false h]
        simp
      rw [this]
      rfl
theorem chart_filter (kd : Str → Str → Bool) (ms ls : List Str) : (chart kd ls).filter (fun t => decide (t.1 ∈ ms) && decide (t.2.1 ∈ ms)) = chart kd (ls.filter fun z => decide (z ∈ ms)) := by
  unfold chart
  rw [List.filter_map, ← pairs_filter]
  rfl
theorem eqK (a b c : Bool) : PyData.eqv (.list [.str (kS a), .str (kS b), .str (kS c)]) (.list [.str (kS a), .str (kS a), .str (kS a)]) = (a == b && b == c) := by
  cases a <;> cases b <;> cases c <;> decide +kernel
theorem kinds_shaped (a b c : Bool) : SeqAt.shaped (.list [.str (kS a), .str (kS b), .str (kS c)]) = true := by
  cases a <;> cases b <;> cases c <;> decide +kernel
section
variable {P : Program} {w : World} {K : PySem.W.Frag} {mg : Str → Option Value} {base : Heap}
/-! ### the law's kinds by pair -/
theorem sc_lsorts : FnScope ["_law_chart_here", "_law_found", "_law_call", "_law_mate", "_law_sort_here"] ["_law_chart_here"] (defScope s_l_sorts) := ⟨rfl, rfl, rfl, by decide +kernel, rfl, by decide +kernel, by decide +kernel⟩
theorem c_lsorts (T : Txt K mg) : Cal P w K mg base 1 "_law_sorts" spKinds := by
  refine cal_of T.d_l_sorts sc_lsorts (fun vs H Q E h => ?_) (fun f cdv A outer s H vs Q E hr h => ?_)
  · obtain ⟨v, kd, ls, rfl, _⟩ := h
    rfl
  · obtain ⟨v, kd, ls, rfl, hv, ok, q⟩ := h
    refine ⟨_, pss_cons (ps_set (i := 1) sc_lsorts.nd rfl (.inl rfl) pe_dnewT)
      (pss_cons (ps_for PassesOwn.never rfl (pi_tup (pv 0)) (pg_tup rfl (pgs_cons (pg_name (i := 2) sc_lsorts.nd rfl (.inl rfl)) (pgs_cons (pg_name (i := 3) sc_lsorts.nd rfl (.inl rfl)) (pgs_cons (pg_name (i := 4) sc_lsorts.nd rfl (.inl rfl)) pgs_nil))))
        (pss_cons (ps_dput (room1 hr) (pv 1) (pe_tup (pa_cons (pv 2) (pa_cons (pv 3) pa_nil))) (pv 4) rfl)
        (pss_one (ps_dput (room1 hr) (pv 1) (pe_tup (pa_cons (pv 3) (pa_cons (pv 2) pa_nil))) (pv 4) rfl))))
      (pss_one (ps_ret (pv 1)))), ?_⟩
    obtain ⟨a, xs, rfl, ha, tr⟩ := id hv
    have hlen := tr.len
    have h28 := ok.len
    intro d hd
    have s0 : Same H (upd H d (.dT [])) := same_new hd
    refine ⟨_, rfl, a, rfl, ⟨xs, .inl (.inl (s0 _ _ ha))⟩, ?_⟩
    refine for_tup (xs := xs) (fun i σ H1 => ∃ y2 y3 y4 kvs, σ = [some (.ref a), some (.ref d), y2, y3, y4] ∧ Same H H1 ∧ H1 d = some (.dT kvs) ∧ kvs.length ≤ 2 * i ∧ ∀ t, t ∈ (chart kd ls).take i → Has kd kvs t.1 t.2.1 ∧ Has kd kvs t.2.1 t.1)
      ⟨none, none, none, [], rfl, s0, upd_same, Nat.le_refl _, fun t ht => by simp at ht⟩ (fun i σ H1 _ p1 => ?_) (fun i x σ H1 hx p1 => ?_) (fun σ H1 p1 => ?_)
    · obtain ⟨y2, y3, y4, kvs, rfl, sm, _⟩ := p1
      exact .inl (.inl (sm _ _ ha))
    · obtain ⟨y2, y3, y4, kvs, rfl, sm, hk, hl, hh⟩ := p1
      obtain ⟨t, ht, b, rfl, hb⟩ := paired_get tr hx
      obtain ⟨m1, m2, lt, ek⟩ := ok.at ht
      obtain ⟨x, y, k⟩ := t
      have hi : i < 28 := by
        have := (List.getElem?_eq_some_iff.mp hx).1
        omega
      refine ⟨b, _, rfl, .inl (.inl (sm _ _ hb)), rfl, _, _, rfl, _, _, rfl, _, _, rfl, rfl, ?_⟩
      refine ⟨_, rfl, _, rfl, _, rfl, _, rfl, by show 2 ≤ sizeLine; decide, fun p hp => ?_⟩
      have ndp : d ≠ p := ne_of_none hk hp
      have k1 : (upd H1 p (.tup [.str x, .str y])) d = some (.dT kvs) := by rw [upd_ne ndp]; exact hk
      refine ⟨d, _, rfl, DPut.t (k := kk x y) k1 upd_same (small_of (m := 100) (by omega)), ?_⟩
      refine ⟨_, rfl, _, rfl, _, rfl, _, rfl, by show 2 ≤ sizeLine; decide, fun p2 hp2 => ?_⟩
      have l1 := length_putK kvs (kk x y) (.str (kS k))
      have ndp2 : d ≠ p2 := ne_of_none upd_same hp2
      refine ⟨d, _, rfl, DPut.t (k := kk y x) (kvs := putK kvs (kk x y) (.str (kS k))) (by rw [upd_ne ndp2]; exact upd_same) upd_same (small_of (m := 100) (by omega)), ?_⟩
      have l2 := length_putK (putK kvs (kk x y) (.str (kS k))) (kk y x) (.str (kS k))
      have sm1 : Same H (upd H1 p (.tup [.str x, .str y])) := sm_new sm hp
      have ek1 : V.str (kS k) = V.str (kS (kd x y)) := by rw [show k = kd x y from ek]
      have ek2 : V.str (kS k) = V.str (kS (kd y x)) := by rw [ok.sym y x]; exact ek1
      refine ⟨_, _, _, _, rfl, sm_grow hd (sm_new (sm_grow hd sm1) hp2), upd_same, Nat.le_trans l2 (by omega), fun u hu => ?_⟩
      rw [List.take_add_one, ht] at hu
      rcases List.mem_append.mp hu with hu | hu
      · obtain ⟨g1, g2⟩ := hh u hu
        exact ⟨(g1.put x y ek1).put y x ek2, (g2.put x y ek1).put y x ek2⟩
      · have hu : u ∈ [(x, y, k)] := hu
        rw [List.mem_singleton.mp hu]
        exact ⟨(Has.new kd kvs x y ek1).put y x ek2, Has.new kd _ y x ek2⟩
    · obtain ⟨y2, y3, y4, kvs, rfl, sm, hk, hl, hh⟩ := p1
      rw [List.take_of_length_le (by omega)] at hh
      refine ⟨_, rfl, q _ _ sm ⟨d, kvs, rfl, hk, fun x y hx hy ne => ?_⟩⟩
      rcases LtS.tri x y with l | e | l
      · exact (hh (triOf kd (x, y)) (List.mem_map.mpr ⟨(x, y), (mem_pairs ok.asc).mpr ⟨hx, hy, l⟩, rfl⟩)).1
      · exact absurd e ne
      · exact (hh (triOf kd (y, x)) (List.mem_map.mpr ⟨(y, x), (mem_pairs ok.asc).mpr ⟨hy, hx, l⟩, rfl⟩)).2
/-! ### are four lines the four -/
theorem sc_isf : FnScope ["_law_sorts_here", "_law_four", "_law_chain", "_law_others", "_law_k"] ["_law_sorts_here", "_law_four"] (defScope s_l_is_four) := ⟨rfl, rfl, rfl, by decide +kernel, rfl, by decide +kernel, by decide +kernel⟩
def spIsf : Sp := fun vs H Q _ => ∃ (kv v : V) (kd : Str → Str → Bool) (ls : List Str) (w x y z : Str), vs = [kv, v] ∧ LinesAt H v [w, x, y, z] ∧ KindsAt H kv kd ls ∧ w ∈ ls ∧ x ∈ ls ∧ y ∈ ls ∧ z ∈ ls ∧ [w, x, y, z].Nodup ∧
  ∀ H', Same H H' → Q (.bl (four4 kd w x y z)) H'
theorem c_isf (T : Txt K mg) : Cal P w K mg base 1 "_law_is_four" spIsf := by
  refine cal_of T.d_l_is_four sc_isf (fun vs H Q E h => ?_) (fun f cdv A outer s H vs Q E hr h => ?_)
  · obtain ⟨kv, v, kd, ls, a1, a2, a3, a4, rfl, _⟩ := h
    rfl
  · obtain ⟨kv, v, kd, ls, a1, a2, a3, a4, rfl, hv, hk, m1, m2, m3, m4, nd, q⟩ := h
    have u1 := room1 hr
    refine ⟨_, pss_cons (ps_setLc (i := 2) (own := [("_law_k", 4)]) (g := gName 4) (tt := tYes) (te := tDGet (tVar 0) (tTup (tCons (tOp (rIxT K) (tVar 1) (tVar 4)) (tCons (tOp (rIxT K) (tVar 1) (tOp (rI0 fun i j => .int (i + j)) (tVar 4) (tC (.int 1)))) tNil)))) rfl sc_isf.nd rfl rfl (by rfl) (pi_range1 (by rfl) T.b_range (pa_cons pe_int pa_nil))
          (blkOk_by (N := ["_law_sorts_here", "_law_four", "_law_chain", "_law_others", "_law_k"]) (sc := defScope s_l_is_four) (by decide +kernel)) (fun _ _ _ _ _ => pg_name (i := 4) sc_isf.nd rfl (Or.inl rfl)) (fun _ _ _ _ _ => pts_nil)
          (fun _ _ _ _ _ => pe_dget u1 (pv 0) (pe_tup (pa_cons (pe_ix ix_tup (pv 1) (pv 4) (fun _ _ => rfl)) (pa_cons (pe_ix ix_tup (pv 1) (pe_op op_add (pv 4) pe_int) (fun _ _ => rfl)) pa_nil))) (fun _ _ => rfl)))
      (pss_cons (ps_set (i := 3) sc_isf.nd rfl (.inl rfl) (pe_lst (pa_cons (pe_dget u1 (pv 0) (pe_tup (pa_cons (pe_ix ix_tup (pv 1) pe_int (fun _ _ => rfl)) (pa_cons (pe_ix ix_tup (pv 1) pe_int (fun _ _ => rfl)) pa_nil))) (fun _ _ => rfl))
          (pa_cons (pe_dget u1 (pv 0) (pe_tup (pa_cons (pe_ix ix_tup (pv 1) pe_int (fun _ _ => rfl)) (pa_cons (pe_ix ix_tup (pv 1) pe_int (fun _ _ => rfl)) pa_nil))) (fun _ _ => rfl))
          (pa_cons (pe_dget u1 (pv 0) (pe_tup (pa_cons (pe_ix ix_tup (pv 1) pe_int (fun _ _ => rfl)) (pa_cons (pe_ix ix_tup (pv 1) pe_int (fun _ _ => rfl)) pa_nil))) (fun _ _ => rfl)) pa_nil)))))
      (pss_one (ps_ret (pe_and (pe_cmpR (op_eqD hr.units) (pv 2) (pe_op op_rep (pe_slice sl_list (pv 2) po_none (po_some pe_int)) pe_int) (nomark _))
        (pe_and (pe_cmpR (op_eqD hr.units) (pv 3) (pe_op op_rep (pe_slice sl_list (pv 3) po_none (po_some pe_int)) pe_int) (nomark _))
          (pe_one (pe_cmpR op_ne (pe_ix ix_list (pv 2) pe_int (fun _ _ => rfl)) (pe_ix ix_list (pv 3) pe_int (fun _ _ => rfl)) (nomark _)))))))), ?_⟩
    obtain ⟨a, rfl, ha⟩ := hv
    obtain ⟨d, kvs, rfl, hd, has⟩ := hk
    simp only [List.nodup_cons, List.mem_cons, List.not_mem_nil, or_false, not_or, not_false_eq_true, List.nodup_nil, and_true] at nd
    obtain ⟨⟨n12, n13, n14⟩, ⟨n23, n24⟩, n34⟩ := nd
    have dg : ∀ {H' : Hp} {x y : Str} {t : Addr}, Same H H' → H' t = none → x ∈ ls → y ∈ ls → x ≠ y → DGet (upd H' t (.tup [.str x, .str y])) d (.ref t) (some (.str (kS (kd x y)))) := fun {H' x y t} s ht mx my n => by
      have z : DGet (upd H' t (.tup [.str x, .str y])) d (.ref t) (valV kvs (kk x y)) := DGet.t (k := kk x y) (same_new ht _ _ (s _ _ hd)) upd_same
      rw [show valV kvs (kk x y) = some (.str (kS (kd x y))) from has x y mx my n] at z
      exact z
    have z2 : (2 : Nat) ≤ sizeLine := by decide
    have z3 : (3 : Nat) ≤ sizeLine := by decide
    -- the chain
    refine ⟨3, rfl, by decide, by decide, fun D hD => ?_⟩
    refine loop_it walk_range (LcI H D fun i acc _ => acc = ([kS (kd a1 a2), kS (kd a2 a3), kS (kd a3 a4)].take i).map V.str) (LcI.start hD rfl) (fun _ _ _ _ => trivial) (fun i x H1o H1 hi p1 hy => ?_) fun H1 p1 => ?_
    · obtain ⟨acc, hDa, sm, ea⟩ := p1
      obtain ⟨rfl, rfl⟩ := hy
      have hi : i < 3 := hi
      obtain ⟨x, y, hx, hy, hm1, hm2, hn, hk3⟩ : ∃ x y, [a1, a2, a3, a4][i]? = some x ∧ [a1, a2, a3, a4][i + 1]? = some y ∧ x ∈ ls ∧ y ∈ ls ∧ x ≠ y ∧ [kS (kd a1 a2), kS (kd a2 a3), kS (kd a3 a4)][i]? = some (kS (kd x y)) := by
        have : i = 0 ∨ i = 1 ∨ i = 2 := by omega
        rcases this with rfl | rfl | rfl
        · exact ⟨a1, a2, rfl, rfl, m1, m2, n12, rfl⟩
        · exact ⟨a2, a3, rfl, rfl, m2, m3, n23, rfl⟩
        · exact ⟨a3, a4, rfl, rfl, m3, m4, n34, rfl⟩
      have sT : SqT K H1 a ([a1, a2, a3, a4].map V.str) := .inl (.inl (sm _ _ ha))
      have e0 : (0 : Int) + (i : Nat) = ((i : Nat) : Int) := by omega
      have e1 : (0 : Int) + (i : Nat) + 1 = ((i + 1 : Nat) : Int) := by omega
      refine ⟨rfl, kept ⟨_, rfl, _, rfl, _, rfl, a, _, _, .str x, rfl, rfl, sT, by rw [e0]; exact atI_nat (by rw [List.getElem?_map, hx]; rfl), _, rfl, _, rfl, _, _, rfl, rfl, a, _, _, .str y, rfl, rfl, sT, by rw [e1]; exact atI_nat (by rw [List.getElem?_map, hy]; rfl), z2, fun t ht => ⟨d, _, rfl, dg sm ht hm1 hm2 hn, ?_⟩⟩⟩
      refine ⟨acc, same_new ht _ _ hDa, ?_, LcI.push hD (sm_new sm ht) ?_⟩
      · rw [ea, List.length_map, List.length_take]
        exact small_of (m := 8) (by omega)
      · rw [List.take_add_one, hk3, ea, List.map_append]
        rfl
    · obtain ⟨acc, hDa, s3, ea⟩ := p1
      have e3 : H1 D = some (.lst ([kS (kd a1 a2), kS (kd a2 a3), kS (kd a3 a4)].map V.str)) := by rw [hDa, ea]; rfl
      have sT : ∀ {H' : Hp}, Same H H' → SqT K H' a ([a1, a2, a3, a4].map V.str) := fun s => .inl (.inl (s _ _ ha))
      refine ⟨_, rfl, _, rfl, a, _, 0, .str a1, rfl, rfl, sT s3, atI_nat (j := 0) rfl, _, rfl, a, _, 2, .str a3, rfl, rfl, sT s3, atI_nat (j := 2) rfl, z2, fun t4 h4 => ⟨d, _, rfl, dg s3 h4 m1 m3 n13, ?_⟩⟩
      have s4 := sm_new (o := .tup [.str a1, .str a3]) s3 h4
      have k4 := same_new (o := .tup [.str a1, .str a3]) h4
      generalize upd H1 t4 (.tup [.str a1, .str a3]) = H4 at s4 k4
      refine ⟨_, rfl, _, rfl, a, _, 1, .str a2, rfl, rfl, sT s4, atI_nat (j := 1) rfl, _, rfl, a, _, 3, .str a4, rfl, rfl, sT s4, atI_nat (j := 3) rfl, z2, fun t5 h5 => ⟨d, _, rfl, dg s4 h5 m2 m4 n24, ?_⟩⟩
      have s5 := sm_new (o := .tup [.str a2, .str a4]) s4 h5
      have k5 := sm_new (o := .tup [.str a2, .str a4]) k4 h5
      generalize upd H4 t5 (.tup [.str a2, .str a4]) = H5 at s5 k5
      refine ⟨_, rfl, _, rfl, a, _, 0, .str a1, rfl, rfl, sT s5, atI_nat (j := 0) rfl, _, rfl, a, _, 3, .str a4, rfl, rfl, sT s5, atI_nat (j := 3) rfl, z2, fun t6 h6 => ⟨d, _, rfl, dg s5 h6 m1 m4 n14, z3, fun l2 hl2 => ?_⟩⟩
      have s6 := sm_new (o := .lst [.str (kS (kd a1 a3)), .str (kS (kd a2 a4)), .str (kS (kd a1 a4))]) (sm_new (o := .tup [.str a1, .str a4]) s5 h6) hl2
      have k6 := sm_new (o := .lst [.str (kS (kd a1 a3)), .str (kS (kd a2 a4)), .str (kS (kd a1 a4))]) (sm_new (o := .tup [.str a1, .str a4]) k5 h6) hl2
      have e6 : (upd (upd H5 t6 (.tup [.str a1, .str a4])) l2 (.lst [.str (kS (kd a1 a3)), .str (kS (kd a2 a4)), .str (kS (kd a1 a4))])) l2 = some (.lst ([kS (kd a1 a3), kS (kd a2 a4), kS (kd a1 a4)].map V.str)) := upd_same
      have e7 := k6 _ _ e3
      generalize upd (upd H5 t6 (.tup [.str a1, .str a4])) l2 (.lst [.str (kS (kd a1 a3)), .str (kS (kd a2 a4)), .str (kS (kd a1 a4))]) = H6 at s6 k6 e6 e7
      have threeDp : ∀ {H' : Hp} {c : Addr} (x y z : Bool), H' c = some (.lst [.str (kS x), .str (kS y), .str (kS z)]) → Dp K H' (.ref c) (.list [.str (kS x), .str (kS y), .str (kS z)]) := fun x y z e => .lst (.inl (.inl e)) (.cons (.str _) (.cons (.str _) (.cons (.str _) .nil)))
      refine ⟨_, rfl, _, rfl, 1, rfl, D, _, rfl, .inl (.inl e7), fun p1 hp1 => ⟨p1, 3, _, rfl, rfl, upd_same, by decide, by decide, z3, fun p2 hp2 => ?_⟩⟩
      have s7 := sm_new (o := HO.lst (List.replicate (Int.toNat 3) (cutV (List.map V.str [kS (kd a1 a2), kS (kd a2 a3), kS (kd a3 a4)]) none (some 1))).flatten) (same_new (o := HO.lst (cutV (List.map V.str [kS (kd a1 a2), kS (kd a2 a3), kS (kd a3 a4)]) none (some 1))) hp1) hp2
      refine ⟨_, _, threeDp _ _ _ (s7 _ _ e7), threeDp (kd a1 a2) (kd a1 a2) (kd a1 a2) upd_same, kinds_shaped _ _ _, kinds_shaped _ _ _, _, rfl, ?_⟩
      have c1 := eqK (kd a1 a2) (kd a2 a3) (kd a3 a4)
      refine ifb (fun h => ?_) (fun h => ?_)
      · have h' : (kd a1 a2 == kd a2 a3 && kd a2 a3 == kd a3 a4) = true := c1.symm.trans h
        refine ⟨_, rfl, _, rfl, 1, rfl, l2, _, rfl, .inl (.inl (s7 _ _ e6)), fun p3 hp3 => ⟨p3, 3, _, rfl, rfl, upd_same, by decide, by decide, z3, fun p4 hp4 => ?_⟩⟩
        have s8 := sm_new (o := HO.lst (List.replicate (Int.toNat 3) (cutV (List.map V.str [kS (kd a1 a3), kS (kd a2 a4), kS (kd a1 a4)]) none (some 1))).flatten) (same_new (o := HO.lst (cutV (List.map V.str [kS (kd a1 a3), kS (kd a2 a4), kS (kd a1 a4)]) none (some 1))) hp3) hp4
        refine ⟨_, _, threeDp _ _ _ (s8 _ _ (s7 _ _ e6)), threeDp (kd a1 a3) (kd a1 a3) (kd a1 a3) upd_same, kinds_shaped _ _ _, kinds_shaped _ _ _, _, rfl, ?_⟩
        have c2 := eqK (kd a1 a3) (kd a2 a4) (kd a1 a4)
        have sF := (s6.trans s7).trans s8
        refine ifb (fun g => ?_) (fun g => ?_)
        · have g' : (kd a1 a3 == kd a2 a4 && kd a2 a4 == kd a1 a4) = true := c2.symm.trans g
          refine ⟨_, rfl, D, _, 0, _, rfl, rfl, .inl (.inl (s8 _ _ (s7 _ _ e7))), atI_nat (j := 0) rfl, _, rfl, l2, _, 0, _, rfl, rfl, .inl (.inl (s8 _ _ (s7 _ _ e6))), atI_nat (j := 0) rfl, rfl, ?_⟩
          refine bl_to ?_ (q _ sF)
          show (!decide (V.str (kS (kd a1 a2)) = V.str (kS (kd a1 a3)))) = _
          rw [kS_eq]
          unfold four4
          rw [h', g']
          cases kd a1 a2 <;> cases kd a1 a3 <;> rfl
        · refine bl_to ?_ (q _ sF)
          have g' : (kd a1 a3 == kd a2 a4 && kd a2 a4 == kd a1 a4) = false := c2.symm.trans g
          unfold four4
          rw [g', Bool.false_and, Bool.and_false]
      · refine bl_to ?_ (q _ (s6.trans s7))
        have h' : (kd a1 a2 == kd a2 a3 && kd a2 a3 == kd a3 a4) = false := c1.symm.trans h
        unfold four4
        rw [h', Bool.false_and]
/-! ### some of a chart -/
theorem sc_some : FnScope ["_law_chart_here", "_law_calls_here", "_law_entry"] ["_law_chart_here", "_law_calls_here"] (defScope s_l_some) := ⟨rfl, rfl, rfl, by decide +kernel, rfl, by decide +kernel, by decide +kernel⟩
def spSome : Sp := fun vs H Q _ => ∃ (v c : V) (ts : List Tri) (ms : List Str), vs = [v, c] ∧ TabAt H v ts ∧ LinesAt H c ms ∧ ts.length ≤ 28 ∧
  ∀ H' r, Same H H' → TabAt H' r (ts.filter fun t => decide (t.1 ∈ ms) && decide (t.2.1 ∈ ms)) → Q r H'
theorem c_some (T : Txt K mg) : Cal P w K mg base 1 "_law_some" spSome := by
  refine cal_of T.d_l_some sc_some (fun vs H Q E h => ?_) (fun f cdv A outer s H vs Q E hr h => ?_)
  · obtain ⟨v, c, ts, ms, rfl, _⟩ := h
    rfl
  · obtain ⟨v, c, ts, ms, rfl, hv, hc, h28, q⟩ := h
    refine ⟨_, pss_one (ps_ret (pe_callTy call_tuple_of (by rfl) T.b_tuple bt_tuple (pa_cons (pe_lc (own := [("_law_entry", 2)]) (g := gName 2)
        (tt := tAnd (tTest (tOp (rIn K false) (tOp (rIxT K) (tVar 2) (tC (.int 0))) (tVar 1))) (tTest (tOp (rIn K false) (tOp (rIxT K) (tVar 2) (tC (.int 1))) (tVar 1)))) rfl sc_some.nd (pi_tup (pv 0))
        (blkOk_by (N := ["_law_chart_here", "_law_calls_here", "_law_entry"]) (sc := defScope s_l_some) (by decide +kernel)) (fun _ _ _ _ _ => pg_name (i := 2) sc_some.nd rfl (Or.inl rfl))
        (fun _ _ _ _ _ => pts_one (PW.pt (pw_and (pt_cmpR op_in_seq (pe_ix ix_tup (pv 2) pe_int (fun _ _ => rfl)) (pv 1) rfl) (pw_and1 (pt_cmpR op_in_seq (pe_ix ix_tup (pv 2) pe_int (fun _ _ => rfl)) (pv 1) rfl)))))
        (fun _ _ _ _ _ => pv 2)) pa_nil))), ?_⟩
    obtain ⟨a, xs, rfl, ha, tr⟩ := hv
    obtain ⟨b, rfl, hb⟩ := hc
    have hlen := tr.len
    refine ⟨_, rfl, a, rfl, ⟨_, .inl (.inl ha)⟩, fun D hD => ?_⟩
    refine loop_it (walk_tup (xs := xs)) (LcI H D fun i acc H' => TrisAt H' acc ((ts.take i).filter fun t => decide (t.1 ∈ ms) && decide (t.2.1 ∈ ms))) (LcI.start hD .nil) (fun i H1 _ p1 => ?_) (fun i x H1o H1 hi p1 hy => ?_) fun H1 p1 => ?_
    · obtain ⟨acc, _, sm, _⟩ := p1
      exact .inl (.inl (sm _ _ ha))
    · obtain ⟨acc, hDa, sm, ra⟩ := p1
      obtain ⟨rfl, hx⟩ := hy
      obtain ⟨t, ht, e, rfl, he⟩ := paired_get tr hx
      have he1 := sm _ _ he
      have hb1 := sm _ _ hb
      have e5 := filter_take_succ (p := fun t : Tri => decide (t.1 ∈ ms) && decide (t.2.1 ∈ ms)) ht
      have skip : (decide (t.1 ∈ ms) && decide (t.2.1 ∈ ms)) = false → LcI H D (fun i acc H' => TrisAt H' acc ((ts.take i).filter fun t => decide (t.1 ∈ ms) && decide (t.2.1 ∈ ms))) (i + 1) H1 := fun h => by
        refine ⟨acc, hDa, sm, ?_⟩
        show TrisAt H1 acc (List.filter _ (List.take (i + 1) ts))
        rw [e5, h, if_neg Bool.false_ne_true, List.append_nil]
        exact ra
      refine ⟨rfl, _, rfl, e, _, 0, .str t.1, rfl, rfl, .inl (.inl he1), atI_nat (j := 0) rfl, _, rfl, b, _, rfl, .inr (.inl (.inl hb1)), rfl, flat_strs _, _, rfl, ?_⟩
      have q1 : inV (.str t.1) (ms.map V.str) = decide (t.1 ∈ ms) := inV_strs _ _
      have q2 : inV (.str t.2.1) (ms.map V.str) = decide (t.2.1 ∈ ms) := inV_strs _ _
      refine ifb (fun h1 => ?_) (fun h1 => ?_)
      · refine ⟨_, rfl, e, _, 1, .str t.2.1, rfl, rfl, .inl (.inl he1), atI_nat (j := 1) rfl, _, rfl, b, _, rfl, .inr (.inl (.inl hb1)), rfl, flat_strs _, _, rfl, ?_⟩
        refine ifb (fun h2 => ?_) (fun h2 => ?_)
        · have hh : (decide (t.1 ∈ ms) && decide (t.2.1 ∈ ms)) = true := by
            rw [← q1, ← q2]
            exact Bool.and_eq_true_iff.mpr ⟨h1, h2⟩
          refine ⟨_, rfl, acc, hDa, ?_, LcI.push hD sm ?_⟩
          · rw [ra.len]
            have l1 := List.length_filter_le (fun t : Tri => decide (t.1 ∈ ms) && decide (t.2.1 ∈ ms)) (ts.take i)
            have l2 := List.length_take_le' i ts
            exact small_of (m := 28) (by omega)
          · rw [e5, hh, if_pos rfl]
            have tt : Tups H1 (upd H1 D (.lst (acc ++ [V.ref e]))) := tups_lst hDa
            exact paired_snoc (ra.tups tt) ⟨e, rfl, tt _ _ he1⟩
        · exact skip (by rw [← q1, ← q2]; exact Bool.and_eq_false_iff.mpr (.inr h2))
      · refine iteF (skip (by rw [← q1, ← q2]; exact Bool.and_eq_false_iff.mpr (.inl h1)))
    · obtain ⟨acc, hDa, sm, ra⟩ := p1
      rw [List.take_of_length_le (by omega)] at ra
      refine ⟨D, acc, rfl, .inl ⟨.inl (.inl hDa), fun t ht => ?_⟩⟩
      exact q _ _ (sm.trans (same_new ht)) ⟨t, acc, rfl, upd_same, ra.tups (tups_new ht)⟩
end
end Fm
set_option maxHeartbeats 8000000
namespace Fm
open PySem PySem.Spec PyProof.Rows L2 FmM
/-- some lines of a table -/
theorem sub_perm {ls ms : List Str} (nd : ls.Nodup) (md : ms.Nodup) (sub : ∀ z, z ∈ ms → z ∈ ls) : (ls.filter fun z => decide (z ∈ ms)).Perm ms := by
  refine perm_of_mem (nd.sublist List.filter_sublist) md fun z => ?_
  rw [List.mem_filter]
  constructor
  · rintro ⟨_, h⟩
    exact of_decide_eq_true h
  · intro h
    exact ⟨sub z h, decide_eq_true h⟩
theorem TabOk.sub {kd : Str → Str → Bool} {ls ms : List Str} (k : TabOk kd ls) (md : ms.Nodup) (sub : ∀ z, z ∈ ms → z ∈ ls) (two : 2 ≤ ms.length) : TabOk kd (ls.filter fun z => decide (z ∈ ms)) := by
  refine ⟨k.asc.filter _, fun z hz => k.line z (List.mem_filter.mp hz).1, k.sym, ?_, Nat.le_trans (List.length_filter_le _ _) k.le⟩
  rw [(sub_perm k.asc.nodup md sub).length_eq]
  exact two
theorem no_four {kd : Str → Str → Bool} {ms : List Str} (nd : ms.Nodup) (h : ms.length ≤ 3) : ¬ HasFour kd ms := by
  rintro ⟨w, x, y, z, f⟩
  have sub : ∀ u, u ∈ [w, x, y, z] → u ∈ ms := fun u hu => by
    simp only [List.mem_cons, List.not_mem_nil, or_false] at hu
    rcases hu with e | e | e | e
    · rw [e]; exact f.mw
    · rw [e]; exact f.mx
    · rw [e]; exact f.my
    · rw [e]; exact f.mz
  have := (sub_perm nd f.nd sub).length_eq
  have l := List.length_filter_le (fun u => decide (u ∈ [w, x, y, z])) ms
  rw [this] at l
  have : [w, x, y, z].length = 4 := rfl
  omega
theorem four_sub {kd : Str → Str → Bool} {ls : List Str} {w x y z : Str} (f : IsFour kd ls w x y z) : HasFour kd (ls.filter fun u => decide (u ∈ [w, x, y, z])) :=
  ⟨w, x, y, z, List.mem_filter.mpr ⟨f.mw, by simp⟩, List.mem_filter.mpr ⟨f.mx, by simp⟩, List.mem_filter.mpr ⟨f.my, by simp⟩, List.mem_filter.mpr ⟨f.mz, by simp⟩, f.nd, f.four⟩
theorem MayAt.is {H : Hp} {r : V} {o : Option (Plan Str)} (h : MayAt H r o) : decide (r = .non) = o.isNone := by
  cases o with
  | none =>
    have h : r = .non := h
    exact decide_eq_true h
  | some p => exact decide_eq_false (PlanAt.ne_non h)
section
variable {P : Program} {w : World} {K : PySem.W.Frag} {mg : Str → Option Value} {base : Heap}
theorem sc_told : FnScope ["_law_chart_here", "_law_tree_here", "_law_four", "_law_k"] ["_law_chart_here"] (defScope s_l_told_right) := ⟨rfl, rfl, rfl, by decide +kernel, rfl, by decide +kernel, by decide +kernel⟩
def spTold : Sp := fun vs H Q _ => ∃ (v : V) (kd : Str → Str → Bool) (ls : List Str), vs = [v] ∧ TabAt H v (chart kd ls) ∧ TabOk kd ls ∧ ∀ H', Same H H' → Q (.bl true) H'
theorem c_told (T : Txt K mg) : Cal P w K mg base 23 "_law_told_right" spTold := by
  refine cal_of T.d_l_told_right sc_told (fun vs H Q E h => ?_) (fun f cdv A outer s H vs Q E hr h => ?_)
  · obtain ⟨v, kd, ls, rfl, _⟩ := h
    rfl
  · obtain ⟨v, kd, ls, rfl, hv, ok, q⟩ := h
    refine ⟨_, pss_cons (ps_asg (pe_tup (pa_cons (pe_d (c_find_plan T) hr (by omega) (pa_cons (pv 0) pa_nil)) (pa_cons (pe_d (c_find_four T) hr (by omega) (pa_cons (pv 0) pa_nil)) pa_nil)))
          (pg_tup rfl (pgs_cons (pg_name (i := 1) sc_told.nd rfl (.inl rfl)) (pgs_cons (pg_name (i := 2) sc_told.nd rfl (.inr rfl)) pgs_nil))))
      (pss_cons (ps_if (pt_cmpR op_eq (pe_cmpR op_isN (pv 1) pe_non (nomark _)) (pe_cmpR op_isN (pv 2) pe_non (nomark _)) (nomark _)) (pss_one (ps_ret pe_bl)) pss_nil)
      (pss_cons (ps_if (pt_cmpR op_isN (pv 2) pe_non (nomark _))
        (pss_one (ps_ret (pe_and (pe_cmpR (op_eqD hr.units) (pe_d (c_kind_table T) hr (by omega) (pa_cons (pv 1) pa_nil)) (pv 0) (nomark _)) (pe_one (pe_cmpR (op_eqD hr.units) (pe_d (c_flatten T) hr (by omega) (pa_cons (pv 1) pa_nil)) (pv 1) (nomark _)))))) pss_nil)
      (pss_cons (ps_if (PW.pt (pw_or (pt_cmpR op_ne (pe_callB call_len (by rfl) T.b_len bt_len (pa_cons (pv 2) pa_nil)) pe_int (nomark _))
          (pw_or (pt_not (pt_val (pe_d (c_isf T) hr (by omega) (pa_cons (pe_d (c_lsorts T) hr (by omega) (pa_cons (pv 0) pa_nil)) (pa_cons (pv 2) pa_nil)))))
            (pw_or1 (pt_cmpR op_notN (pe_d (c_find_plan T) hr (by omega) (pa_cons (pe_d (c_some T) hr (by omega) (pa_cons (pv 0) (pa_cons (pv 2) pa_nil))) pa_nil)) pe_non (nomark _))))))
        (pss_one (ps_ret pe_bl)) pss_nil)
      (pss_one (ps_ret (pe_callB (cr_all rfl) (by rfl) T.b_all bt_all (pa_cons (pe_lc (own := [("_law_k", 3)]) (g := gName 3) (tt := tYes)
          (te := tOp (fun x y H Q => y = .non ∧ Q (.bl (!decide (x = .non))) H) (tCall spFindPlan [] E0 (tCons (tCall spSome [] E0 (tCons (tVar 0) (tCons (tOp (rCatA K) (tSl (rSlT K) (tVar 2) tNoPart (tPart (tVar 3))) (tSl (rSlT K) (tVar 2) (tPart (tOp (rI0 fun i j => .int (i + j)) (tVar 3) (tC (.int 1)))) tNoPart)) tNil))) tNil)) (tC .non)) rfl sc_told.nd (pi_range1 (by rfl) T.b_range (pa_cons pe_int pa_nil))
          (blkOk_by (N := ["_law_chart_here", "_law_tree_here", "_law_four", "_law_k"]) (sc := defScope s_l_told_right) (by decide +kernel)) (fun _ _ _ _ _ => pg_name (i := 3) sc_told.nd rfl (Or.inl rfl)) (fun _ _ _ _ _ => pts_nil)
          (fun _ _ _ _ _ => pe_cmpR op_notN (pe_d (c_find_plan T) hr (by omega) (pa_cons (pe_d (c_some T) hr (by omega) (pa_cons (pv 0) (pa_cons (pe_op op_catA (pe_slice sl_tup (pv 2) po_none (po_some (pv 3))) (pe_slice sl_tup (pv 2) (po_some (pe_op op_add (pv 3) pe_int)) po_none)) pa_nil))) pa_nil)) pe_non (nomark _))) pa_nil))))))), ?_⟩
    refine ⟨_, rfl, v, kd, ls, rfl, hv, ok, fun H1 r o s1 hm hp => ?_⟩
    refine ⟨_, rfl, v, kd, ls, rfl, hv.tups (sm_tups s1), ok, fun H2 r2 s2 h2 => ?_⟩
    refine ⟨by show 2 ≤ sizeLine; decide, fun t ht => ⟨t, _, rfl, .inl (.inl upd_same), rfl, _, _, rfl, _, _, rfl, rfl, ?_⟩⟩
    have sH := sm_new (o := .tup [r, r2]) (s1.trans s2) ht
    have kH := same_new (o := .tup [r, r2]) ht
    have hv3 := hv.tups (sm_tups sH)
    generalize upd H2 t (.tup [r, r2]) = H3 at sH kH hv3
    have hm3 : MayAt H3 r o := hm.tups (sm_tups (s2.trans kH))
    refine ⟨_, rfl, rfl, _, rfl, rfl, rfl, _, rfl, ?_⟩
    cases o with
    | some p =>
      obtain ⟨g1, g2, g3, g4, g5, _⟩ := hp
      have er2 : r2 = .non := by
        rcases h2 with h2 | ⟨a1, a2, a3, a4, _, f4⟩
        · exact h2.1
        · exact absurd ⟨a1, a2, a3, a4, f4⟩ g5
      subst er2
      have is1 := hm3.is
      refine ifb (fun h => ?_) (fun _ => ?_)
      · have h : decide (V.bl (decide (r = .non)) = V.bl (decide (V.non = V.non))) = true := h
        rw [is1, show (some p).isNone = false from rfl] at h
        exact absurd h (by decide)
      have hpA : PlanAt H3 r p := hm3
      have pok : PlanOk p := ⟨g1, fun z hz => ok.line z (g2.mem_iff.mp hz), g2.nodup_iff.mpr ok.asc.nodup, by rw [g2.length_eq]; exact ok.le⟩
      refine ⟨_, rfl, rfl, _, rfl, ?_⟩
      refine ifb (fun _ => ?_) (fun h => absurd h (by decide))
      refine ⟨_, rfl, r, p, kd, rfl, hpA, pok, g3, ok.sym, fun H4 r4 s4 h4 => ?_⟩
      rw [srt_of_asc g2 ok.asc] at h4
      have dT := ok.dok
      refine ⟨_, rfl, tabD (chart kd ls), tabD (chart kd ls), h4.dp, (hv3.tups (sm_tups s4)).dp, dT.shaped (by decide), dT.shaped (by decide), _, rfl, ?_⟩
      rw [SeqAt.eqv_refl _ dT.1]
      refine iteT ⟨_, rfl, r, p, rfl, hpA.tups (sm_tups s4), pok, g4, fun H5 r5 s5 h5 => ?_⟩
      have dP := plan_dok g1 pok.line
      have hle := pok.le
      refine ⟨_, rfl, planD p, planD p, h5.dp, (hpA.tups (sm_tups (s4.trans s5))).dp, dP.shaped (by omega), dP.shaped (by omega), ?_⟩
      exact bl_to (SeqAt.eqv_refl _ dP.1) (q _ (sH.trans (s4.trans s5)))
    | none =>
      have hF : HasFour kd ls := hp
      have er : r = .non := hm3
      subst er
      obtain ⟨a1, a2, a3, a4, l4, f4⟩ : ∃ w x y z, LinesAt H2 r2 [w, x, y, z] ∧ IsFour kd ls w x y z := by
        rcases h2 with h2 | h2
        · exact absurd hF h2.2
        · exact h2
      have l4' := l4.tups (sm_tups kH)
      obtain ⟨a, rfl, ha⟩ := l4'
      refine ifb (fun h => ?_) (fun _ => ?_)
      · have h : decide (V.bl (decide (V.non = V.non)) = V.bl (decide (V.ref a = V.non))) = true := h
        rw [show decide (V.ref a = V.non) = false from decide_eq_false fun e => nomatch e] at h
        exact absurd h (by decide)
      refine ⟨_, rfl, rfl, _, rfl, ?_⟩
      refine ifb (fun h => ?_) (fun _ => ?_)
      · have h : decide (V.ref a = V.non) = true := h
        exact absurd (of_decide_eq_true h) (fun e => nomatch e)
      have h28 := ok.len
      have memL : ∀ u, u ∈ [a1, a2, a3, a4] → u ∈ ls := fun u hu => by
        simp only [List.mem_cons, List.not_mem_nil, or_false] at hu
        rcases hu with e | e | e | e
        · rw [e]; exact f4.mw
        · rw [e]; exact f4.mx
        · rw [e]; exact f4.my
        · rw [e]; exact f4.mz
      -- the four are the four
      refine ⟨_, rfl, _, 4, rfl, .inr ⟨_, .inl (.inl ha), rfl⟩, rfl, false, rfl, ?_⟩
      refine iteF ⟨_, rfl, v, kd, ls, rfl, hv3, ok, fun H4 kv s4 hk => ?_⟩
      refine ⟨_, rfl, kv, .ref a, kd, ls, a1, a2, a3, a4, rfl, ⟨a, rfl, s4 _ _ ha⟩, hk, f4.mw, f4.mx, f4.my, f4.mz, f4.nd, fun H5 s5 => ⟨_, rfl, ?_⟩⟩
      rw [(four4_iff kd a1 a2 a3 a4).mpr f4.four]
      have sm5 := s4.trans s5
      refine iteF ⟨_, rfl, _, rfl, v, .ref a, chart kd ls, [a1, a2, a3, a4], rfl, hv3.tups (sm_tups sm5), ⟨a, rfl, sm5 _ _ ha⟩, h28, fun H6 r6 s6 h6 => ?_⟩
      rw [chart_filter] at h6
      refine ⟨r6, kd, _, rfl, h6, ok.sub f4.nd memL (show 2 ≤ 4 by decide), fun H7 r7 o7 s7 m7 p7 => ⟨rfl, _, rfl, ?_⟩⟩
      have eo7 : o7 = none := by
        cases o7 with
        | none => rfl
        | some p => exact absurd (four_sub f4) p7.2.2.2.2.1
      subst eo7
      have is7 := m7.is
      refine ifb (fun h => ?_) (fun _ => ?_)
      · have h : (!decide (r7 = .non)) = true := h
        rw [is7] at h
        cases h
      have sm7 : Same H3 H7 := (sm5.trans s6).trans s7
      -- no three of them
      refine ⟨4, rfl, by decide, by decide, fun D hD => ?_⟩
      refine loop_it walk_range (LcI H7 D fun i acc _ => acc = List.replicate i (.bl true)) (LcI.start hD rfl) (fun _ _ _ _ => trivial) (fun i x H8o H8 hi p8 hy => ?_) fun H8 p8 => ?_
      · obtain ⟨acc, hDa, sm8, ea⟩ := p8
        obtain ⟨rfl, rfl⟩ := hy
        have hi : i < 4 := hi
        have ha8 := (sm7.trans sm8) _ _ ha
        have hv8 := hv3.tups (sm_tups (sm7.trans sm8))
        have fin : ∀ (H9 : Hp) (y : Addr) (ms : List Str), Same H8 H9 → H9 y = some (.tup (ms.map V.str)) → ms.Sublist [a1, a2, a3, a4] → ms.length = 3 →
            ∀ (Q' : VK) (X1 X2 : XK), (∀ H' r, Same H9 H' → decide (r = .non) = false → Q' r H') → spSome [v, .ref y] H9 (fun r H => spFindPlan [r] H Q' X2) X1 := fun H9 y ms s9 hy sub l3 Q' X1 X2 q' => by
          have memS : ∀ u, u ∈ ms → u ∈ ls := fun u hu => memL u (sub.subset hu)
          have nd : ms.Nodup := f4.nd.sublist sub
          refine ⟨v, .ref y, chart kd ls, ms, rfl, hv8.tups (sm_tups s9), ⟨y, rfl, hy⟩, h28, fun HA rA sA hA => ?_⟩
          rw [chart_filter] at hA
          refine ⟨rA, kd, _, rfl, hA, ok.sub nd memS (by omega), fun HB rB oB sB mB pB => q' _ _ (sA.trans sB) ?_⟩
          rw [mB.is]
          cases oB with
          | some p => rfl
          | none =>
            have hF : HasFour kd (ls.filter fun z => decide (z ∈ ms)) := pB
            exact absurd hF (no_four (ok.asc.nodup.sublist List.filter_sublist) (by rw [(sub_perm ok.asc.nodup nd memS).length_eq]; omega))
        have next : ∀ (H9 : Hp), Same H8 H9 → ∀ H' r, Same H9 H' → decide (r = V.non) = false → V.non = V.non ∧ ∃ acc, H' D = some (.lst acc) ∧ acc.length < sizeLine ∧ LcI H7 D (fun i acc _ => acc = List.replicate i (.bl true)) (i + 1) (upd H' D (.lst (acc ++ [.bl (!decide (r = .non))]))) := fun H9 s9 H' r s' hr => by
          refine ⟨rfl, acc, (s9.trans s') _ _ hDa, ?_, ?_⟩
          · rw [ea, List.length_replicate]
            exact small_of (m := 8) (by omega)
          · rw [hr]
            refine LcI.push hD (sm8.trans (s9.trans s')) ?_
            rw [ea, List.replicate_succ']
            rfl
        have sT : SqT K H8 a [.str a1, .str a2, .str a3, .str a4] := .inl (.inl ha8)
        have e1 : (0 : Int) + (i : Nat) + 1 = ((i + 1 : Nat) : Int) := by omega
        refine ⟨rfl, kept ⟨_, rfl, _, rfl, _, rfl, _, rfl, a, _, rfl, sT, fun z => ?_, fun pa hpa => ?_⟩⟩
        · have z2 : HT.sIx 4 4 (some ((0 : Int) + (i : Nat))) = 4 := z.2
          rw [show (0 : Int) + (i : Nat) = ((i : Nat) : Int) from by omega, HT.sIx_nat] at z2
          omega
        have sT2 := same_new (o := .tup (cutV [.str a1, .str a2, .str a3, .str a4] none (some ((0 : Int) + (i : Nat))))) hpa _ _ ha8
        refine ⟨_, rfl, _, rfl, _, _, rfl, rfl, _, rfl, a, _, rfl, .inl (.inl sT2), fun z => ?_, fun pb hpb => ?_⟩
        · have z1 : HT.sIx 4 0 (some ((0 : Int) + (i : Nat) + 1)) = 0 := z.1
          rw [e1, HT.sIx_nat] at z1
          omega
        have sP := sm_new (o := .tup (cutV ([a1, a2, a3, a4].map V.str) (some ((0 : Int) + (i : Nat) + 1)) none)) (same_new (o := .tup (cutV [.str a1, .str a2, .str a3, .str a4] none (some ((0 : Int) + (i : Nat))))) hpa) hpb
        have hA := same_new (o := .tup (cutV ([a1, a2, a3, a4].map V.str) (some ((0 : Int) + (i : Nat) + 1)) none)) hpb _ _ (upd_same (H := H8) (a := pa) (o := .tup (cutV [.str a1, .str a2, .str a3, .str a4] none (some ((0 : Int) + (i : Nat))))))
        have hB := upd_same (H := upd H8 pa (.tup (cutV [.str a1, .str a2, .str a3, .str a4] none (some ((0 : Int) + (i : Nat)))))) (a := pb) (o := .tup (cutV ([a1, a2, a3, a4].map V.str) (some ((0 : Int) + (i : Nat) + 1)) none))
        have eA : cutV [.str a1, .str a2, .str a3, .str a4] none (some ((0 : Int) + (i : Nat))) = ([a1, a2, a3, a4].take i).map V.str := by
          rw [show (0 : Int) + (i : Nat) = ((i : Nat) : Int) from by omega, cutV_take (show i ≤ 4 by omega), List.map_take]
          rfl
        have eB : cutV ([a1, a2, a3, a4].map V.str) (some ((0 : Int) + (i : Nat) + 1)) none = ([a1, a2, a3, a4].drop (i + 1)).map V.str := by
          rw [e1, cutV_drop (show i + 1 ≤ 4 by omega), List.map_drop]
        have hA := hA.trans (congrArg (fun z => some (HO.tup z)) eA)
        have hB := hB.trans (congrArg (fun z => some (HO.tup z)) eB)
        have lT : ([a1, a2, a3, a4].take i).length = i := by rw [List.length_take]; exact Nat.min_eq_left (show i ≤ 4 by omega)
        have lD : ([a1, a2, a3, a4].drop (i + 1)).length = 4 - (i + 1) := List.length_drop
        refine ⟨pa, pb, ([a1, a2, a3, a4].take i).map V.str, ([a1, a2, a3, a4].drop (i + 1)).map V.str, rfl, rfl, .inl (.inl hA), .inl (.inl hB), ?_, fun e => ?_, fun _ e => ?_, fun _ _ p hp => ?_⟩
        · rw [List.length_map, List.length_map, lT, lD]
          exact small_le (m := 8) (by omega)
        · have := congrArg List.length e
          rw [List.length_map, lT] at this
          have i0 : i = 0 := this
          exact fin _ pb _ sP hB (List.drop_sublist _ _) (by rw [lD]; omega) _ E0 E0 (next _ sP)
        · have := congrArg List.length e
          rw [List.length_map, lD] at this
          have i3 : 4 - (i + 1) = 0 := this
          exact fin _ pa _ sP hA (List.take_sublist _ _) (by rw [lT]; omega) _ E0 E0 (next _ sP)
        · have sub : ([a1, a2, a3, a4].take i ++ [a1, a2, a3, a4].drop (i + 1)).Sublist [a1, a2, a3, a4] := by
            conv => rhs; rw [← List.take_append_drop i [a1, a2, a3, a4]]
            refine List.Sublist.append (List.Sublist.refl _) ?_
            rw [show [a1, a2, a3, a4].drop (i + 1) = ([a1, a2, a3, a4].drop i).drop 1 from by rw [List.drop_drop]]
            exact List.drop_sublist _ _
          refine fin _ p _ (sm_new sP hp) ?_ sub (by rw [List.length_append, lT, lD]; omega) _ E0 E0 (next _ (sm_new sP hp))
          rw [upd_same, List.map_append]
      · obtain ⟨acc, hDa, sm8, ea⟩ := p8
        refine ⟨D, List.replicate 4 true, rfl, .inl (.inl (by rw [hDa, ea, List.map_replicate]; rfl)), ?_⟩
        exact bl_to (by decide) (q _ (sH.trans (sm7.trans sm8)))
end
end Fm
set_option maxHeartbeats 8000000
namespace Fm
open PySem PySem.Spec PyProof.Rows L2 FmM
def sqL : List Str := ["a", "b", "c", "d", "e"]
theorem sqL_asc : Asc sqL := by unfold Asc sqL; decide +kernel
theorem sqL_line : ∀ z, z ∈ sqL → Line z := fun z hz => line_of (List.all_eq_true.mp (show sqL.all lineB = true by decide +kernel) z hz)
theorem sqL_ok : ∀ z, z ∈ sqL → PyData.strOk z = true := fun z hz => (sqL_line z hz).ok
section
variable {P : Program} {w : World} {K : PySem.W.Frag} {mg : Str → Option Value} {base : Heap}
theorem sc_square : FnScope ["_law_sort_here", "_law_contrary", "_law_near", "_law_call", "_law_mate"] ["_law_sort_here", "_law_contrary"] (defScope s_l_square) := ⟨rfl, rfl, rfl, by decide +kernel, rfl, by decide +kernel, by decide +kernel⟩
def spSquare : Sp := fun vs H Q _ => ∃ k j : Bool, vs = [.str (kS k), .str (kS j)] ∧ ∀ (H' : Hp) (r : V), Same H H' → TabOn H' r sqL → Q r H'
def nearD : List PyData := [.tuple [.str "a", .str "b"], .tuple [.str "a", .str "d"], .tuple [.str "a", .str "e"], .tuple [.str "b", .str "c"], .tuple [.str "c", .str "d"]]
theorem c_square (T : Txt K mg) : Cal P w K mg base 2 "_law_square" spSquare := by
  refine cal_of T.d_l_square sc_square (fun vs H Q E h => ?_) (fun f cdv A outer s H vs Q E hr h => ?_)
  · obtain ⟨k, j, rfl, _⟩ := h
    rfl
  · obtain ⟨k, j, rfl, q⟩ := h
    refine ⟨_, pss_cons (ps_set (i := 2) sc_square.nd rfl (.inr rfl) (pe_lst (pa_cons (pe_tup (pa_cons pe_str (pa_cons pe_str pa_nil))) (pa_cons (pe_tup (pa_cons pe_str (pa_cons pe_str pa_nil))) (pa_cons (pe_tup (pa_cons pe_str (pa_cons pe_str pa_nil))) (pa_cons (pe_tup (pa_cons pe_str (pa_cons pe_str pa_nil))) (pa_cons (pe_tup (pa_cons pe_str (pa_cons pe_str pa_nil))) pa_nil)))))))
      (pss_one (ps_ret (pe_callTy call_tuple_of (by rfl) T.b_tuple bt_tuple (pa_cons (pe_lc (own := [("_law_call", 3), ("_law_mate", 4)]) (g := gTup K 2 (gCons (gName 3) (gCons (gName 4) gNil))) (tt := tYes)
          (te := tTup (tCons (tVar 3) (tCons (tVar 4) (tCons (tIf (tTest (tOp (rInD K) (tTup (tCons (tVar 3) (tCons (tVar 4) tNil))) (tVar 2))) (tVar 0) (tVar 1)) tNil)))) rfl sc_square.nd
          (pi_list (pe_d (c_lpairs T) hr (by omega) (pa_cons (pe_lst (pa_cons pe_str (pa_cons pe_str (pa_cons pe_str (pa_cons pe_str (pa_cons pe_str pa_nil)))))) pa_nil)))
          (blkOk_by (N := ["_law_sort_here", "_law_contrary", "_law_near", "_law_call", "_law_mate"]) (sc := defScope s_l_square) (by decide +kernel))
          (fun _ _ _ _ _ => pg_tup rfl (pgs_cons (pg_name (i := 3) sc_square.nd rfl (Or.inl rfl)) (pgs_cons (pg_name (i := 4) sc_square.nd rfl (Or.inl rfl)) pgs_nil))) (fun _ _ _ _ _ => pts_nil)
          (fun _ _ _ _ _ => pe_tup (pa_cons (pv 3) (pa_cons (pv 4) (pa_cons (pe_ifExp (pt_cmpR (op_inD (room65 hr)) (pe_tup (pa_cons (pv 3) (pa_cons (pv 4) pa_nil))) (pv 2) rfl) (pv 0) (pv 1)) pa_nil))))) pa_nil)))), ?_⟩
    have z2 : (2 : Nat) ≤ sizeLine := by decide
    have z5 : (5 : Nat) ≤ sizeLine := by decide
    refine ⟨z2, fun t1 h1 => ⟨z2, fun t2 h2 => ⟨z2, fun t3 h3 => ⟨z2, fun t4 h4 => ⟨z2, fun t5 h5 => ⟨z5, fun n0 hn => ?_⟩⟩⟩⟩⟩⟩
    have S1 := same_new (o := HO.tup [.str "a", .str "b"]) h1
    have S2 := same_new (o := HO.tup [.str "a", .str "d"]) h2
    have S3 := same_new (o := HO.tup [.str "a", .str "e"]) h3
    have S4 := same_new (o := HO.tup [.str "b", .str "c"]) h4
    have S5 := same_new (o := HO.tup [.str "c", .str "d"]) h5
    have S6 := same_new (o := HO.lst [.ref t1, .ref t2, .ref t3, .ref t4, .ref t5]) hn
    refine gen2 (P := fun H1 => Same H H1 ∧ H1 n0 = some (.lst [.ref t1, .ref t2, .ref t3, .ref t4, .ref t5]) ∧ H1 t1 = some (.tup [.str "a", .str "b"]) ∧ H1 t2 = some (.tup [.str "a", .str "d"]) ∧ H1 t3 = some (.tup [.str "a", .str "e"]) ∧ H1 t4 = some (.tup [.str "b", .str "c"]) ∧ H1 t5 = some (.tup [.str "c", .str "d"])) (fun H1 p1 => ?_)
      ⟨S1.trans (S2.trans (S3.trans (S4.trans (S5.trans S6)))), upd_same, (S2.trans (S3.trans (S4.trans (S5.trans S6)))) _ _ upd_same, (S3.trans (S4.trans (S5.trans S6))) _ _ upd_same, (S4.trans (S5.trans S6)) _ _ upd_same, (S5.trans S6) _ _ upd_same, S6 _ _ upd_same⟩
    obtain ⟨sm1, en, e1, e2, e3, e4, e5⟩ := p1
    have dpN : ∀ {H' : Hp}, Same H1 H' → Dp K H' (.ref n0) (.list nearD) := fun s =>
      .lst (.inl (.inl (s _ _ en))) (.cons (.tup (.inl (.inl (s _ _ e1))) (.cons (.str _) (.cons (.str _) .nil))) (.cons (.tup (.inl (.inl (s _ _ e2))) (.cons (.str _) (.cons (.str _) .nil)))
        (.cons (.tup (.inl (.inl (s _ _ e3))) (.cons (.str _) (.cons (.str _) .nil))) (.cons (.tup (.inl (.inl (s _ _ e4))) (.cons (.str _) (.cons (.str _) .nil))) (.cons (.tup (.inl (.inl (s _ _ e5))) (.cons (.str _) (.cons (.str _) .nil))) .nil)))))
    have shN : SeqAt.shaped (.list nearD) = true := by decide +kernel
    refine ⟨z5, fun l0 hl0 => ?_⟩
    refine ⟨l0, sqL, rfl, upd_same, by decide, fun H2 r2 ws s2 hr2 pw => ?_⟩
    have k2 := (same_new (o := HO.lst [.str "a", .str "b", .str "c", .str "d", .str "e"]) hl0).trans s2
    have sm2 : Same H H2 := sm1.trans k2
    have wl : ws.length = 10 := (Paired.length pw).trans (by decide +kernel)
    refine ⟨r2, rfl, ⟨_, .inl (.inl hr2)⟩, fun D hD => ?_⟩
    refine loop_it (walk_list (xs := ws)) (LcI H2 D fun i acc H' => ∃ ts, TrisAt H' acc ts ∧ prs ts = (pairs sqL).take i) (LcI.start hD ⟨[], .nil, rfl⟩) (fun i H3 _ p3 => ?_) (fun i x H3o H3 hi p3 hy => ?_) fun H3 p3 => ?_
    · obtain ⟨acc, _, sm3, _⟩ := p3
      exact .inl (.inl (sm3 _ _ hr2))
    · obtain ⟨acc, hDa, sm3, ts, rt, et⟩ := p3
      obtain ⟨rfl, hx⟩ := hy
      obtain ⟨pr, hpr, b, rfl, hb⟩ := paired_get pw hx
      obtain ⟨m1, m2, lt⟩ := (mem_pairs sqL_asc).mp (List.mem_of_getElem? hpr)
      refine ⟨b, _, rfl, .inl (.inl (sm3 _ _ hb)), rfl, _, _, rfl, _, _, rfl, rfl, rfl, kept ⟨_, rfl, _, rfl, ?_⟩⟩
      refine ⟨_, rfl, _, rfl, z2, fun u hu => ?_⟩
      have sm4 := sm_new (o := HO.tup [.str pr.1, .str pr.2]) sm3 hu
      have shP : SeqAt.shaped (.tuple [.str pr.1, .str pr.2]) = true := (Dok.tup (DokA.cons (Dok.str (n := 0) (sqL_ok _ m1)) (.cons (.str (sqL_ok _ m2)) .nil))).shaped (by decide)
      refine ⟨_, rfl, _, _, .tup (.inl (.inl upd_same)) (.cons (.str _) (.cons (.str _) .nil)), dpN (k2.trans sm4), shP, shN, _, rfl, ?_⟩
      have hD4 := same_new (o := HO.tup [.str pr.1, .str pr.2]) hu _ _ hDa
      -- whatever the kind
      have fin : ∀ k3 : Bool, 3 ≤ sizeLine ∧ ∀ t, (upd H3 u (.tup [.str pr.1, .str pr.2])) t = none → ∃ acc', (upd (upd H3 u (.tup [.str pr.1, .str pr.2])) t (.tup [.str pr.1, .str pr.2, .str (kS k3)])) D = some (.lst acc') ∧ acc'.length < sizeLine ∧
          LcI H2 D (fun i acc H' => ∃ ts, TrisAt H' acc ts ∧ prs ts = (pairs sqL).take i) (i + 1) (upd (upd (upd H3 u (.tup [.str pr.1, .str pr.2])) t (.tup [.str pr.1, .str pr.2, .str (kS k3)])) D (.lst (acc' ++ [V.ref t]))) := fun k3 => by
        refine ⟨by decide, fun t ht => ?_⟩
        have hD5 := same_new (o := HO.tup [.str pr.1, .str pr.2, .str (kS k3)]) ht _ _ hD4
        refine ⟨acc, hD5, ?_, LcI.push hD (sm_new sm4 ht) ⟨ts ++ [(pr.1, pr.2, k3)], ?_, ?_⟩⟩
        · rw [TrisAt.len rt]
          have := congrArg List.length et
          unfold prs at this
          rw [List.length_map, List.length_take] at this
          exact small_of (m := 64) (by omega)
        · have tt : Tups H3 (upd (upd (upd H3 u (.tup [.str pr.1, .str pr.2])) t (.tup [.str pr.1, .str pr.2, .str (kS k3)])) D (.lst (acc ++ [V.ref t]))) := ((tups_new hu).trans (tups_new ht)).trans (tups_lst hD5)
          refine paired_snoc (rt.tups tt) ⟨t, rfl, ?_⟩
          rw [upd_ne (ne_lt hD5 upd_same)]
          exact upd_same
        · rw [List.take_add_one, hpr, ← et]
          unfold prs
          rw [List.map_append]
          rfl
      refine ifb (fun _ => ⟨_, rfl, fin k⟩) (fun _ => ⟨_, rfl, fin j⟩)
    · obtain ⟨acc, hDa, sm3, ts, rt, et⟩ := p3
      rw [List.take_of_length_le (by rw [wl]; decide +kernel)] at et
      refine ⟨D, acc, rfl, .inl ⟨.inl (.inl hDa), fun t ht => ?_⟩⟩
      exact q _ _ ((sm2.trans sm3).trans (same_new ht)) ⟨ts, ⟨t, acc, rfl, upd_same, rt.tups (tups_new ht)⟩, et⟩
end
end Fm
set_option maxHeartbeats 8000000
namespace Fm
open PySem PySem.Spec PyProof.Rows L2 FmM
theorem paired_set {α β : Type} {R : α → β → Prop} : ∀ {l : List α} {m : List β} {x : α} {y : β} (i : Nat), Paired R l m → R x y → Paired R (l.set i x) (m.set i y)
  | _, _, _, _, _, .nil, _ => .nil
  | _, _, _, _, 0, .cons _ t, r => .cons r t
  | _, _, _, _, i + 1, .cons s t, r => .cons s (paired_set i t r)
theorem set_same {α : Type} : ∀ {l : List α} {i : Nat} {x : α}, l[i]? = some x → l.set i x = l
  | [], _, _, h => by simp at h
  | y :: l, 0, x, h => by
    have : y = x := by simpa using h
    rw [this]
    rfl
  | y :: l, i + 1, x, h => by
    rw [List.set_cons_succ, set_same (by simpa using h)]
theorem prs_set {ts : List Tri} {i : Nat} {t u : Tri} (h : ts[i]? = some t) (e1 : u.1 = t.1) (e2 : u.2.1 = t.2.1) : prs (ts.set i u) = prs ts := by
  unfold prs
  rw [List.map_set]
  refine set_same ?_
  rw [List.getElem?_map, h, e1, e2]
  rfl
theorem ixN_nat {n j : Nat} (h : j < n) : ixN n (j : Int) = some j := by
  unfold ixN
  rw [if_pos (by omega), if_pos (by omega)]
  rfl
def TabN (H : Hp) (v : V) (qs : List (Str × Str)) : Prop := ∃ ts, TabAt H v ts ∧ prs ts = qs
theorem TabN.tups {H H' : Hp} {v : V} {qs : List (Str × Str)} (s : Tups H H') (h : TabN H v qs) : TabN H' v qs := let ⟨ts, h, e⟩ := h; ⟨ts, h.tups s, e⟩
theorem pool_tups {l : Addr} {H H' : Hp} (h : PoolAt H l) (s : SameBut l H H') : Tups H H' := fun b xs e => s b _ (fun e' => by
  obtain ⟨a1, a2, a3, e3⟩ := h
  rw [e', e3] at e
  cases e) e
section
variable {P : Program} {w : World} {K : PySem.W.Frag} {mg : Str → Option Value} {base : Heap}
/-! ### every chart -/
theorem sc_every : FnScope ["_law_calls_here", "_law_found", "_law_call", "_law_mate", "_law_longer", "_law_some_here", "_law_sort_here"] ["_law_calls_here"] (defScope s_l_every_chart) := ⟨rfl, rfl, rfl, by decide +kernel, rfl, by decide +kernel, by decide +kernel⟩
def spEvery : Sp := fun vs H Q _ => ∃ (a : Addr) (ls : List Str), vs = [.ref a] ∧ H a = some (.lst (ls.map V.str)) ∧ ls.length = 4 ∧ ∀ (H' : Hp) (r : Addr) (ws : List V), Same H H' → H' r = some (.lst ws) → ws.length ≤ 64 → (∀ v, v ∈ ws → TabOn H' v ls) → Q (.ref r) H'
theorem c_every (T : Txt K mg) : Cal P w K mg base 2 "_law_every_chart" spEvery := by
  refine cal_of T.d_l_every_chart sc_every (fun vs H Q E h => ?_) (fun f cdv A outer s H vs Q E hr h => ?_)
  · obtain ⟨a, ls, rfl, _⟩ := h
    rfl
  · obtain ⟨a, ls, rfl, ha, h4, q⟩ := h
    refine ⟨_, pss_cons (ps_set (i := 1) sc_every.nd rfl (.inl rfl) (pe_lst (pa_cons (pe_tup pa_nil) pa_nil)))
      (pss_cons (ps_for PassesOwn.never rfl (pi_list (pe_d (c_lpairs T) hr (by omega) (pa_cons (pv 0) pa_nil))) (pg_tup rfl (pgs_cons (pg_name (i := 2) sc_every.nd rfl (.inr rfl)) (pgs_cons (pg_name (i := 3) sc_every.nd rfl (.inr rfl)) pgs_nil)))
        (pss_cons (ps_set (i := 4) sc_every.nd rfl (.inl rfl) (pe_lst pa_nil))
        (pss_cons (ps_for PassesOwn.never rfl (pi_list (pv 1)) (pg_name (i := 5) sc_every.nd rfl (.inr rfl))
          (pss_one (ps_expr (pe_bm PySem.F.plainAttrs_list PySem.F.slot_list_extend PySem.F.type_list_extend mt_extend (pv 4) (pa_cons (pe_lc (own := [("_law_sort_here", 6)]) (g := gName 6) (tt := tYes)
              (te := tOp (rCatA K) (tVar 5) (tTup (tCons (tTup (tCons (tVar 2) (tCons (tVar 3) (tCons (tVar 6) tNil)))) tNil))) rfl sc_every.nd (pi_tup (pe_tup (pa_cons pe_str (pa_cons pe_str pa_nil))))
              (blkOk_by (N := ["_law_calls_here", "_law_found", "_law_call", "_law_mate", "_law_longer", "_law_some_here", "_law_sort_here"]) (sc := defScope s_l_every_chart) (by decide +kernel))
              (fun _ _ _ _ _ => pg_name (i := 6) sc_every.nd rfl (Or.inl rfl)) (fun _ _ _ _ _ => pts_nil)
              (fun _ _ _ _ _ => pe_op op_catA (pv 5) (pe_tup (pa_cons (pe_tup (pa_cons (pv 2) (pa_cons (pv 3) (pa_cons (pv 6) pa_nil)))) pa_nil)))) pa_nil)))))
        (pss_one (ps_set (i := 1) sc_every.nd rfl (.inl rfl) (pv 4))))))
      (pss_one (ps_ret (pv 1)))), ?_⟩
    refine ⟨Nat.zero_le _, fun t0 ht0 => ⟨by show 1 ≤ sizeLine; decide, fun l0 hl0 => ?_⟩⟩
    have s0 : Same H (upd (upd H t0 (.tup [])) l0 (.lst [.ref t0])) := sm_new (same_new ht0) hl0
    have et0 : (upd (upd H t0 (.tup [])) l0 (.lst [.ref t0])) t0 = some (.tup []) := same_new hl0 _ _ upd_same
    have el0 : (upd (upd H t0 (.tup [])) l0 (.lst [.ref t0])) l0 = some (.lst [.ref t0]) := upd_same
    refine ⟨_, rfl, a, ls, rfl, s0 _ _ ha, by omega, fun H1 pl ps s1 hpl pp => ?_⟩
    have pl6 : (pairs ls).length = 6 := by
      have := pairs_len ls
      rw [h4] at this
      omega
    have psl : ps.length = 6 := (Paired.length pp).trans pl6
    refine ⟨pl, rfl, ⟨_, .inl (.inl hpl)⟩, ?_⟩
    refine for_list (xs := ps) (fun i σ H2 => ∃ fl ws y2 y3 y4 y5, σ = [some (.ref a), some (.ref fl), y2, y3, y4, y5, none] ∧ Same H1 H2 ∧ H2 fl = some (.lst ws) ∧ ws.length = 2 ^ i ∧ ∀ v, v ∈ ws → TabN H2 v ((pairs ls).take i))
      ⟨l0, [.ref t0], none, none, none, none, rfl, Same.refl _, s1 _ _ el0, rfl, fun v hv => ?_⟩ (fun i σ H2 _ p2 => ?_) (fun i x σ H2 hx p2 => ?_) (fun σ H2 p2 => ?_)
    · rw [List.mem_singleton.mp hv]
      exact ⟨[], ⟨t0, [], rfl, s1 _ _ et0, .nil⟩, rfl⟩
    · obtain ⟨fl, ws, y2, y3, y4, y5, rfl, sm, _⟩ := p2
      exact .inl (.inl (sm _ _ hpl))
    · obtain ⟨fl, ws, y2, y3, y4, y5, rfl, sm, hfl, wl, tab⟩ := p2
      obtain ⟨pr, hpr, b, rfl, hb⟩ := paired_get pp hx
      have hi6 : i < 6 := by
        have := (List.getElem?_eq_some_iff.mp hx).1
        omega
      have w64 : ws.length ≤ 32 := by
        rw [wl]
        have : i = 0 ∨ i = 1 ∨ i = 2 ∨ i = 3 ∨ i = 4 ∨ i = 5 := by omega
        rcases this with rfl | rfl | rfl | rfl | rfl | rfl <;> decide
      refine ⟨b, _, rfl, .inl (.inl (sm _ _ hb)), rfl, _, _, rfl, _, _, rfl, rfl, Nat.zero_le _, fun ll hll => ?_⟩
      have sA := same_new (o := HO.lst []) hll
      have hflA := sA _ _ hfl
      refine ⟨_, rfl, fl, rfl, ⟨_, .inl (.inl hflA)⟩, ?_⟩
      refine for_list (xs := ws) (fun j σ H3 => ∃ acc y5, σ = [some (.ref a), some (.ref fl), some (.str pr.1), some (.str pr.2), some (.ref ll), y5, none] ∧ Same H2 H3 ∧ H3 ll = some (.lst acc) ∧ acc.length = 2 * j ∧ ∀ v, v ∈ acc → TabN H3 v ((pairs ls).take (i + 1)))
        ⟨[], y5, rfl, sA, upd_same, rfl, fun v hv => by simp at hv⟩ (fun j σ H3 _ p3 => ?_) (fun j x σ H3 hx3 p3 => ?_) (fun σ H3 p3 => ?_)
      · obtain ⟨acc, y5, rfl, sm3, _⟩ := p3
        exact .inl (.inl (sm3 _ _ hfl))
      · obtain ⟨acc, y5, rfl, sm3, hll3, al, tab3⟩ := p3
        have hj : j < 32 := by
          have := (List.getElem?_eq_some_iff.mp hx3).1
          omega
        obtain ⟨ts, hts, ets⟩ := tab x (List.mem_of_getElem? hx3)
        obtain ⟨c, cs, rfl, hc, rc⟩ := hts
        have hc3 := sm3 _ _ hc
        have csl : cs.length = i := by
          have h1 := rc.len
          have h2 := congrArg List.length ets
          unfold prs at h2
          rw [List.length_map, List.length_take] at h2
          omega
        refine ⟨_, rfl, .inl ⟨rfl, _, .inl (.inl hll3)⟩, ?_⟩
        refine ⟨by show 2 ≤ sizeLine; decide, fun kt hkt => ?_⟩
        have sk : Same H3 (upd H3 kt (.tup [.str "low", .str "high"])) := same_new hkt
        have ek : (upd H3 kt (.tup [.str "low", .str "high"])) kt = some (.tup [.str (kS true), .str (kS false)]) := upd_same
        generalize upd H3 kt (.tup [.str "low", .str "high"]) = H4 at sk ek
        refine ⟨kt, rfl, ⟨_, .inl (.inl ek)⟩, fun D hD => ?_⟩
        refine loop_it (walk_tup (xs := [.str (kS true), .str (kS false)])) (LcI H4 D fun m acc' H' => acc'.length = m ∧ ∀ v, v ∈ acc' → TabN H' v ((pairs ls).take (i + 1))) (LcI.start hD ⟨rfl, fun v hv => by simp at hv⟩) (fun m H5 _ p5 => ?_) (fun m y H5o H5 hm p5 hy => ?_) fun H5 p5 => ?_
        · obtain ⟨acc', _, sm5, _⟩ := p5
          exact .inl (.inl (sm5 _ _ ek))
        · obtain ⟨acc', hDa, sm5, al5, tab5⟩ := p5
          obtain ⟨rfl, hy⟩ := hy
          have hm2 : m < 2 := hm
          obtain ⟨k, rfl⟩ : ∃ k, y = .str (kS k) := by
            match m, hy with
            | 0, hy => exact ⟨true, by simpa using hy.symm⟩
            | 1, hy => exact ⟨false, by simpa using hy.symm⟩
            | m + 2, hy => simp at hy
          have hc5 := (sk.trans sm5) _ _ hc3
          refine ⟨rfl, kept ⟨_, rfl, _, rfl, _, rfl, _, rfl, by show 3 ≤ sizeLine; decide, fun tr htr => ⟨by show 1 ≤ sizeLine; decide, fun t1 ht1 => ?_⟩⟩⟩
          have s6 : Same H5 (upd (upd H5 tr (.tup [.str pr.1, .str pr.2, .str (kS k)])) t1 (.tup [.ref tr])) := sm_new (same_new htr) ht1
          have e6 : (upd (upd H5 tr (.tup [.str pr.1, .str pr.2, .str (kS k)])) t1 (.tup [.ref tr])) tr = some (.tup [.str pr.1, .str pr.2, .str (kS k)]) := same_new ht1 _ _ upd_same
          have e7 : (upd (upd H5 tr (.tup [.str pr.1, .str pr.2, .str (kS k)])) t1 (.tup [.ref tr])) t1 = some (.tup [.ref tr]) := upd_same
          generalize upd (upd H5 tr (.tup [.str pr.1, .str pr.2, .str (kS k)])) t1 (.tup [.ref tr]) = H6 at s6 e6 e7
          have fin : ∀ (H7 : Hp) (z : Addr), Same H6 H7 → H7 z = some (.tup (cs ++ [.ref tr])) → ∃ acc, H7 D = some (.lst acc) ∧ acc.length < sizeLine ∧ LcI H4 D (fun m acc' H' => acc'.length = m ∧ ∀ v, v ∈ acc' → TabN H' v ((pairs ls).take (i + 1))) (m + 1) (upd H7 D (.lst (acc ++ [V.ref z]))) := fun H7 z s7 hz => by
            have hD7 := s7 _ _ (s6 _ _ hDa)
            refine ⟨acc', hD7, by rw [al5]; exact small_of (m := 8) (by omega), LcI.push hD (sm5.trans (s6.trans s7)) ⟨by rw [List.length_append, al5]; rfl, fun v hv => ?_⟩⟩
            have tt : Tups H5 (upd H7 D (.lst (acc' ++ [V.ref z]))) := (sm_tups (s6.trans s7)).trans (tups_lst hD7)
            have tt6 : Tups H6 (upd H7 D (.lst (acc' ++ [V.ref z]))) := (sm_tups s7).trans (tups_lst hD7)
            rcases List.mem_append.mp hv with h | h
            · exact (tab5 v h).tups tt
            · rw [List.mem_singleton.mp h]
              refine ⟨ts ++ [(pr.1, pr.2, k)], ⟨z, cs ++ [.ref tr], rfl, ?_, paired_snoc (rc.tups ((sm_tups (sm3.trans (sk.trans sm5))).trans tt)) ⟨tr, rfl, tt6 _ _ e6⟩⟩, ?_⟩
              · rw [upd_ne (ne_lt hD7 hz)]
                exact hz
              · rw [List.take_add_one, hpr, ← ets]
                unfold prs
                rw [List.map_append]
                rfl
          refine ⟨c, t1, cs, [.ref tr], rfl, rfl, .inl (.inl (s6 _ _ hc5)), .inl (.inl e7), by rw [csl]; exact small_le (m := 100) (by simp; omega), fun e => ?_, fun _ e => (nomatch e), fun _ _ p hp => fin _ p (same_new hp) upd_same⟩
          refine fin _ t1 (Same.refl _) ?_
          rw [e]
          exact e7
        · obtain ⟨acc', hDa, sm5, al5, tab5⟩ := p5
          have al5 : acc'.length = 2 := al5
          have hll5 := (sk.trans sm5) _ _ hll3
          have tt : Tups H5 (upd H5 ll (.lst (acc ++ acc'))) := tups_lst hll5
          refine ⟨ll, D, _, _, rfl, rfl, hll5, hDa, by rw [al, al5]; exact small_le (m := 100) (by omega), acc ++ acc', _, rfl, sm_grow hll (sm3.trans (sk.trans sm5)), upd_same, by rw [List.length_append, al, al5]; omega, fun v hv => ?_⟩
          rcases List.mem_append.mp hv with h | h
          · exact (tab3 v h).tups ((sm_tups (sk.trans sm5)).trans tt)
          · exact (tab5 v h).tups tt
      · obtain ⟨acc, y5, rfl, sm3, hll3, al, tab3⟩ := p3
        refine ⟨_, rfl, ll, acc, _, _, _, _, rfl, sm.trans sm3, hll3, by rw [al, wl, Nat.pow_succ]; omega, tab3⟩
    · obtain ⟨fl, ws, y2, y3, y4, y5, rfl, sm, hfl, wl, tab⟩ := p2
      refine ⟨_, rfl, q _ fl ws (s0.trans (s1.trans sm)) hfl (by rw [wl, psl]; decide) fun v hv => ?_⟩
      obtain ⟨ts, h1, h2⟩ := tab v hv
      rw [List.take_of_length_le (by omega)] at h2
      exact ⟨ts, h1, h2⟩
/-! ### a chart, drawn -/
abbrev nDrawn : List Str := ["_law_pool_here", "_law_calls_here", "_law_mode", "_law_chart_here", "_law_turn", "_law_at", "_law_call", "_law_mate", "_law_sort_here"]
theorem sc_drawn : FnScope nDrawn ["_law_pool_here", "_law_calls_here"] (defScope s_l_drawn_chart) := ⟨rfl, rfl, rfl, by decide +kernel, rfl, by decide +kernel, by decide +kernel⟩
def spDrawn : Sp := fun vs H Q _ => ∃ (l t : Addr) (ls : List Str), vs = [.ref l, .ref t] ∧ PoolAt H l ∧ H t = some (.lst (ls.map V.str)) ∧ l ≠ t ∧ Asc ls ∧ 2 ≤ ls.length ∧ ls.length ≤ 8 ∧
  ∀ (H' : Hp) (r : V), SameBut l H H' → PoolAt H' l → TabOn H' r ls → Q r H'
theorem c_drawn (T : Txt K mg) : Cal P w K mg base 20 "_law_drawn_chart" spDrawn := by
  refine cal_of T.d_l_drawn_chart sc_drawn (fun vs H Q E h => ?_) (fun f cdv A outer s H vs Q E hr h => ?_)
  · obtain ⟨l, t, ls, rfl, _⟩ := h
    rfl
  · obtain ⟨l, t, ls, rfl, hl, ht, nlt, asc, h2, h8, q⟩ := h
    refine ⟨_, pss_cons (ps_par (i := 2) (j := 3) rfl sc_drawn.nd rfl rfl (by decide) rfl rfl (pa_cons (pe_d (c_draw T) hr (by omega) (pa_cons (pv 0) (pa_cons pe_int pa_nil))) (pa_cons (pe_callTy call_list_of (by rfl) T.b_list bt_list (pa_cons (pe_d (c_lchart T) hr (by omega) (pa_cons (pe_d (c_tree T) hr (by omega) (pa_cons (pv 0) (pa_cons (pv 1) pa_nil))) pa_nil)) pa_nil)) pa_nil)) (by rfl))
      (pss_cons (ps_if (pt_cmpR op_eq (pv 2) pe_int (nomark _))
        (pss_one (ps_ret (pe_callTy call_tuple_of (by rfl) T.b_tuple bt_tuple (pa_cons (pe_lc (own := [("_law_call", 6), ("_law_mate", 7), ("_law_sort_here", 8)]) (g := gTup K 3 (gCons (gName 6) (gCons (gName 7) (gCons (gName 8) gNil)))) (tt := tYes)
            (te := tTup (tCons (tVar 6) (tCons (tVar 7) (tCons (tCall spSort [] E0 (tCons (tVar 0) tNil)) tNil)))) rfl sc_drawn.nd (pi_list (pv 3))
            (blkOk_by (N := nDrawn) (sc := defScope s_l_drawn_chart) (by decide +kernel))
            (fun _ _ _ _ _ => pg_tup rfl (pgs_cons (pg_name (i := 6) sc_drawn.nd rfl (Or.inl rfl)) (pgs_cons (pg_name (i := 7) sc_drawn.nd rfl (Or.inl rfl)) (pgs_cons (pg_name (i := 8) sc_drawn.nd rfl (Or.inl rfl)) pgs_nil)))) (fun _ _ _ _ _ => pts_nil)
            (fun _ _ _ _ _ => pe_tup (pa_cons (pv 6) (pa_cons (pv 7) (pa_cons (pe_d (c_sort T) hr (by omega) (pa_cons (pv 0) pa_nil)) pa_nil))))) pa_nil)))) pss_nil)
      (pss_cons (ps_for PassesOwn.never rfl (pi_range1 (by rfl) T.b_range (pa_cons (pv 2) pa_nil)) (pg_name (i := 4) sc_drawn.nd rfl (.inl rfl))
        (pss_cons (ps_set (i := 5) sc_drawn.nd rfl (.inl rfl) (pe_d (c_draw T) hr (by omega) (pa_cons (pv 0) (pa_cons (pe_callB call_len (by rfl) T.b_len bt_len (pa_cons (pv 3) pa_nil)) pa_nil))))
        (pss_cons (ps_asg (pe_ix ix_list (pv 3) (pv 5) (fun _ _ => rfl)) (pg_tup rfl (pgs_cons (pg_name (i := 6) sc_drawn.nd rfl (.inl rfl)) (pgs_cons (pg_name (i := 7) sc_drawn.nd rfl (.inl rfl)) (pgs_cons (pg_name (i := 8) sc_drawn.nd rfl (.inl rfl)) pgs_nil)))))
        (pss_one (ps_asg (pe_tup (pa_cons (pv 6) (pa_cons (pv 7) (pa_cons (pe_ix ix_list (pe_lst (pa_cons pe_str (pa_cons pe_str pa_nil))) (pe_callTy call_int1 (by rfl) T.b_int bt_int (pa_cons (pe_cmpR op_eq (pv 8) pe_str (nomark _)) pa_nil)) (fun _ _ => rfl)) pa_nil)))) (pg_sub (pv 3) (pv 5) set_list))))))
      (pss_one (ps_ret (pe_callTy call_tuple_of (by rfl) T.b_tuple bt_tuple (pa_cons (pv 3) pa_nil)))))), ?_⟩
    refine ⟨_, rfl, l, 4, rfl, hl, by decide, by decide, fun H1 mode sb1 hl1 hmode => ?_⟩
    refine ⟨_, rfl, _, rfl, l, t, ls, rfl, hl1, sb1 _ _ (Ne.symm nlt) ht, nlt, by omega, h8, fun H2 tv p sb2 hl2 hpt hg pm => ?_⟩
    refine ⟨tv, p, rfl, hpt, hg, pm.nodup_iff.mpr asc.nodup, by rw [pm.length_eq]; exact h8, fun H3 cv s3 hc => ?_⟩
    rw [srt_of_asc pm asc] at hc
    obtain ⟨ts, ⟨c, xs, rfl, hcx, rt⟩, et⟩ := hc
    refine ⟨c, xs, rfl, .inr (.inl (.inl hcx)), fun cl hcl => ⟨_, _, rfl, ?_⟩⟩
    have hl3 := hl2.same s3
    have ncl : l ≠ cl := hl3.ne hcl
    have sbH3 : SameBut l H H3 := sb_same (sb1.trans sb2) s3
    have hcl0 : H cl = none := sb_fresh sbH3 hl3 hcl
    have k4 := same_new (o := HO.lst xs) hcl
    have sb4 : SameBut l H (upd H3 cl (.lst xs)) := sb_same sbH3 k4
    have hl4 : PoolAt (upd H3 cl (.lst xs)) l := hl3.same k4
    have rt4 : TrisAt (upd H3 cl (.lst xs)) xs ts := rt.tups (sm_tups k4)
    have ecl : (upd H3 cl (.lst xs)) cl = some (.lst xs) := upd_same
    generalize upd H3 cl (.lst xs) = H4 at sb4 hl4 rt4 ecl
    have pl := pairs_len ls
    have p64 : (pairs ls).length ≤ 64 ∧ 1 ≤ (pairs ls).length := by
      have q1 : ls.length * ls.length ≤ 8 * 8 := Nat.mul_le_mul h8 h8
      have q2 : 2 * ls.length ≤ ls.length * ls.length := Nat.mul_le_mul_right _ h2
      omega
    have tl : ∀ {ts' : List Tri}, prs ts' = pairs ls → ts'.length = (pairs ls).length := fun e => by
      have := congrArg List.length e
      unfold prs at this
      rwa [List.length_map] at this
    refine ⟨_, rfl, rfl, _, rfl, ?_⟩
    refine ifb (fun _ => ?_) (fun _ => ?_)
    · -- each kind drawn
      refine ⟨_, rfl, cl, rfl, ⟨_, .inl (.inl ecl)⟩, fun D hD => ?_⟩
      have nlD : l ≠ D := hl4.ne hD
      refine loop_it (walk_list (xs := xs)) (fun i H' => ∃ acc ts', H' D = some (.lst acc) ∧ SameBut l H4 H' ∧ PoolAt H' l ∧ TrisAt H' acc ts' ∧ prs ts' = (pairs ls).take i) ⟨[], [], upd_same, sm_but (same_new hD) l, hl4.upd nlD, .nil, rfl⟩ (fun i H5 _ p5 => ?_) (fun i x H5o H5 hi p5 hy => ?_) fun H5 p5 => ?_
      · obtain ⟨acc, ts', _, sb5, _⟩ := p5
        exact .inl (.inl (sb5 _ _ (Ne.symm ncl) ecl))
      · obtain ⟨acc, ts', hDa, sb5, hl5, ra, ea⟩ := p5
        obtain ⟨rfl, hx⟩ := hy
        obtain ⟨tr, htr, b, rfl, hb⟩ := paired_get rt4 hx
        have hb5 := pool_tups hl4 sb5 _ _ hb
        refine ⟨b, _, rfl, .inl (.inl hb5), rfl, _, _, rfl, _, _, rfl, _, _, rfl, rfl, rfl, kept ⟨_, rfl, _, rfl, _, rfl, l, rfl, hl5, fun H6 k sb6 hl6 => ⟨by show 3 ≤ sizeLine; decide, fun u hu => ?_⟩⟩⟩
        have hD6 := sb6 _ _ (Ne.symm nlD) hDa
        have nlu := hl6.ne hu
        have hD7 := same_new (o := HO.tup [.str tr.1, .str tr.2.1, .str (kS k)]) hu _ _ hD6
        refine ⟨acc, hD7, ?_, acc ++ [.ref u], ts' ++ [(tr.1, tr.2.1, k)], upd_same, sb_grow hD (sb_new (sb5.trans sb6) hu), (hl6.upd nlu).upd nlD, ?_, ?_⟩
        · rw [ra.len]
          have := congrArg List.length ea
          unfold prs at this
          rw [List.length_map, List.length_take] at this
          exact small_of (m := 64) (by omega)
        · have tt : Tups H5 (upd (upd H6 u (.tup [.str tr.1, .str tr.2.1, .str (kS k)])) D (.lst (acc ++ [V.ref u]))) := ((pool_tups hl5 sb6).trans (tups_new hu)).trans (tups_lst hD7)
          refine paired_snoc (ra.tups tt) ⟨u, rfl, ?_⟩
          rw [upd_ne (ne_lt hD7 upd_same)]
          exact upd_same
        · have hpi : (pairs ls)[i]? = some (tr.1, tr.2.1) := by
            rw [← et]
            unfold prs
            rw [List.getElem?_map, htr]
            rfl
          rw [List.take_add_one, hpi, ← ea]
          unfold prs
          rw [List.map_append]
          rfl
      · obtain ⟨acc, ts', hDa, sb5, hl5, ra, ea⟩ := p5
        have xl := rt4.len
        rw [List.take_of_length_le (by rw [xl, tl et]; exact Nat.le_refl _)] at ea
        refine ⟨D, acc, rfl, .inl ⟨.inl (.inl hDa), fun u hu => ?_⟩⟩
        exact q _ _ (sb_new (sb4.trans sb5) hu) (hl5.upd (hl5.ne hu)) ⟨ts', ⟨u, acc, rfl, upd_same, ra.tups (tups_new hu)⟩, ea⟩
    · -- some kinds turned
      refine ⟨_, rfl, (mode : Int), rfl, by omega, by omega, ?_⟩
      rw [show ((mode : Nat) : Int).toNat = mode from by omega]
      refine for_range (lo := 0) (n := mode) (fun i σ H5 => ∃ acc ts' y4 y5 y6 y7 y8, σ = [some (.ref l), some (.ref t), some (.int (mode : Nat)), some (.ref cl), y4, y5, y6, y7, y8] ∧ SameBut l H H5 ∧ PoolAt H5 l ∧ H5 cl = some (.lst acc) ∧ TrisAt H5 acc ts' ∧ prs ts' = pairs ls)
        ⟨xs, ts, none, none, none, none, none, rfl, sb4, hl4, ecl, rt4, et⟩ (fun i σ H5 hi p5 => ?_) (fun σ H5 p5 => ?_)
      · obtain ⟨acc, ts', y4, y5, y6, y7, y8, rfl, sb5, hl5, ec5, ra, ea⟩ := p5
        have al : acc.length = (pairs ls).length := ra.len.trans (tl ea)
        refine ⟨_, rfl, _, rfl, _, _, rfl, .inl ⟨_, .inl (.inl ec5), rfl⟩, l, acc.length, rfl, hl5, by omega, by omega, fun H6 at' sb6 hl6 hat => ?_⟩
        have ec6 := sb6 _ _ (Ne.symm ncl) ec5
        have ra6 := ra.tups (pool_tups hl5 sb6)
        have hax : acc[at']? = some acc[at'] := List.getElem?_eq_getElem hat
        obtain ⟨tr, htr, b, eb, hb⟩ := paired_get ra6 hax
        rw [eb] at hax
        refine ⟨_, rfl, _, rfl, cl, acc, _, _, rfl, rfl, .inl (.inl ec6), atI_nat hax, b, _, rfl, .inl (.inl hb), rfl, _, _, rfl, _, _, rfl, _, _, rfl, rfl, ?_⟩
        refine ⟨_, rfl, _, rfl, by show 2 ≤ sizeLine; decide, fun ol hol => ?_⟩
        have nlo := hl6.ne hol
        have k7 := same_new (o := HO.lst [.str "low", .str "high"]) hol
        have eo : (upd H6 ol (.lst [.str "low", .str "high"])) ol = some (.lst [.str "low", .str "high"]) := upd_same
        have hl7 := hl6.same k7
        have ec7 := k7 _ _ ec6
        have ra7 := ra6.tups (sm_tups k7)
        have sb7 := sb_same (sb5.trans sb6) k7
        generalize upd H6 ol (.lst [.str "low", .str "high"]) = H7 at k7 eo hl7 ec7 ra7 sb7
        refine ⟨_, rfl, rfl, .inr ⟨_, rfl, ?_⟩⟩
        have fin : ∀ k : Bool, ∀ u, H7 u = none → (upd H7 u (.tup [.str tr.1, .str tr.2.1, .str (kS k)])) cl = some (.lst acc) ∧ ∃ acc' ts',
            SameBut l H (upd (upd H7 u (.tup [.str tr.1, .str tr.2.1, .str (kS k)])) cl (.lst (acc.set at' (.ref u)))) ∧ PoolAt (upd (upd H7 u (.tup [.str tr.1, .str tr.2.1, .str (kS k)])) cl (.lst (acc.set at' (.ref u)))) l ∧
            (upd (upd H7 u (.tup [.str tr.1, .str tr.2.1, .str (kS k)])) cl (.lst (acc.set at' (.ref u)))) cl = some (.lst acc') ∧ TrisAt (upd (upd H7 u (.tup [.str tr.1, .str tr.2.1, .str (kS k)])) cl (.lst (acc.set at' (.ref u)))) acc' ts' ∧ prs ts' = pairs ls := fun k u hu => by
          have ec8 := same_new (o := HO.tup [.str tr.1, .str tr.2.1, .str (kS k)]) hu _ _ ec7
          refine ⟨ec8, acc.set at' (.ref u), ts'.set at' (tr.1, tr.2.1, k), sb_grow hcl0 (sb_new sb7 hu), (hl7.upd (hl7.ne hu)).upd ncl, upd_same, ?_, ?_⟩
          · have tt : Tups H7 (upd (upd H7 u (.tup [.str tr.1, .str tr.2.1, .str (kS k)])) cl (.lst (acc.set at' (.ref u)))) := (tups_new hu).trans (tups_lst ec8)
            refine paired_set at' (ra7.tups tt) ⟨u, rfl, ?_⟩
            rw [upd_ne (ne_lt ec8 upd_same)]
            exact upd_same
          · rw [prs_set (u := (tr.1, tr.2.1, k)) htr rfl rfl]
            exact ea
        have ix := ixN_nat hat
        cases hk : tr.2.2 with
        | true =>
          refine ⟨ol, _, 1, .str (kS false), rfl, ?_, .inl (.inl eo), atI_nat (j := 1) rfl, by show 3 ≤ sizeLine; decide, fun u hu => ?_⟩
          · decide
          · obtain ⟨f1, acc', ts2, f2⟩ := fin false u hu
            exact ⟨_, rfl, _, rfl, cl, acc, _, at', rfl, rfl, f1, ix, acc', ts2, _, _, _, _, _, rfl, f2⟩
        | false =>
          refine ⟨ol, _, 0, .str (kS true), rfl, ?_, .inl (.inl eo), atI_nat (j := 0) rfl, by show 3 ≤ sizeLine; decide, fun u hu => ?_⟩
          · decide
          · obtain ⟨f1, acc', ts2, f2⟩ := fin true u hu
            exact ⟨_, rfl, _, rfl, cl, acc, _, at', rfl, rfl, f1, ix, acc', ts2, _, _, _, _, _, rfl, f2⟩
      · obtain ⟨acc, ts', y4, y5, y6, y7, y8, rfl, sb5, hl5, ec5, ra, ea⟩ := p5
        refine ⟨_, rfl, cl, acc, rfl, .inl ⟨.inl (.inl ec5), fun u hu => ?_⟩⟩
        exact q _ _ (sb_new sb5 hu) (hl5.upd (hl5.ne hu)) ⟨ts', ⟨u, acc, rfl, upd_same, ra.tups (tups_new hu)⟩, ea⟩
end
end Fm
set_option maxHeartbeats 8000000
namespace Fm
open PySem PySem.Spec PyProof.Rows L2 FmM
theorem all_true (n : Nat) : (List.replicate n true).all id = true := by
  rw [List.all_eq_true]
  intro x hx
  rw [List.eq_of_mem_replicate hx]
  rfl
section
variable {P : Program} {w : World} {K : PySem.W.Frag} {mg : Str → Option Value} {base : Heap}
/-! ### all is right for a pool -/
theorem sc_right : FnScope ["_law_pool_here", "_law_calls_here", "_law_chart_here", "_law_turn"] ["_law_pool_here"] (defScope s_l_right) := ⟨rfl, rfl, rfl, by decide +kernel, rfl, by decide +kernel, by decide +kernel⟩
def spRight : Sp := fun vs H Q _ => ∃ l : Addr, vs = [.ref l] ∧ PoolAt H l ∧ ∀ H', SameBut l H H' → Q (.bl true) H'
theorem c_right (T : Txt K mg) : Cal P w K mg base 24 "_law_right" spRight := by
  refine cal_of T.d_l_right sc_right (fun vs H Q E h => ?_) (fun f cdv A outer s H vs Q E hr h => ?_)
  · obtain ⟨l, rfl, _⟩ := h
    rfl
  · obtain ⟨l, rfl, hl, q⟩ := h
    refine ⟨_, pss_cons (ps_if (pt_not (pt_val (pe_callB (cr_all rfl) (by rfl) T.b_all bt_all (pa_cons (pe_lc (own := [("_law_chart_here", 2)]) (g := gName 2) (tt := tYes) (te := tCall spTold [] E0 (tCons (tVar 2) tNil)) rfl sc_right.nd
            (pi_list (pe_d (c_every T) hr (by omega) (pa_cons (pe_d (c_calls T) hr (by omega) (pa_cons (pv 0) (pa_cons pe_int pa_nil))) pa_nil)))
            (blkOk_by (N := ["_law_pool_here", "_law_calls_here", "_law_chart_here", "_law_turn"]) (sc := defScope s_l_right) (by decide +kernel)) (fun _ _ _ _ _ => pg_name (i := 2) sc_right.nd rfl (Or.inl rfl)) (fun _ _ _ _ _ => pts_nil)
            (fun _ _ _ _ _ => pe_d (c_told T) hr (by omega) (pa_cons (pv 2) pa_nil))) pa_nil)))) (pss_one (ps_ret pe_bl)) pss_nil)
      (pss_cons (ps_set (i := 1) sc_right.nd rfl (.inr rfl) (pe_d (c_calls T) hr (by omega) (pa_cons (pv 0) (pa_cons (pe_op op_add pe_int (pe_d (c_draw T) hr (by omega) (pa_cons (pv 0) (pa_cons pe_int pa_nil)))) pa_nil))))
      (pss_one (ps_ret (pe_callB (cr_all rfl) (by rfl) T.b_all bt_all (pa_cons (pe_lc (own := [("_law_turn", 3)]) (g := gName 3) (tt := tYes) (te := tCall spTold [] E0 (tCons (tCall spDrawn [] E0 (tCons (tVar 0) (tCons (tVar 1) tNil))) tNil)) rfl sc_right.nd
            (pi_range1 (by rfl) T.b_range (pa_cons pe_int pa_nil))
            (blkOk_by (N := ["_law_pool_here", "_law_calls_here", "_law_chart_here", "_law_turn"]) (sc := defScope s_l_right) (by decide +kernel)) (fun _ _ _ _ _ => pg_name (i := 3) sc_right.nd rfl (Or.inl rfl)) (fun _ _ _ _ _ => pts_nil)
            (fun _ _ _ _ _ => pe_d (c_told T) hr (by omega) (pa_cons (pe_d (c_drawn T) hr (by omega) (pa_cons (pv 0) (pa_cons (pv 1) pa_nil))) pa_nil))) pa_nil))))), ?_⟩
    refine ⟨_, rfl, l, 4, rfl, hl, by decide, fun H1 r1 ls sb1 hl1 _ hr1 asc ln l4 => ?_⟩
    refine ⟨r1, ls, rfl, hr1, l4, fun H2 r2 ws s2 hr2 wl tab => ?_⟩
    refine ⟨r2, rfl, ⟨_, .inl (.inl hr2)⟩, fun D hD => ?_⟩
    refine loop_it (walk_list (xs := ws)) (LcI H2 D fun i acc _ => acc = List.replicate i (.bl true)) (LcI.start hD rfl) (fun i H3 _ p3 => ?_) (fun i x H3o H3 hi p3 hy => ?_) fun H3 p3 => ?_
    · obtain ⟨acc, _, sm3, _⟩ := p3
      exact .inl (.inl (sm3 _ _ hr2))
    · obtain ⟨acc, hDa, sm3, ea⟩ := p3
      obtain ⟨rfl, hx⟩ := hy
      obtain ⟨kd, tk, ok⟩ := ((tab x (List.mem_of_getElem? hx)).tups (sm_tups sm3)).chart asc ln (by omega) (by omega)
      refine ⟨rfl, kept ⟨_, rfl, x, kd, ls, rfl, tk, ok, fun H4 s4 => ⟨acc, s4 _ _ hDa, ?_, LcI.push hD (sm3.trans s4) ?_⟩⟩⟩
      · rw [ea, List.length_replicate]
        exact small_of (m := 64) (by omega)
      · rw [ea, List.replicate_succ']
    · obtain ⟨acc, hDa, sm3, ea⟩ := p3
      refine ⟨D, List.replicate ws.length true, rfl, .inl (.inl (by rw [hDa, ea, List.map_replicate])), _, rfl, ?_⟩
      rw [all_true]
      refine iteF ?_
      have sb3 : SameBut l H H3 := sb_same (sb_same sb1 s2) sm3
      have hl3 : PoolAt H3 l := (hl1.same s2).same sm3
      refine ⟨_, rfl, _, rfl, l, 7, rfl, hl3, by decide, by decide, fun H4 r4 sb4 hl4 hr4 => ⟨_, _, rfl, rfl, l, 2 + r4, ?_, hl4, by omega, fun H5 r5 ms sb5 hl5 hr50 hr5 asc5 ln5 l5 => ?_⟩⟩
      · have : (2 : Int) + (r4 : Nat) = ((2 + r4 : Nat) : Int) := by omega
        show [V.ref l, V.int ((2 : Int) + (r4 : Nat))] = _
        rw [this]
      have nr5 : l ≠ r5 := hl4.ne hr50
      refine ⟨8, rfl, by decide, by decide, fun D2 hD2 => ?_⟩
      have nD2 : l ≠ D2 := hl5.ne hD2
      refine loop_it walk_range (fun i H' => H' D2 = some (.lst (List.replicate i (.bl true))) ∧ SameBut l H5 H' ∧ PoolAt H' l) ⟨upd_same, sm_but (same_new hD2) l, hl5.upd nD2⟩ (fun _ _ _ _ => trivial) (fun i x H6o H6 hi p6 hy => ?_) fun H6 p6 => ?_
      · obtain ⟨hDa, sb6, hl6⟩ := p6
        obtain ⟨rfl, rfl⟩ := hy
        have hi : i < 8 := hi
        refine ⟨rfl, kept ⟨_, rfl, _, rfl, l, r5, ms, rfl, hl6, sb6 _ _ (Ne.symm nr5) hr5, nr5, asc5, by omega, by omega, fun H7 r7 sb7 hl7 t7 => ?_⟩⟩
        obtain ⟨kd, tk, ok⟩ := t7.chart asc5 ln5 (by omega) (by omega)
        refine ⟨r7, kd, ms, rfl, tk, ok, fun H8 s8 => ?_⟩
        have hD8 := s8 _ _ (sb7 _ _ (Ne.symm nD2) hDa)
        refine ⟨_, hD8, by rw [List.length_replicate]; exact small_of (m := 8) (by omega), ?_, sb_grow hD2 (sb_same (sb6.trans sb7) s8), (hl7.same s8).upd nD2⟩
        rw [upd_same, List.replicate_succ']
      · obtain ⟨hDa, sb6, hl6⟩ := p6
        refine ⟨D2, List.replicate 8 true, rfl, .inl (.inl (by rw [hDa, List.map_replicate]; rfl)), ?_⟩
        exact bl_to (all_true 8) (q _ (((sb3.trans sb4).trans sb5).trans sb6))
/-! ### the law -/
theorem sc_law : FnScope ["_law_script", "_law_sort_here", "_law_contrary", "_law_k"] ["_law_script"] (defScope s_l_law) := ⟨rfl, rfl, rfl, by decide +kernel, rfl, by decide +kernel, by decide +kernel⟩
def spLaw (K : PySem.W.Frag) : Sp := fun vs H Q _ => ∃ (a : Addr) (ns : List Int), vs = [.ref a] ∧ SqL K H a (ns.map V.int) ∧ ∀ H', Q (.bl true) H'
theorem ok_of {x : Str} {st : Stmt} {N ps : List Str} {k : Nat} {sp : Sp} {f : Addr} {fd : FuncData} (F : FunD K x x (defArgs st) (defBody st) (defScope st) [] [] f fd) (S : FnScope N ps (defScope st)) (len : ∀ vs H Q E, sp vs H Q E → vs.length = ps.length)
    (hbody : ∀ (f : Addr) (cdv : Value) (A : Around) (outer : List Env) (s : Shared) (H : Hp) (vs : List V) (Q : VK) (E : XK), Room k (A.deeper (envOfC x (defScope st) s.heap.objs.size f cdv)) → sp vs H Q E →
      ∃ t, PSs (cxOf CX0 P w K mg base N x (defScope st) f cdv A outer s H E).nox (defBody st) t ∧ t { nx := fun _ H' => Q .non H', rt := Q } (start N vs) H) : FnOk P w K mg base CX0 (k + 1) f fd ps sp :=
  F.ok S len fun cdv A outer s H vs Q E hr hsp => by
    obtain ⟨t, h, q⟩ := hbody f cdv A outer s H vs Q E hr hsp
    exact ⟨t, h.nox, q⟩
theorem law_ok (T : Txt K mg) {fL : Addr} {fdL : FuncData} (F : FunD K "law" "law" (defArgs s_l_law) (defBody s_l_law) (defScope s_l_law) [] [] fL fdL) : FnOk P w K mg base CX0 25 fL fdL ["_law_script"] (spLaw K) := by
  refine ok_of F sc_law (fun vs H Q E h => ?_) (fun f cdv A outer s H vs Q E hr h => ?_)
  · obtain ⟨a, ns, rfl, _⟩ := h
    rfl
  · obtain ⟨a, ns, rfl, hv, q⟩ := h
    refine ⟨_, pss_cons (ps_for PassesOwn.never rfl (pi_list (pe_lst (pa_cons (pe_tup (pa_cons pe_str (pa_cons pe_str pa_nil))) (pa_cons (pe_tup (pa_cons pe_str (pa_cons pe_str pa_nil))) pa_nil)))) (pg_tup rfl (pgs_cons (pg_name (i := 1) sc_law.nd rfl (.inl rfl)) (pgs_cons (pg_name (i := 2) sc_law.nd rfl (.inl rfl)) pgs_nil)))
        (pss_one (ps_if (pt_not (pt_val (pe_d (c_told T) hr (by omega) (pa_cons (pe_d (c_square T) hr (by omega) (pa_cons (pv 1) (pa_cons (pv 2) pa_nil))) pa_nil)))) (pss_one (ps_ret pe_bl)) pss_nil)))
      (pss_one (ps_ret (pe_callB (cr_all rfl) (by rfl) T.b_all bt_all (pa_cons (pe_lc (own := [("_law_k", 3)]) (g := gName 3) (tt := tYes) (te := tCall spRight [] E0 (tCons (tCall spPool [] E0 (tCons (tCall (spCell K) [] E0 (tCons (tVar 0) (tCons (tVar 3) tNil))) tNil)) tNil)) rfl sc_law.nd
          (pi_range1 (by rfl) T.b_range (pa_cons (pe_callB (call_max2 rfl) (by rfl) T.b_max bt_max (pa_cons pe_int (pa_cons (pe_callB (call_min2 rfl) (by rfl) T.b_min bt_min (pa_cons pe_int (pa_cons (pe_callB call_len (by rfl) T.b_len bt_len (pa_cons (pv 0) pa_nil)) pa_nil))) pa_nil))) pa_nil))
          (blkOk_by (N := ["_law_script", "_law_sort_here", "_law_contrary", "_law_k"]) (sc := defScope s_l_law) (by decide +kernel)) (fun _ _ _ _ _ => pg_name (i := 3) sc_law.nd rfl (Or.inl rfl)) (fun _ _ _ _ _ => pts_nil)
          (fun _ _ _ _ _ => pe_d (c_right T) hr (by omega) (pa_cons (pe_d (c_pool T) hr (by omega) (pa_cons (pe_d (c_cell T) hr (by omega) (pa_cons (pv 0) (pa_cons (pv 3) pa_nil))) pa_nil)) pa_nil))) pa_nil)))), ?_⟩
    refine ⟨by show 2 ≤ sizeLine; decide, fun t1 ht1 => ⟨by show 2 ≤ sizeLine; decide, fun t2 ht2 => ⟨by show 2 ≤ sizeLine; decide, fun l0 hl0 => ?_⟩⟩⟩
    have s1 : Same H (upd (upd (upd H t1 (.tup [.str "low", .str "high"])) t2 (.tup [.str "high", .str "low"])) l0 (.lst [.ref t1, .ref t2])) := sm_new (sm_new (same_new ht1) ht2) hl0
    have e1 : (upd (upd (upd H t1 (.tup [.str "low", .str "high"])) t2 (.tup [.str "high", .str "low"])) l0 (.lst [.ref t1, .ref t2])) t1 = some (.tup [.str (kS true), .str (kS false)]) := same_new hl0 _ _ (same_new ht2 _ _ upd_same)
    have e2 : (upd (upd (upd H t1 (.tup [.str "low", .str "high"])) t2 (.tup [.str "high", .str "low"])) l0 (.lst [.ref t1, .ref t2])) t2 = some (.tup [.str (kS false), .str (kS true)]) := same_new hl0 _ _ upd_same
    have e0 : (upd (upd (upd H t1 (.tup [.str "low", .str "high"])) t2 (.tup [.str "high", .str "low"])) l0 (.lst [.ref t1, .ref t2])) l0 = some (.lst [.ref t1, .ref t2]) := upd_same
    generalize upd (upd (upd H t1 (.tup [.str "low", .str "high"])) t2 (.tup [.str "high", .str "low"])) l0 (.lst [.ref t1, .ref t2]) = H1 at s1 e1 e2 e0
    refine ⟨l0, rfl, ⟨_, .inl (.inl e0)⟩, ?_⟩
    refine for_list (xs := [.ref t1, .ref t2]) (fun i σ H2 => ∃ y1 y2, σ = [some (.ref a), y1, y2, none] ∧ Same H1 H2) ⟨none, none, rfl, Same.refl _⟩ (fun i σ H2 _ p2 => ?_) (fun i x σ H2 hx p2 => ?_) (fun σ H2 p2 => ?_)
    · obtain ⟨y1, y2, rfl, sm⟩ := p2
      exact .inl (.inl (sm _ _ e0))
    · obtain ⟨y1, y2, rfl, sm⟩ := p2
      obtain ⟨k, j, t, rfl, ht⟩ : ∃ k j t, x = .ref t ∧ H2 t = some (.tup [.str (kS k), .str (kS j)]) := by
        match i, hx with
        | 0, hx => exact ⟨true, false, t1, by simpa using hx.symm, sm _ _ e1⟩
        | 1, hx => exact ⟨false, true, t2, by simpa using hx.symm, sm _ _ e2⟩
        | i + 2, hx => simp at hx
      refine ⟨t, _, rfl, .inl (.inl ht), rfl, _, _, rfl, _, _, rfl, rfl, ?_⟩
      refine ⟨_, rfl, _, rfl, k, j, rfl, fun H3 r3 s3 t3 => ?_⟩
      obtain ⟨kd, tk, ok⟩ := t3.chart sqL_asc sqL_line (by decide) (by decide)
      refine ⟨r3, kd, sqL, rfl, tk, ok, fun H4 s4 => ⟨_, rfl, ?_⟩⟩
      exact iteF ⟨_, _, rfl, sm.trans (s3.trans s4)⟩
    · obtain ⟨y1, y2, rfl, sm⟩ := p2
      have hv2 := sqL_same (s1.trans sm) hv
      refine ⟨_, rfl, _, _, rfl, .inl ⟨_, hv2, rfl⟩, _, _, rfl, _, _, rfl, ?_⟩
      obtain ⟨n, hn, n4⟩ : ∃ n : Nat, (if (if (((ns.map V.int).length : Nat) : Int) < 4 then (((ns.map V.int).length : Nat) : Int) else 4) > 2 then (if (((ns.map V.int).length : Nat) : Int) < 4 then (((ns.map V.int).length : Nat) : Int) else 4) else 2) = (n : Int) ∧ n ≤ 4 := by
        by_cases c1 : (((ns.map V.int).length : Nat) : Int) < 4
        · by_cases c2 : (((ns.map V.int).length : Nat) : Int) > 2
          · exact ⟨(ns.map V.int).length, by rw [if_pos c1, if_pos c2], by omega⟩
          · exact ⟨2, by rw [if_pos c1, if_neg c2]; rfl, by omega⟩
        · exact ⟨4, (by simp only [if_neg c1]; decide), Nat.le_refl 4⟩
      refine ⟨(n : Int), by rw [← hn], by omega, by omega, ?_⟩
      rw [show ((n : Nat) : Int).toNat = n from by omega]
      refine fun D hD => ?_
      refine loop_it walk_range (LcI H2 D fun i acc _ => acc = List.replicate i (.bl true)) (LcI.start hD rfl) (fun _ _ _ _ => trivial) (fun i x H3o H3 hi p3 hy => ?_) fun H3 p3 => ?_
      · obtain ⟨acc, hDa, sm3, ea⟩ := p3
        obtain ⟨rfl, rfl⟩ := hy
        refine ⟨rfl, kept ⟨_, rfl, _, rfl, a, ns, i, ?_, sqL_same sm3 hv2, by omega, fun H4 z s4 => ⟨z, rfl, fun H5 l s5 hl0 hl5 => ⟨l, rfl, hl5, fun H6 sb6 => ?_⟩⟩⟩⟩
        · have : (0 : Int) + (i : Nat) = ((i : Nat) : Int) := by omega
          show [V.ref a, V.int ((0 : Int) + (i : Nat))] = _
          rw [this]
        have s6 : Same H4 H6 := fun b o e => sb6 b o (ne_of_none e hl0) (s5 b o e)
        refine ⟨acc, (s4.trans s6) _ _ hDa, ?_, LcI.push hD (sm3.trans (s4.trans s6)) ?_⟩
        · rw [ea, List.length_replicate]
          exact small_of (m := 8) (by omega)
        · rw [ea, List.replicate_succ']
      · obtain ⟨acc, hDa, sm3, ea⟩ := p3
        refine ⟨D, List.replicate n true, rfl, .inl (.inl (by rw [hDa, ea, List.map_replicate])), ?_⟩
        exact bl_to (all_true n) (q _)
end
end Fm
set_option maxHeartbeats 0
namespace Fm
open PySem PySem.Spec PyProof.Rows L2
def dd_is_kind : He.DefD := ⟨("is_kind", none), "is_kind", "is_kind", defArgs s_is_kind, defBody s_is_kind, defScope s_is_kind, [], []⟩
def dd_is_line : He.DefD := ⟨("is_line", none), "is_line", "is_line", defArgs s_is_line, defBody s_is_line, defScope s_is_line, [], []⟩
def dd_is_part : He.DefD := ⟨("is_part", none), "is_part", "is_part", defArgs s_is_part, defBody s_is_part, defScope s_is_part, [], []⟩
def dd_is_plan : He.DefD := ⟨("is_plan", none), "is_plan", "is_plan", defArgs s_is_plan, defBody s_is_plan, defScope s_is_plan, [], []⟩
def dd_check_plan : He.DefD := ⟨("check_plan", none), "check_plan", "check_plan", defArgs s_check_plan, defBody s_check_plan, defScope s_check_plan, [], []⟩
def dd_lines_in : He.DefD := ⟨("lines_in", none), "lines_in", "lines_in", defArgs s_lines_in, defBody s_lines_in, defScope s_lines_in, [], []⟩
def dd_least_line : He.DefD := ⟨("least_line", none), "least_line", "least_line", defArgs s_least_line, defBody s_least_line, defScope s_least_line, [], []⟩
def dd_flat_form : He.DefD := ⟨("flat_form", none), "flat_form", "flat_form", defArgs s_flat_form, defBody s_flat_form, defScope s_flat_form, [], []⟩
def dd_pair_kind : He.DefD := ⟨("pair_kind", none), "pair_kind", "pair_kind", defArgs s_pair_kind, defBody s_pair_kind, defScope s_pair_kind, [], []⟩
def dd_flatten : He.DefD := ⟨("flatten", none), "flatten", "flatten", defArgs s_flatten, defBody s_flatten, defScope s_flatten, [], []⟩
def dd_kind_table : He.DefD := ⟨("kind_table", none), "kind_table", "kind_table", defArgs s_kind_table, defBody s_kind_table, defScope s_kind_table, [], []⟩
def dd_is_triple : He.DefD := ⟨("is_triple", none), "is_triple", "is_triple", defArgs s_is_triple, defBody s_is_triple, defScope s_is_triple, [], []⟩
def dd_lines_in_table : He.DefD := ⟨("lines_in_table", none), "lines_in_table", "lines_in_table", defArgs s_lines_in_table, defBody s_lines_in_table, defScope s_lines_in_table, [], []⟩
def dd_check_table : He.DefD := ⟨("check_table", none), "check_table", "check_table", defArgs s_check_table, defBody s_check_table, defScope s_check_table, [], []⟩
def dd_kinds_by_pair : He.DefD := ⟨("kinds_by_pair", none), "kinds_by_pair", "kinds_by_pair", defArgs s_kinds_by_pair, defBody s_kinds_by_pair, defScope s_kinds_by_pair, [], []⟩
def dd_linked : He.DefD := ⟨("linked", none), "linked", "linked", defArgs s_linked, defBody s_linked, defScope s_linked, [], []⟩
def dd_plan_for : He.DefD := ⟨("plan_for", none), "plan_for", "plan_for", defArgs s_plan_for, defBody s_plan_for, defScope s_plan_for, [], []⟩
def dd_plan_of : He.DefD := ⟨("plan_of", none), "plan_of", "plan_of", defArgs s_plan_of, defBody s_plan_of, defScope s_plan_of, [], []⟩
def dd_find_plan : He.DefD := ⟨("find_plan", none), "find_plan", "find_plan", defArgs s_find_plan, defBody s_find_plan, defScope s_find_plan, [], []⟩
def dd_are_four : He.DefD := ⟨("are_four", none), "are_four", "are_four", defArgs s_are_four, defBody s_are_four, defScope s_are_four, [], []⟩
def dd_rows_of_four : He.DefD := ⟨("rows_of_four", none), "rows_of_four", "rows_of_four", defArgs s_rows_of_four, defBody s_rows_of_four, defScope s_rows_of_four, [], []⟩
def dd_find_four : He.DefD := ⟨("find_four", none), "find_four", "find_four", defArgs s_find_four, defBody s_find_four, defScope s_find_four, [], []⟩
def dd_l_cell : He.DefD := ⟨("_law_cell", none), "_law_cell", "_law_cell", defArgs s_l_cell, defBody s_l_cell, defScope s_l_cell, [], []⟩
def dd_l_pool : He.DefD := ⟨("_law_pool", none), "_law_pool", "_law_pool", defArgs s_l_pool, defBody s_l_pool, defScope s_l_pool, [], []⟩
def dd_l_draw : He.DefD := ⟨("_law_draw", none), "_law_draw", "_law_draw", defArgs s_l_draw, defBody s_l_draw, defScope s_l_draw, [], []⟩
def dd_l_mixed : He.DefD := ⟨("_law_mixed", none), "_law_mixed", "_law_mixed", defArgs s_l_mixed, defBody s_l_mixed, defScope s_l_mixed, [], []⟩
def dd_l_calls : He.DefD := ⟨("_law_calls", none), "_law_calls", "_law_calls", defArgs s_l_calls, defBody s_l_calls, defScope s_l_calls, [], []⟩
def dd_l_sort : He.DefD := ⟨("_law_sort", none), "_law_sort", "_law_sort", defArgs s_l_sort, defBody s_l_sort, defScope s_l_sort, [], []⟩
def dd_l_tree : He.DefD := ⟨("_law_tree", none), "_law_tree", "_law_tree", defArgs s_l_tree, defBody s_l_tree, defScope s_l_tree, [], []⟩
def dd_l_leaves : He.DefD := ⟨("_law_leaves", none), "_law_leaves", "_law_leaves", defArgs s_l_leaves, defBody s_l_leaves, defScope s_l_leaves, [], []⟩
def dd_l_apart : He.DefD := ⟨("_law_apart", none), "_law_apart", "_law_apart", defArgs s_l_apart, defBody s_l_apart, defScope s_l_apart, [], []⟩
def dd_l_pairs : He.DefD := ⟨("_law_pairs", none), "_law_pairs", "_law_pairs", defArgs s_l_pairs, defBody s_l_pairs, defScope s_l_pairs, [], []⟩
def dd_l_chart : He.DefD := ⟨("_law_chart", none), "_law_chart", "_law_chart", defArgs s_l_chart, defBody s_l_chart, defScope s_l_chart, [], []⟩
def dd_l_sorts : He.DefD := ⟨("_law_sorts", none), "_law_sorts", "_law_sorts", defArgs s_l_sorts, defBody s_l_sorts, defScope s_l_sorts, [], []⟩
def dd_l_is_four : He.DefD := ⟨("_law_is_four", none), "_law_is_four", "_law_is_four", defArgs s_l_is_four, defBody s_l_is_four, defScope s_l_is_four, [], []⟩
def dd_l_drawn_chart : He.DefD := ⟨("_law_drawn_chart", none), "_law_drawn_chart", "_law_drawn_chart", defArgs s_l_drawn_chart, defBody s_l_drawn_chart, defScope s_l_drawn_chart, [], []⟩
def dd_l_every_chart : He.DefD := ⟨("_law_every_chart", none), "_law_every_chart", "_law_every_chart", defArgs s_l_every_chart, defBody s_l_every_chart, defScope s_l_every_chart, [], []⟩
def dd_l_some : He.DefD := ⟨("_law_some", none), "_law_some", "_law_some", defArgs s_l_some, defBody s_l_some, defScope s_l_some, [], []⟩
def dd_l_told_right : He.DefD := ⟨("_law_told_right", none), "_law_told_right", "_law_told_right", defArgs s_l_told_right, defBody s_l_told_right, defScope s_l_told_right, [], []⟩
def dd_l_square : He.DefD := ⟨("_law_square", none), "_law_square", "_law_square", defArgs s_l_square, defBody s_l_square, defScope s_l_square, [], []⟩
def dd_l_right : He.DefD := ⟨("_law_right", none), "_law_right", "_law_right", defArgs s_l_right, defBody s_l_right, defScope s_l_right, [], []⟩
def dd_l_law : He.DefD := ⟨("law", none), "law", "law", defArgs s_l_law, defBody s_l_law, defScope s_l_law, [], []⟩
def fn : List He.DefD := [dd_is_kind, dd_is_line, dd_is_part, dd_is_plan, dd_check_plan, dd_lines_in, dd_least_line, dd_flat_form, dd_pair_kind, dd_flatten, dd_kind_table, dd_is_triple, dd_lines_in_table, dd_check_table, dd_kinds_by_pair, dd_linked, dd_plan_for, dd_plan_of, dd_find_plan, dd_are_four, dd_rows_of_four, dd_find_four, dd_l_cell, dd_l_pool, dd_l_draw, dd_l_mixed, dd_l_calls, dd_l_sort, dd_l_tree, dd_l_leaves, dd_l_apart, dd_l_pairs, dd_l_chart, dd_l_sorts, dd_l_is_four, dd_l_drawn_chart, dd_l_every_chart, dd_l_some, dd_l_told_right, dd_l_square, dd_l_right, dd_l_law]
def fa : List He.Fa := [.glo "is_kind", .glo "is_line", .glo "is_part", .glo "is_plan", .glo "check_plan", .glo "lines_in", .glo "least_line", .glo "flat_form", .glo "pair_kind", .glo "flatten", .glo "kind_table", .glo "is_triple", .glo "lines_in_table", .glo "check_table", .glo "kinds_by_pair", .glo "linked", .glo "plan_for", .glo "plan_of", .glo "find_plan", .glo "are_four", .glo "rows_of_four", .glo "find_four", .glo "_law_cell", .glo "_law_pool", .glo "_law_draw", .glo "_law_mixed", .glo "_law_calls", .glo "_law_sort", .glo "_law_tree", .glo "_law_leaves", .glo "_law_apart", .glo "_law_pairs", .glo "_law_chart", .glo "_law_sorts", .glo "_law_is_four", .glo "_law_drawn_chart", .glo "_law_every_chart", .glo "_law_some", .glo "_law_told_right", .glo "_law_square", .glo "_law_right", .glo "law", .free "isinstance", .free "str", .free "tuple", .free "len", .free "all", .free "sorted", .free "list", .free "set", .free "range", .free "enumerate", .free "abs", .free "divmod", .free "min", .free "max", .free "int", .str "LOW" "low", .str "HIGH" "high", .str "LETTERS" "abcdefghijklmnopqrstuvwxyz", .int "MOST_LINES" 8, .int "MOST_LETTERS" 6]
theorem txt_of {K : PySem.W.Frag} {h : Heap} {mg : Str → Option Value} (X : K.In h) (G : h.Ns mainGlobals mg) (c : He.SaysD fa fn K) : Txt K mg where
  d_is_kind := dx_of (c.def_ 0 (d := dd_is_kind) rfl) (He.glo_ok X G (c.fact 0 (f := .glo "is_kind") rfl)) fun _ _ _ _ _ _ us hl => match us, hl with | [_], _ => rfl
  d_is_line := dx_of (c.def_ 1 (d := dd_is_line) rfl) (He.glo_ok X G (c.fact 1 (f := .glo "is_line") rfl)) fun _ _ _ _ _ _ us hl => match us, hl with | [_], _ => rfl
  d_is_part := dx_of (c.def_ 2 (d := dd_is_part) rfl) (He.glo_ok X G (c.fact 2 (f := .glo "is_part") rfl)) fun _ _ _ _ _ _ us hl => match us, hl with | [_, _], _ => rfl
  d_is_plan := dx_of (c.def_ 3 (d := dd_is_plan) rfl) (He.glo_ok X G (c.fact 3 (f := .glo "is_plan") rfl)) fun _ _ _ _ _ _ us hl => match us, hl with | [_], _ => rfl
  d_check_plan := dx_of (c.def_ 4 (d := dd_check_plan) rfl) (He.glo_ok X G (c.fact 4 (f := .glo "check_plan") rfl)) fun _ _ _ _ _ _ us hl => match us, hl with | [_], _ => rfl
  d_lines_in := dx_of (c.def_ 5 (d := dd_lines_in) rfl) (He.glo_ok X G (c.fact 5 (f := .glo "lines_in") rfl)) fun _ _ _ _ _ _ us hl => match us, hl with | [_], _ => rfl
  d_least_line := dx_of (c.def_ 6 (d := dd_least_line) rfl) (He.glo_ok X G (c.fact 6 (f := .glo "least_line") rfl)) fun _ _ _ _ _ _ us hl => match us, hl with | [_], _ => rfl
  d_flat_form := dx_of (c.def_ 7 (d := dd_flat_form) rfl) (He.glo_ok X G (c.fact 7 (f := .glo "flat_form") rfl)) fun _ _ _ _ _ _ us hl => match us, hl with | [_], _ => rfl
  d_pair_kind := dx_of (c.def_ 8 (d := dd_pair_kind) rfl) (He.glo_ok X G (c.fact 8 (f := .glo "pair_kind") rfl)) fun _ _ _ _ _ _ us hl => match us, hl with | [_, _, _], _ => rfl
  d_flatten := dx_of (c.def_ 9 (d := dd_flatten) rfl) (He.glo_ok X G (c.fact 9 (f := .glo "flatten") rfl)) fun _ _ _ _ _ _ us hl => match us, hl with | [_], _ => rfl
  d_kind_table := dx_of (c.def_ 10 (d := dd_kind_table) rfl) (He.glo_ok X G (c.fact 10 (f := .glo "kind_table") rfl)) fun _ _ _ _ _ _ us hl => match us, hl with | [_], _ => rfl
  d_is_triple := dx_of (c.def_ 11 (d := dd_is_triple) rfl) (He.glo_ok X G (c.fact 11 (f := .glo "is_triple") rfl)) fun _ _ _ _ _ _ us hl => match us, hl with | [_], _ => rfl
  d_lines_in_table := dx_of (c.def_ 12 (d := dd_lines_in_table) rfl) (He.glo_ok X G (c.fact 12 (f := .glo "lines_in_table") rfl)) fun _ _ _ _ _ _ us hl => match us, hl with | [_], _ => rfl
  d_check_table := dx_of (c.def_ 13 (d := dd_check_table) rfl) (He.glo_ok X G (c.fact 13 (f := .glo "check_table") rfl)) fun _ _ _ _ _ _ us hl => match us, hl with | [_], _ => rfl
  d_kinds_by_pair := dx_of (c.def_ 14 (d := dd_kinds_by_pair) rfl) (He.glo_ok X G (c.fact 14 (f := .glo "kinds_by_pair") rfl)) fun _ _ _ _ _ _ us hl => match us, hl with | [_], _ => rfl
  d_linked := dx_of (c.def_ 15 (d := dd_linked) rfl) (He.glo_ok X G (c.fact 15 (f := .glo "linked") rfl)) fun _ _ _ _ _ _ us hl => match us, hl with | [_, _, _], _ => rfl
  d_plan_for := dx_of (c.def_ 16 (d := dd_plan_for) rfl) (He.glo_ok X G (c.fact 16 (f := .glo "plan_for") rfl)) fun _ _ _ _ _ _ us hl => match us, hl with | [_, _], _ => rfl
  d_plan_of := dx_of (c.def_ 17 (d := dd_plan_of) rfl) (He.glo_ok X G (c.fact 17 (f := .glo "plan_of") rfl)) fun _ _ _ _ _ _ us hl => match us, hl with | [_], _ => rfl
  d_find_plan := dx_of (c.def_ 18 (d := dd_find_plan) rfl) (He.glo_ok X G (c.fact 18 (f := .glo "find_plan") rfl)) fun _ _ _ _ _ _ us hl => match us, hl with | [_], _ => rfl
  d_are_four := dx_of (c.def_ 19 (d := dd_are_four) rfl) (He.glo_ok X G (c.fact 19 (f := .glo "are_four") rfl)) fun _ _ _ _ _ _ us hl => match us, hl with | [_, _], _ => rfl
  d_rows_of_four := dx_of (c.def_ 20 (d := dd_rows_of_four) rfl) (He.glo_ok X G (c.fact 20 (f := .glo "rows_of_four") rfl)) fun _ _ _ _ _ _ us hl => match us, hl with | [_], _ => rfl
  d_find_four := dx_of (c.def_ 21 (d := dd_find_four) rfl) (He.glo_ok X G (c.fact 21 (f := .glo "find_four") rfl)) fun _ _ _ _ _ _ us hl => match us, hl with | [_], _ => rfl
  d_l_cell := dx_of (c.def_ 22 (d := dd_l_cell) rfl) (He.glo_ok X G (c.fact 22 (f := .glo "_law_cell") rfl)) fun _ _ _ _ _ _ us hl => match us, hl with | [_, _], _ => rfl
  d_l_pool := dx_of (c.def_ 23 (d := dd_l_pool) rfl) (He.glo_ok X G (c.fact 23 (f := .glo "_law_pool") rfl)) fun _ _ _ _ _ _ us hl => match us, hl with | [_], _ => rfl
  d_l_draw := dx_of (c.def_ 24 (d := dd_l_draw) rfl) (He.glo_ok X G (c.fact 24 (f := .glo "_law_draw") rfl)) fun _ _ _ _ _ _ us hl => match us, hl with | [_, _], _ => rfl
  d_l_mixed := dx_of (c.def_ 25 (d := dd_l_mixed) rfl) (He.glo_ok X G (c.fact 25 (f := .glo "_law_mixed") rfl)) fun _ _ _ _ _ _ us hl => match us, hl with | [_, _], _ => rfl
  d_l_calls := dx_of (c.def_ 26 (d := dd_l_calls) rfl) (He.glo_ok X G (c.fact 26 (f := .glo "_law_calls") rfl)) fun _ _ _ _ _ _ us hl => match us, hl with | [_, _], _ => rfl
  d_l_sort := dx_of (c.def_ 27 (d := dd_l_sort) rfl) (He.glo_ok X G (c.fact 27 (f := .glo "_law_sort") rfl)) fun _ _ _ _ _ _ us hl => match us, hl with | [_], _ => rfl
  d_l_tree := dx_of (c.def_ 28 (d := dd_l_tree) rfl) (He.glo_ok X G (c.fact 28 (f := .glo "_law_tree") rfl)) fun _ _ _ _ _ _ us hl => match us, hl with | [_, _], _ => rfl
  d_l_leaves := dx_of (c.def_ 29 (d := dd_l_leaves) rfl) (He.glo_ok X G (c.fact 29 (f := .glo "_law_leaves") rfl)) fun _ _ _ _ _ _ us hl => match us, hl with | [_], _ => rfl
  d_l_apart := dx_of (c.def_ 30 (d := dd_l_apart) rfl) (He.glo_ok X G (c.fact 30 (f := .glo "_law_apart") rfl)) fun _ _ _ _ _ _ us hl => match us, hl with | [_, _, _], _ => rfl
  d_l_pairs := dx_of (c.def_ 31 (d := dd_l_pairs) rfl) (He.glo_ok X G (c.fact 31 (f := .glo "_law_pairs") rfl)) fun _ _ _ _ _ _ us hl => match us, hl with | [_], _ => rfl
  d_l_chart := dx_of (c.def_ 32 (d := dd_l_chart) rfl) (He.glo_ok X G (c.fact 32 (f := .glo "_law_chart") rfl)) fun _ _ _ _ _ _ us hl => match us, hl with | [_], _ => rfl
  d_l_sorts := dx_of (c.def_ 33 (d := dd_l_sorts) rfl) (He.glo_ok X G (c.fact 33 (f := .glo "_law_sorts") rfl)) fun _ _ _ _ _ _ us hl => match us, hl with | [_], _ => rfl
  d_l_is_four := dx_of (c.def_ 34 (d := dd_l_is_four) rfl) (He.glo_ok X G (c.fact 34 (f := .glo "_law_is_four") rfl)) fun _ _ _ _ _ _ us hl => match us, hl with | [_, _], _ => rfl
  d_l_drawn_chart := dx_of (c.def_ 35 (d := dd_l_drawn_chart) rfl) (He.glo_ok X G (c.fact 35 (f := .glo "_law_drawn_chart") rfl)) fun _ _ _ _ _ _ us hl => match us, hl with | [_, _], _ => rfl
  d_l_every_chart := dx_of (c.def_ 36 (d := dd_l_every_chart) rfl) (He.glo_ok X G (c.fact 36 (f := .glo "_law_every_chart") rfl)) fun _ _ _ _ _ _ us hl => match us, hl with | [_], _ => rfl
  d_l_some := dx_of (c.def_ 37 (d := dd_l_some) rfl) (He.glo_ok X G (c.fact 37 (f := .glo "_law_some") rfl)) fun _ _ _ _ _ _ us hl => match us, hl with | [_, _], _ => rfl
  d_l_told_right := dx_of (c.def_ 38 (d := dd_l_told_right) rfl) (He.glo_ok X G (c.fact 38 (f := .glo "_law_told_right") rfl)) fun _ _ _ _ _ _ us hl => match us, hl with | [_], _ => rfl
  d_l_square := dx_of (c.def_ 39 (d := dd_l_square) rfl) (He.glo_ok X G (c.fact 39 (f := .glo "_law_square") rfl)) fun _ _ _ _ _ _ us hl => match us, hl with | [_, _], _ => rfl
  d_l_right := dx_of (c.def_ 40 (d := dd_l_right) rfl) (He.glo_ok X G (c.fact 40 (f := .glo "_law_right") rfl)) fun _ _ _ _ _ _ us hl => match us, hl with | [_], _ => rfl
  d_l_law := dx_of (c.def_ 41 (d := dd_l_law) rfl) (He.glo_ok X G (c.fact 41 (f := .glo "law") rfl)) fun _ _ _ _ _ _ us hl => match us, hl with | [_], _ => rfl
  b_isinstance := He.free_ok X G (c.fact 42 (f := .free "isinstance") rfl)
  b_str := He.free_ok X G (c.fact 43 (f := .free "str") rfl)
  b_tuple := He.free_ok X G (c.fact 44 (f := .free "tuple") rfl)
  b_len := He.free_ok X G (c.fact 45 (f := .free "len") rfl)
  b_all := He.free_ok X G (c.fact 46 (f := .free "all") rfl)
  b_sorted := He.free_ok X G (c.fact 47 (f := .free "sorted") rfl)
  b_list := He.free_ok X G (c.fact 48 (f := .free "list") rfl)
  b_set := He.free_ok X G (c.fact 49 (f := .free "set") rfl)
  b_range := He.free_ok X G (c.fact 50 (f := .free "range") rfl)
  b_enumerate := He.free_ok X G (c.fact 51 (f := .free "enumerate") rfl)
  b_abs := He.free_ok X G (c.fact 52 (f := .free "abs") rfl)
  b_divmod := He.free_ok X G (c.fact 53 (f := .free "divmod") rfl)
  b_min := He.free_ok X G (c.fact 54 (f := .free "min") rfl)
  b_max := He.free_ok X G (c.fact 55 (f := .free "max") rfl)
  b_int := He.free_ok X G (c.fact 56 (f := .free "int") rfl)
  k_LOW := He.str_ok X G (c.fact 57 (f := .str "LOW" "low") rfl)
  k_HIGH := He.str_ok X G (c.fact 58 (f := .str "HIGH" "high") rfl)
  k_LETTERS := He.str_ok X G (c.fact 59 (f := .str "LETTERS" "abcdefghijklmnopqrstuvwxyz") rfl)
  k_MOST_LINES := He.int_ok X G (c.fact 60 (f := .int "MOST_LINES" 8) rfl)
  k_MOST_LETTERS := He.int_ok X G (c.fact 61 (f := .int "MOST_LETTERS" 6) rfl)
abbrev R : PySem.W.OpenRow := PySem.W.OpenLaw.row PySem.Challenge.rw_frontmeets_k36_whole_plan_or_four_lines
abbrev hk : PySem.W.Hook := He.hookD 4 fa fn
def ob (s : PySem.W.SharedT) : He.AlD := He.obsDG 4 fa fn (HandSHeadRun.getT s)
theorem ob_eq (s : PySem.W.SharedT) : ob s = hk.obs s.abs := He.obsDG_eq (HandSHeadRun.getT_eq s)
def loose1 : List PySem.Str := ["MeetError", "InvalidPlan", "InvalidTable", "MOST_LINES", "LOW", "HIGH", "is_kind", "LETTERS", "MOST_LETTERS", "is_line", "is_part", "is_plan", "check_plan", "lines_in", "least_line", "flat_form", "pair_kind", "flatten", "kind_table", "is_triple"]
def loose2 : List PySem.Str := ["lines_in_table", "check_table", "kinds_by_pair", "linked", "plan_for", "plan_of", "find_plan", "are_four", "rows_of_four", "find_four", "_law_cell", "_law_pool", "_law_draw", "_law_mixed", "_law_calls"]
def loose3 : List PySem.Str := ["_law_sort", "_law_tree", "_law_leaves", "_law_apart", "_law_pairs", "_law_chart", "_law_sorts", "_law_is_four", "_law_drawn_chart", "_law_every_chart", "_law_some", "_law_told_right", "_law_square", "_law_right"]
def loose : List PySem.Str := loose1 ++ loose2 ++ loose3
theorem run (w : World) : HandSHeadRun.RunEq R (PySem.W.view R.prog [54]) hk ob 4000 loose w := by
  intro os
  kernel_rfl
end Fm
set_option maxHeartbeats 0
open PySem PySem.W PySem.Calls PyProof.Rows
theorem PySem.Challenge.cw_frontmeets_k36_whole_plan_or_four_lines_holds : PySem.Challenge.rw_frontmeets_k36_whole_plan_or_four_lines.Holds := by
  w_on; o_law
  refine HandSHeadRun.head_any (r := OpenLaw.row PySem.Challenge.rw_frontmeets_k36_whole_plan_or_four_lines) (q := view (OpenLaw.row PySem.Challenge.rw_frontmeets_k36_whole_plan_or_four_lines).prog [54]) (H := Fm.hk) (ob := Fm.ob) (M := 4000) (loose := Fm.loose) (d := HandSHeadRun.topDef (OpenLaw.row PySem.Challenge.rw_frontmeets_k36_whole_plan_or_four_lines).prog 54) (kwd := []) Fm.ob_eq
    (by kernel_rfl) (fun s => by kernel_rfl) Fm.run (by kernel_rfl) (by kernel_rfl) (by kernel_rfl) (by rfl) (by first | assumption | decide +kernel) (by decide +kernel) ⟨rfl, rfl, rfl, rfl, rfl, by decide +kernel⟩ ?hw ?hc
  case hw => w_witness2
  case hc =>
    refine L2.walk_ofE (l := PySem.Challenge.rw_frontmeets_k36_whole_plan_or_four_lines) (n := 63) (k := 25) (x := "_law_script") (CX := L2.CX0) rfl (by decide) (by kernel_rfl) ⟨rfl, by decide, by decide⟩ ?F (fun _ _ _ _ z => z)
    intro w mg fa h Y G hmg0
    obtain ⟨K, KX, c⟩ := Y
    have hmg : mg ("law" : PySem.Str) = some (.ref fa) := by
      have e : (HandSHeadRun.topDef (OpenLaw.row PySem.Challenge.rw_frontmeets_k36_whole_plan_or_four_lines).prog 54).name = ("law" : PySem.Str) := by kernel_rfl
      rw [← e]
      exact hmg0
    have T : Fm.Txt K mg := Fm.txt_of KX G c
    obtain ⟨f, fd, F, hm, hb⟩ := T.d_l_law
    rw [hmg] at hm
    cases hm
    have b := L2.FunD.bindsA (ps := ["_law_script"]) F fun _ _ _ _ _ _ us hl => match us, hl with | [_], _ => rfl
    exact ⟨K, fd, Fm.spLaw K, KX, fun s v => b s [v] rfl, fun H a ns _ _ hS => ⟨a, ns, rfl, hS, fun _ => rfl⟩, fun base _ _ => Fm.law_ok T F⟩
