import PyProof.Rows.All
import Wide.All
import OpenK.AllK
import Wide.FinOn
import HandS.ForMost
import HandS.IsInst
import HandS.Deep
import HandS.TupAny
import HandS.Sort
import HandS.Conv
import HandS.Codes
import PySem.Challenge.RW_heardseams_k10_whole_shapes_regrouped
set_option Elab.async false
set_option maxRecDepth 100000
set_option maxHeartbeats 4000000
namespace Hs

/-- the numbers of x from f to l are the depths of a phrase whose outermost seam has the depth d -/
inductive Sh (x : Nat → Int) : Int → Nat → Nat → Prop
  | nil (d : Int) (f : Nat) : Sh x d f f
  | node {d : Int} {f l : Nat} (s : Nat) : f ≤ s → s < l → x s = d → Sh x (d + 1) f s → Sh x (d + 1) (s + 1) l → Sh x d f l

theorem Sh.le {x : Nat → Int} {d : Int} {f l : Nat} (h : Sh x d f l) : f ≤ l := by
  induction h with
  | nil d f => exact Nat.le_refl _
  | node s h1 h2 h3 h4 h5 i1 i2 => omega

theorem Sh.ge {x : Nat → Int} {d : Int} {f l : Nat} (h : Sh x d f l) : ∀ j, f ≤ j → j < l → d ≤ x j := by
  induction h with
  | nil d f => intro j a b; omega
  | node s h1 h2 h3 h4 h5 i1 i2 =>
    intro j a b
    by_cases e : j < s
    · have := i1 j a e; omega
    · by_cases e2 : j = s
      · subst e2; omega
      · have := i2 j (by omega) b; omega

theorem Sh.lt {x : Nat → Int} {d : Int} {f l : Nat} (h : Sh x d f l) : ∀ j, f ≤ j → j < l → x j < d + ((l - f : Nat) : Int) := by
  induction h with
  | nil d f => intro j a b; omega
  | node s h1 h2 h3 h4 h5 i1 i2 =>
    intro j a b
    by_cases e : j < s
    · have := i1 j a e; omega
    · by_cases e2 : j = s
      · subst e2; omega
      · have := i2 j (by omega) b; omega

theorem Sh.congr {x y : Nat → Int} {d : Int} {f l : Nat} (h : Sh x d f l) : (∀ j, f ≤ j → j < l → y j = x j) → Sh y d f l := by
  induction h with
  | nil d f => intro _; exact .nil _ _
  | node s h1 h2 h3 h4 h5 i1 i2 =>
    intro e
    exact .node s h1 h2 (by rw [e s h1 h2]; exact h3) (i1 fun j a b => e j a (by omega)) (i2 fun j a b => e j (by omega) b)

theorem Sh.add {x y : Nat → Int} (c : Int) {d : Int} {f l : Nat} (h : Sh x d f l) : (∀ j, f ≤ j → j < l → y j = x j + c) → Sh y (d + c) f l := by
  induction h with
  | nil d f => intro _; exact .nil _ _
  | @node d f l s h1 h2 h3 h4 h5 i1 i2 =>
    intro e
    have a1 := i1 fun j a b => e j a (by omega)
    have a2 := i2 fun j a b => e j (by omega) b
    have ed : d + 1 + c = d + c + 1 := by omega
    rw [ed] at a1 a2
    exact .node s h1 h2 (by rw [e s h1 h2, h3]) a1 a2

theorem Sh.addTo {x y : Nat → Int} (c d' : Int) {d : Int} {f l : Nat} (h : Sh x d f l) (hd : d' = d + c) (e : ∀ j, f ≤ j → j < l → y j = x j + c) : Sh y d' f l := by
  subst hd
  exact h.add c e

/-- one place to the left -/
theorem Sh.left {x y : Nat → Int} {d : Int} {f l : Nat} (h : Sh x d f l) : ∀ g, f = g + 1 → (∀ j, g ≤ j → j + 1 < l → y j = x (j + 1)) → Sh y d g (l - 1) := by
  induction h with
  | nil d f => intro g hf _; subst hf; exact .nil _ _
  | @node d f l s h1 h2 h3 h4 h5 i1 i2 =>
    intro g hf e
    have a1 := i1 g hf fun j a b => e j a (by omega)
    have a2 := i2 s rfl fun j a b => e j (by omega) b
    refine .node (s - 1) (by omega) (by omega) ?_ a1 ?_
    · rw [e (s - 1) (by omega) (by omega)]
      have : s - 1 + 1 = s := by omega
      rw [this]; exact h3
    · have : s - 1 + 1 = s := by omega
      rw [this]; exact a2

theorem Sh.inv {x : Nat → Int} {d : Int} {f l : Nat} (h : Sh x d f l) (hfl : f < l) : ∃ s, f ≤ s ∧ s < l ∧ x s = d ∧ Sh x (d + 1) f s ∧ Sh x (d + 1) (s + 1) l := by
  cases h with
  | nil => omega
  | node s h1 h2 h3 h4 h5 => exact ⟨s, h1, h2, h3, h4, h5⟩

/-- the root is the only seam that is no deeper -/
theorem Sh.root {x : Nat → Int} {d : Int} {f l s : Nat} (h : Sh x d f l) (h1 : f ≤ s) (h2 : s < l) (h3 : x s ≤ d) : x s = d ∧ Sh x (d + 1) f s ∧ Sh x (d + 1) (s + 1) l ∧ (∀ j, f ≤ j → j < l → j ≠ s → d < x j) := by
  obtain ⟨r, a1, a2, a3, a4, a5⟩ := h.inv (by omega)
  have hs : s = r := by
    by_cases e : s < r
    · have := a4.ge s h1 e; omega
    · by_cases e2 : r < s
      · have := a5.ge s (by omega) h2; omega
      · omega
  subst hs
  refine ⟨a3, a4, a5, fun j b1 b2 b3 => ?_⟩
  by_cases e : j < s
  · have := a4.ge j b1 e; omega
  · have := a5.ge j (by omega) b2; omega

/-- the phrase that the seam s joins -/
structure Span (x : Nat → Int) (n s f l : Nat) : Prop where
  fs : f ≤ s
  sl : s < l
  ln : l ≤ n
  deep : ∀ j, f ≤ j → j < l → j ≠ s → x s < x j
  lo : f = 0 ∨ x (f - 1) ≤ x s
  hi : l = n ∨ x l ≤ x s

theorem Span.uniq {x : Nat → Int} {n s f l f' l' : Nat} (a : Span x n s f l) (b : Span x n s f' l') : f = f' ∧ l = l' := by
  obtain ⟨a1, a2, a3, a4, a5, a6⟩ := a
  obtain ⟨b1, b2, b3, b4, b5, b6⟩ := b
  constructor
  · by_cases h : f < f'
    · have := a4 (f' - 1) (by omega) (by omega) (by omega)
      omega
    · by_cases h2 : f' < f
      · have := b4 (f - 1) (by omega) (by omega) (by omega)
        omega
      · omega
  · by_cases h : l < l'
    · have := b4 l (by omega) (by omega) (by omega)
      omega
    · by_cases h2 : l' < l
      · have := a4 l' (by omega) (by omega) (by omega)
        omega
      · omega

/-- a segment of a shape, its bounds -/
structure Seg (x : Nat → Int) (n : Nat) (d : Int) (f l : Nat) : Prop where
  sh : Sh x d f l
  ln : l ≤ n
  lo : f = 0 ∨ x (f - 1) < d
  hi : l = n ∨ x l < d

theorem Seg.parts {x : Nat → Int} {n : Nat} {d : Int} {f l s : Nat} (h : Seg x n d f l) (h1 : f ≤ s) (h2 : s < l) (h3 : x s ≤ d) :
    Span x n s f l ∧ Seg x n (d + 1) f s ∧ Seg x n (d + 1) (s + 1) l ∧ x s = d := by
  obtain ⟨e, a1, a2, a3⟩ := h.sh.root h1 h2 h3
  have ln := h.ln
  have lo := h.lo
  have hi := h.hi
  refine ⟨⟨h1, h2, h.ln, fun j b1 b2 b3 => by have := a3 j b1 b2 b3; omega, by omega, by omega⟩, ⟨a1, by omega, by omega, by omega⟩, ⟨a2, by omega, ?_, by omega⟩, e⟩
  right
  have : s + 1 - 1 = s := by omega
  rw [this]; omega

/-- every seam of a segment has its phrase there, a segment itself -/
theorem Sh.spanIn {x : Nat → Int} {n : Nat} {d : Int} {f l : Nat} (h : Sh x d f l) : l ≤ n → (f = 0 ∨ x (f - 1) < d) → (l = n ∨ x l < d) → ∀ s, f ≤ s → s < l →
    ∃ f' l', f ≤ f' ∧ l' ≤ l ∧ Span x n s f' l' ∧ Seg x n (x s) f' l' := by
  induction h with
  | nil d f => intro _ _ _ s a b; omega
  | @node d f l r h1 h2 h3 h4 h5 i1 i2 =>
    intro ln lo hi s a b
    have S : Seg x n d f l := ⟨.node r h1 h2 h3 h4 h5, ln, lo, hi⟩
    obtain ⟨p1, p2, p3, p4⟩ := S.parts h1 h2 (by omega)
    by_cases e : s < r
    · obtain ⟨f', l', c1, c2, c3, c4⟩ := i1 p2.ln p2.lo p2.hi s a e
      exact ⟨f', l', c1, by omega, c3, c4⟩
    · by_cases e2 : s = r
      · subst e2
        exact ⟨f, l, Nat.le_refl _, Nat.le_refl _, p1, by rw [h3]; exact S⟩
      · obtain ⟨f', l', c1, c2, c3, c4⟩ := i2 p3.ln p3.lo p3.hi s (by omega) b
        exact ⟨f', l', by omega, c2, c3, c4⟩

theorem Sh.span {x : Nat → Int} {n : Nat} (h : Sh x 0 0 n) {s : Nat} (hs : s < n) : ∃ f l, Span x n s f l ∧ Seg x n (x s) f l := by
  obtain ⟨f, l, _, _, a, b⟩ := h.spanIn (n := n) (Nat.le_refl _) (.inl rfl) (.inl rfl) s (Nat.zero_le _) hs
  exact ⟨f, l, a, b⟩

theorem Sh.seg {x : Nat → Int} {n : Nat} (h : Sh x 0 0 n) {s f l : Nat} (a : Span x n s f l) : Seg x n (x s) f l := by
  obtain ⟨f', l', b, c⟩ := h.span (s := s) (by have := a.sl; have := a.ln; omega)
  obtain ⟨e1, e2⟩ := a.uniq b
  subst e1; subst e2; exact c

/-- p is directly over i -/
def Par (x : Nat → Int) (n p i : Nat) : Prop := x i = x p + 1 ∧ ∃ f l, Span x n p f l ∧ f ≤ i ∧ i < l

theorem Par.lt {x : Nat → Int} {n p i : Nat} (h : Par x n p i) : p < n ∧ i < n ∧ p ≠ i := by
  obtain ⟨e, f, l, a, b, c⟩ := h
  have := a.fs; have := a.sl; have := a.ln
  refine ⟨by omega, by omega, fun q => ?_⟩
  subst q; omega

/-- laminar: of two seams of one depth the phrases lie apart -/
theorem Span.apart {x : Nat → Int} {n p q f l f' l' : Nat} (a : Span x n p f l) (b : Span x n q f' l') (e : x p = x q) (hn : p ≠ q) (i : Nat) (h1 : f ≤ i) (h2 : i < l) (h3 : f' ≤ i) (h4 : i < l') : (p < q → l = q ∧ f' = p + 1) ∧ (q < p → l' = p ∧ f = q + 1) := by
  obtain ⟨a1, a2, a3, a4, a5, a6⟩ := a
  obtain ⟨b1, b2, b3, b4, b5, b6⟩ := b
  have hq : ¬ (f ≤ q ∧ q < l) := fun z => by have := a4 q z.1 z.2 (Ne.symm hn); omega
  have hp : ¬ (f' ≤ p ∧ p < l') := fun z => by have := b4 p z.1 z.2 hn; omega
  constructor
  · intro h
    constructor
    · by_cases z : l < q
      · have := b4 l (by omega) (by omega) (by omega); omega
      · omega
    · by_cases z : p + 1 < f'
      · have := a4 (f' - 1) (by omega) (by omega) (by omega); omega
      · omega
  · intro h
    constructor
    · by_cases z : l' < p
      · have := a4 l' (by omega) (by omega) (by omega); omega
      · omega
    · by_cases z : q + 1 < f
      · have := b4 (f - 1) (by omega) (by omega) (by omega); omega
      · omega

theorem Par.uniq {x : Nat → Int} {n : Nat} (h : Sh x 0 0 n) {p q i : Nat} (a : Par x n p i) (b : Par x n q i) : p = q := by
  obtain ⟨e, f, l, a1, a2, a3⟩ := a
  obtain ⟨e', f', l', b1, b2, b3⟩ := b
  by_cases hn : p = q
  · exact hn
  · exfalso
    have A := h.seg a1
    have B := h.seg b1
    have ap := a1.apart b1 (by omega) hn i a2 a3 b2 b3
    have g1 := A.hi
    have g2 := B.hi
    have h1 := a1.fs; have h2 := a1.sl; have h3 := a1.ln
    have k1 := b1.fs; have k2 := b1.sl; have k3 := b1.ln
    rcases Nat.lt_or_gt_of_ne hn with z | z
    · obtain ⟨c1, c2⟩ := ap.1 z
      subst c1
      rcases g1 with g1 | g1
      · omega
      · omega
    · obtain ⟨c1, c2⟩ := ap.2 z
      subst c1
      rcases g2 with g2 | g2
      · omega
      · omega

/-! ### regrouping -/
/-- x: ((A B) C), y: (A (B C)); p between A and B, q between B and C -/
structure Rot (n : Nat) (x y : Nat → Int) (f p q l : Nat) (d : Int) : Prop where
  fp : f ≤ p
  pq : p < q
  ql : q < l
  ln : l ≤ n
  xq : x q = d
  xp : x p = d + 1
  yp : y p = d
  yq : y q = d + 1
  xA : ∀ j, f ≤ j → j < p → d + 2 ≤ x j
  yA : ∀ j, f ≤ j → j < p → y j = x j - 1
  xB : ∀ j, p < j → j < q → d + 2 ≤ x j
  yB : ∀ j, p < j → j < q → y j = x j
  xC : ∀ j, q < j → j < l → d + 1 ≤ x j
  yC : ∀ j, q < j → j < l → y j = x j + 1
  out : ∀ j, j < f ∨ l ≤ j → y j = x j
  lo : f = 0 ∨ x (f - 1) < d
  hi : l = n ∨ x l < d

section
variable {n : Nat} {x y : Nat → Int} {f p q l : Nat} {d : Int}

theorem Rot.spanQ (R : Rot n x y f p q l d) : Span x n q f l := by
  obtain ⟨fp, pq, ql, ln, xq, xp, yp, yq, xA, yA, xB, yB, xC, yC, out, lo, hi⟩ := R
  refine ⟨by omega, ql, ln, fun j a b c => ?_, by omega, by omega⟩
  by_cases h1 : j < p
  · have := xA j a h1; omega
  · by_cases h2 : j = p
    · subst h2; omega
    · by_cases h3 : j < q
      · have := xB j (by omega) h3; omega
      · have := xC j (by omega) b; omega

theorem Rot.spanP (R : Rot n x y f p q l d) : Span y n p f l := by
  obtain ⟨fp, pq, ql, ln, xq, xp, yp, yq, xA, yA, xB, yB, xC, yC, out, lo, hi⟩ := R
  refine ⟨fp, by omega, ln, fun j a b c => ?_, ?_, ?_⟩
  · by_cases h1 : j < p
    · have := xA j a h1; have := yA j a h1; omega
    · by_cases h3 : j < q
      · have := xB j (by omega) h3; have := yB j (by omega) h3; omega
      · by_cases h2 : j = q
        · subst h2; omega
        · have := xC j (by omega) b; have := yC j (by omega) b; omega
  · by_cases h : f = 0
    · exact .inl h
    · right
      rw [out (f - 1) (by omega)]; omega
  · by_cases h : l = n
    · exact .inl h
    · right
      rw [out l (by omega)]; omega

/-- p's phrase in x lies within (f, q), q's phrase in y within (p, l) -/
theorem Rot.spanPx (R : Rot n x y f p q l d) : Span x n p f q := by
  obtain ⟨fp, pq, ql, ln, xq, xp, yp, yq, xA, yA, xB, yB, xC, yC, out, lo, hi⟩ := R
  refine ⟨fp, pq, by omega, fun j a b c => ?_, by omega, by omega⟩
  by_cases h1 : j < p
  · have := xA j a h1; omega
  · have := xB j (by omega) b; omega

theorem Rot.spanQy (R : Rot n x y f p q l d) : Span y n q (p + 1) l := by
  obtain ⟨fp, pq, ql, ln, xq, xp, yp, yq, xA, yA, xB, yB, xC, yC, out, lo, hi⟩ := R
  refine ⟨by omega, ql, ln, fun j a b c => ?_, ?_, ?_⟩
  · by_cases h3 : j < q
    · have := xB j (by omega) h3; have := yB j (by omega) h3; omega
    · have := xC j (by omega) b; have := yC j (by omega) b; omega
  · right
    have : p + 1 - 1 = p := by omega
    rw [this]; omega
  · by_cases h : l = n
    · exact .inl h
    · right
      rw [out l (by omega)]; omega

/-- the phrase of every other seam stays -/
theorem Rot.spans (R : Rot n x y f p q l d) {s a b : Nat} (hp : s ≠ p) (hq : s ≠ q) (S : Span x n s a b) : Span y n s a b := by
  have SQ := R.spanQ
  have SP := R.spanPx
  obtain ⟨fp, pq, ql, ln, xq, xp, yp, yq, xA, yA, xB, yB, xC, yC, out, lo, hi⟩ := R
  obtain ⟨s1, s2, s3, s4, s5, s6⟩ := S
  have Q4 := SQ.deep
  have P4 := SP.deep
  -- where the seam stands
  by_cases hA : f ≤ s ∧ s < p
  · have xs := xA s hA.1 hA.2
    have ys := yA s hA.1 hA.2
    -- its phrase lies within A
    have af : f ≤ a := by
      by_cases z : a < f
      · have := s4 (f - 1) (by omega) (by omega) (by omega); omega
      · omega
    have bp : b ≤ p := by
      by_cases z : p < b
      · have := s4 p (by omega) (by omega) (by omega); omega
      · omega
    refine ⟨s1, s2, s3, fun j j1 j2 j3 => ?_, ?_, ?_⟩
    · have := s4 j j1 j2 j3; have := yA j (by omega) (by omega); omega
    · by_cases z : a = f
      · subst z
        by_cases z0 : a = 0
        · exact .inl z0
        · right
          rw [out (a - 1) (by omega)]; omega
      · right
        rw [yA (a - 1) (by omega) (by omega)]; omega
    · right
      by_cases z : b = p
      · subst z; omega
      · rw [yA b (by omega) (by omega)]; omega
  · by_cases hB : p < s ∧ s < q
    · have xs := xB s hB.1 hB.2
      have ys := yB s hB.1 hB.2
      have af : p + 1 ≤ a := by
        by_cases z : a < p + 1
        · have := s4 p (by omega) (by omega) (by omega); omega
        · omega
      have bp : b ≤ q := by
        by_cases z : q < b
        · have := s4 q (by omega) (by omega) (by omega); omega
        · omega
      refine ⟨s1, s2, s3, fun j j1 j2 j3 => ?_, ?_, ?_⟩
      · have := s4 j j1 j2 j3; have := yB j (by omega) (by omega); omega
      · right
        by_cases z : a = p + 1
        · subst z
          have : p + 1 - 1 = p := by omega
          rw [this]; omega
        · rw [yB (a - 1) (by omega) (by omega)]; omega
      · right
        by_cases z : b = q
        · subst z; omega
        · rw [yB b (by omega) (by omega)]; omega
    · by_cases hC : q < s ∧ s < l
      · have xs := xC s hC.1 hC.2
        have ys := yC s hC.1 hC.2
        have af : q + 1 ≤ a := by
          by_cases z : a < q + 1
          · have := s4 q (by omega) (by omega) (by omega); omega
          · omega
        have bp : b ≤ l := by
          by_cases z : l < b
          · have := s4 l (by omega) (by omega) (by omega); omega
          · omega
        refine ⟨s1, s2, s3, fun j j1 j2 j3 => ?_, ?_, ?_⟩
        · have := s4 j j1 j2 j3; have := yC j (by omega) (by omega); omega
        · right
          by_cases z : a = q + 1
          · subst z
            have : q + 1 - 1 = q := by omega
            rw [this]; omega
          · rw [yC (a - 1) (by omega) (by omega)]; omega
        · by_cases z : b = l
          · subst z
            by_cases z0 : b = n
            · exact .inl z0
            · right
              rw [out b (by omega)]; omega
          · right
            rw [yC b (by omega) (by omega)]; omega
      · -- outside
        have hO : s < f ∨ l ≤ s := by omega
        have ys := out s hO
        -- y is at least d within
        have yd : ∀ j, f ≤ j → j < l → d ≤ y j ∧ d ≤ x j := by
          intro j a b
          by_cases h1 : j < p
          · have := xA j a h1; have := yA j a h1; omega
          · by_cases h2 : j = p
            · subst h2; omega
            · by_cases h3 : j < q
              · have := xB j (by omega) h3; have := yB j (by omega) h3; omega
              · by_cases h4 : j = q
                · subst h4; omega
                · have := xC j (by omega) b; have := yC j (by omega) b; omega
        -- where the phrase goes into the segment, its own depth is below d
        have low : (∃ j, f ≤ j ∧ j < l ∧ a ≤ j ∧ j < b) → x s < d := by
          rintro ⟨j, j1, j2, j3, j4⟩
          rcases hO with h | h
          · by_cases z : s = f - 1
            · rw [z]; omega
            · have := s4 (f - 1) (by omega) (by omega) (by omega); omega
          · by_cases z : s = l
            · rw [z]; omega
            · have := s4 l (by omega) (by omega) (by omega); omega
        refine ⟨s1, s2, s3, fun j j1 j2 j3 => ?_, ?_, ?_⟩
        · rw [ys]
          by_cases z : f ≤ j ∧ j < l
          · have := low ⟨j, z.1, z.2, j1, j2⟩
            have := (yd j z.1 z.2).1
            omega
          · rw [out j (by omega)]; exact s4 j j1 j2 j3
        · rcases s5 with s5 | s5
          · exact .inl s5
          · right
            rw [ys]
            by_cases z0 : a = 0
            · subst z0
              have e0 : (0 : Nat) - 1 = 0 := by omega
              rw [e0] at s5 ⊢
              by_cases z : f ≤ 0 ∧ 0 < l
              · have hls : l ≤ s := by omega
                have hl : x l < d := by omega
                have sd : x s < d := by
                  by_cases zz : s = l
                  · rw [zz]; exact hl
                  · have := s4 l (by omega) (by omega) (by omega); omega
                have := (yd 0 z.1 z.2).2
                omega
              · rw [out 0 (by omega)]; exact s5
            · by_cases z : f ≤ a - 1 ∧ a - 1 < l
              · exfalso
                have := (yd (a - 1) z.1 z.2).2
                have hls : l ≤ s := by omega
                have sd : x s < d := by
                  by_cases zz : s = l
                  · rw [zz]; omega
                  · have := s4 l (by omega) (by omega) (by omega); omega
                omega
              · rw [out (a - 1) (by omega)]; exact s5
        · rcases s6 with s6 | s6
          · exact .inl s6
          · right
            rw [ys]
            by_cases z : f ≤ b ∧ b < l
            · exfalso
              have := (yd b z.1 z.2).2
              have hsf : s < f := by omega
              have sd : x s < d := by
                by_cases zz : s = f - 1
                · rw [zz]; omega
                · have := s4 (f - 1) (by omega) (by omega) (by omega); omega
              omega
            · rw [out b (by omega)]; exact s6

/-- and back -/
theorem Rot.spansBack (R : Rot n x y f p q l d) (h : Sh x 0 0 n) {s a b : Nat} (hp : s ≠ p) (hq : s ≠ q) (S : Span y n s a b) : Span x n s a b := by
  obtain ⟨a', b', c, _⟩ := h.span (s := s) (by have := S.sl; have := S.ln; omega)
  obtain ⟨e1, e2⟩ := (R.spans hp hq c).uniq S
  subst e1; subst e2; exact c

end

/-- another phrase in the place of a phrase -/
theorem Sh.replace {x y : Nat → Int} {n s f l : Nat} (S : Span x n s f l) (hy : Sh y (x s) f l) (ho : ∀ j, j < f ∨ l ≤ j → y j = x j) {d : Int} {a b : Nat} (h : Sh x d a b) :
    b ≤ n → (a = 0 ∨ x (a - 1) < d) → (b = n ∨ x b < d) → a ≤ s → s < b → Sh y d a b := by
  induction h with
  | nil d f => intro _ _ _ q1 q2; omega
  | @node d a b r h1 h2 h3 h4 h5 i1 i2 =>
    intro ln lo hi q1 q2
    have G : Seg x n d a b := ⟨.node r h1 h2 h3 h4 h5, ln, lo, hi⟩
    obtain ⟨p1, p2, p3, p4⟩ := G.parts h1 h2 (by omega)
    by_cases e2 : s = r
    · subst e2
      obtain ⟨e3, e4⟩ := S.uniq p1
      subst e3; subst e4
      rw [h3] at hy
      exact hy
    · by_cases e : s < r
      · obtain ⟨f', l', c1, c2, c3, c4⟩ := h4.spanIn p2.ln p2.lo p2.hi s q1 e
        obtain ⟨e3, e4⟩ := S.uniq c3
        subst e3; subst e4
        exact .node r h1 h2 (by rw [ho r (by omega)]; exact h3) (i1 p2.ln p2.lo p2.hi q1 e) (h5.congr fun j j1 j2 => ho j (by omega))
      · obtain ⟨f', l', c1, c2, c3, c4⟩ := h5.spanIn p3.ln p3.lo p3.hi s (by omega) q2
        obtain ⟨e3, e4⟩ := S.uniq c3
        subst e3; subst e4
        exact .node r h1 h2 (by rw [ho r (by omega)]; exact h3) (h4.congr fun j j1 j2 => ho j (by omega)) (i2 p3.ln p3.lo p3.hi (by omega) q2)

section
variable {n : Nat} {x y : Nat → Int} {f p q l : Nat} {d : Int}

theorem Rot.sh (R : Rot n x y f p q l d) (h : Sh x 0 0 n) : Sh y 0 0 n := by
  have SQ := R.spanQ
  have SP := R.spanPx
  have G := (h.seg SQ).sh
  have G' := (h.seg SP).sh
  obtain ⟨fp, pq, ql, ln, xq, xp, yp, yq, xA, yA, xB, yB, xC, yC, out, lo, hi⟩ := R
  obtain ⟨_, _, c, _⟩ := G.root SQ.fs SQ.sl (Int.le_refl _)
  obtain ⟨_, a, b, _⟩ := G'.root SP.fs SP.sl (Int.le_refl _)
  refine Sh.replace SQ ?_ out h (Nat.le_refl _) (.inl rfl) (.inl rfl) (Nat.zero_le _) (by omega)
  rw [xq] at c ⊢
  rw [xp] at a b
  refine .node p fp (by omega) yp (a.addTo (-1) _ (by omega) fun j j1 j2 => by have := yA j j1 j2; omega) ?_
  exact .node q (by omega) ql yq (b.addTo 0 _ (by omega) fun j j1 j2 => by have := yB j (by omega) j2; omega) (c.addTo 1 _ (by omega) fun j j1 j2 => by have := yC j (by omega) j2; omega)

theorem Rot.shBack (R : Rot n y x f p q l d) (h : Sh x 0 0 n) : Sh y 0 0 n := by
  have SP := R.spanP
  have SQ := R.spanQy
  have G := (h.seg SP).sh
  have G' := (h.seg SQ).sh
  obtain ⟨fp, pq, ql, ln, xq, xp, yp, yq, xA, yA, xB, yB, xC, yC, out, lo, hi⟩ := R
  obtain ⟨_, a, _, _⟩ := G.root SP.fs SP.sl (Int.le_refl _)
  obtain ⟨_, b, c, _⟩ := G'.root SQ.fs SQ.sl (Int.le_refl _)
  refine Sh.replace SP ?_ (fun j hj => (out j hj).symm) h (Nat.le_refl _) (.inl rfl) (.inl rfl) (Nat.zero_le _) (by omega)
  rw [yp] at a ⊢
  rw [yq] at b c
  refine .node q (by omega) ql xq ?_ (c.addTo (-1) _ (by omega) fun j j1 j2 => by have := yC j (by omega) j2; omega)
  exact .node p fp pq xp (a.addTo 1 _ (by omega) fun j j1 j2 => by have := yA j j1 j2; omega) (b.addTo 0 _ (by omega) fun j j1 j2 => by have := yB j (by omega) j2; omega)
end

end Hs
namespace Hs

/-! ### the regrouped depths -/
def rg (x : Nat → Int) (one other f l : Nat) : Nat → Int := fun j =>
  if j = one then x j + 1 else if j = other then x j - 1 else
  if other < one then (if one < j ∧ j < l then x j + 1 else if f ≤ j ∧ j < other then x j - 1 else x j)
  else (if f ≤ j ∧ j < one then x j + 1 else if other < j ∧ j < l then x j - 1 else x j)

theorem Par.span {x : Nat → Int} {n p i f l : Nat} (h : Par x n p i) (S : Span x n p f l) : f ≤ i ∧ i < l := by
  obtain ⟨_, f', l', a, b, c⟩ := h
  obtain ⟨e1, e2⟩ := a.uniq S
  subst e1; subst e2; exact ⟨b, c⟩

theorem rotA {x : Nat → Int} {n one other f l : Nat} (h : Sh x 0 0 n) (P : Par x n one other) (S : Span x n one f l) (lt : other < one) :
    Rot n x (rg x one other f l) f other one l (x one) := by
  have G := h.seg S
  obtain ⟨b1, b2⟩ := P.span S
  have S1 := S.fs; have S2 := S.sl; have S3 := S.ln; have S4 := S.deep
  have e := P.1
  obtain ⟨_, g1, g2, _⟩ := G.sh.root S1 S2 (Int.le_refl _)
  obtain ⟨_, g3, g4, g5⟩ := g1.root b1 lt (by omega)
  refine ⟨b1, lt, S2, S3, rfl, e, ?_, ?_, ?_, ?_, ?_, ?_, ?_, ?_, ?_, G.lo, G.hi⟩
  · unfold rg; rw [if_neg (by omega), if_pos rfl]; omega
  · unfold rg; rw [if_pos rfl]
  · intro j j1 j2
    have := g5 j j1 (by omega) (by omega); omega
  · intro j j1 j2
    unfold rg; rw [if_neg (by omega), if_neg (by omega), if_pos lt, if_neg (by omega), if_pos (by omega)]
  · intro j j1 j2
    have := g5 j (by omega) j2 (by omega); omega
  · intro j j1 j2
    unfold rg; rw [if_neg (by omega), if_neg (by omega), if_pos lt, if_neg (by omega), if_neg (by omega)]
  · intro j j1 j2
    have := g2.ge j j1 j2; omega
  · intro j j1 j2
    unfold rg; rw [if_neg (by omega), if_neg (by omega), if_pos lt, if_pos (by omega)]
  · intro j j1
    unfold rg; rw [if_neg (by omega), if_neg (by omega), if_pos lt, if_neg (by omega), if_neg (by omega)]

theorem rotB {x : Nat → Int} {n one other f l : Nat} (h : Sh x 0 0 n) (P : Par x n one other) (S : Span x n one f l) (lt : one < other) :
    Rot n (rg x one other f l) x f one other l (x one) := by
  have G := h.seg S
  obtain ⟨b1, b2⟩ := P.span S
  have S1 := S.fs; have S2 := S.sl; have S3 := S.ln; have S4 := S.deep
  have e := P.1
  obtain ⟨_, g1, g2, _⟩ := G.sh.root S1 S2 (Int.le_refl _)
  obtain ⟨_, g3, g4, g5⟩ := g2.root (s := other) (by omega) b2 (by omega)
  have nl : ¬ other < one := by omega
  have out : ∀ j, j < f ∨ l ≤ j → rg x one other f l j = x j := by
    intro j j1
    unfold rg; rw [if_neg (by omega), if_neg (by omega), if_neg nl, if_neg (by omega), if_neg (by omega)]
  refine ⟨S1, lt, b2, S3, ?_, ?_, rfl, e, ?_, ?_, ?_, ?_, ?_, ?_, ?_, ?_, ?_⟩
  · unfold rg; rw [if_neg (by omega), if_pos rfl]; omega
  · unfold rg; rw [if_pos rfl]
  · intro j j1 j2
    unfold rg; rw [if_neg (by omega), if_neg (by omega), if_neg nl, if_pos (by omega)]
    have := g1.ge j j1 j2; omega
  · intro j j1 j2
    unfold rg; rw [if_neg (by omega), if_neg (by omega), if_neg nl, if_pos (by omega)]; omega
  · intro j j1 j2
    unfold rg; rw [if_neg (by omega), if_neg (by omega), if_neg nl, if_neg (by omega), if_neg (by omega)]
    have := g5 j (by omega) (by omega) (by omega); omega
  · intro j j1 j2
    unfold rg; rw [if_neg (by omega), if_neg (by omega), if_neg nl, if_neg (by omega), if_neg (by omega)]
  · intro j j1 j2
    unfold rg; rw [if_neg (by omega), if_neg (by omega), if_neg nl, if_neg (by omega), if_pos (by omega)]
    have := g5 j (by omega) j2 (by omega); omega
  · intro j j1 j2
    unfold rg; rw [if_neg (by omega), if_neg (by omega), if_neg nl, if_neg (by omega), if_pos (by omega)]; omega
  · intro j j1
    exact (out j j1).symm
  · have := G.lo
    by_cases z : f = 0
    · exact .inl z
    · right; rw [out (f - 1) (by omega)]; omega
  · have := G.hi
    by_cases z : l = n
    · exact .inl z
    · right; rw [out l (by omega)]; omega

/-- what a regrouping leads to -/
structure Led (x y : Nat → Int) (n one other f l : Nat) : Prop where
  sh : Sh y 0 0 n
  par : Par y n other one
  span : Span y n other f l
  back : ∀ j, rg y other one f l j = x j
  stay : ∀ s a b, s ≠ one → s ≠ other → Span x n s a b → Span y n s a b

theorem rg_back {x : Nat → Int} {one other f l : Nat} (ne : one ≠ other) (j : Nat) (h1 : f ≤ one) (h2 : one < l) (h3 : f ≤ other) (h4 : other < l) : rg (rg x one other f l) other one f l j = x j := by
  unfold rg
  by_cases a : j = one
  · subst a
    rw [if_neg (by omega), if_pos rfl, if_pos rfl]; omega
  · by_cases b : j = other
    · subst b
      rw [if_pos rfl, if_neg (by omega), if_pos rfl]; omega
    · rw [if_neg b, if_neg a, if_neg a, if_neg b]
      by_cases c : other < one
      · rw [if_neg (by omega : ¬ one < other), if_pos c]
        by_cases d : one < j ∧ j < l
        · rw [if_pos d, if_neg (by omega), if_pos d]; omega
        · rw [if_neg d]
          by_cases e : f ≤ j ∧ j < other
          · rw [if_pos e, if_pos e]; omega
          · rw [if_neg e, if_neg e, if_neg d]
      · rw [if_pos (by omega : one < other), if_neg c]
        by_cases d : f ≤ j ∧ j < one
        · rw [if_pos d, if_neg (by omega), if_pos d]; omega
        · rw [if_neg d]
          by_cases e : other < j ∧ j < l
          · rw [if_pos e, if_pos e]; omega
          · rw [if_neg e, if_neg e, if_neg d]

theorem led {x : Nat → Int} {n one other f l : Nat} (h : Sh x 0 0 n) (P : Par x n one other) (S : Span x n one f l) : Led x (rg x one other f l) n one other f l := by
  obtain ⟨b1, b2⟩ := P.span S
  have ne := P.lt.2.2
  have S1 := S.fs; have S2 := S.sl
  rcases Nat.lt_or_gt_of_ne ne with lt | lt
  · have R := rotB h P S lt
    refine ⟨R.shBack h, ⟨?_, f, l, R.spanQ, by omega, by omega⟩, R.spanQ, fun j => rg_back ne j S1 S2 b1 b2, fun s a b n1 n2 q => ?_⟩
    · rw [R.xp, R.xq]
    · exact R.spansBack (R.shBack h) n1 n2 q
  · have R := rotA h P S lt
    refine ⟨R.sh h, ⟨?_, f, l, R.spanP, by omega, by omega⟩, R.spanP, fun j => rg_back ne j S1 S2 b1 b2, fun s a b n1 n2 q => R.spans n2 n1 q⟩
    rw [R.yp, R.yq]

theorem Par.notOver {x : Nat → Int} {n p i f l : Nat} (h : Par x n p i) (S : Span x n i f l) : ¬ (f ≤ p ∧ p < l) := by
  intro z
  have := S.deep p z.1 z.2 h.lt.2.2
  have := h.1
  omega

/-- the pair of a seam and another one that is one deeper and within its phrase -/
theorem par_iff {x : Nat → Int} {n p i f l : Nat} (S : Span x n p f l) : Par x n p i ↔ (x i = x p + 1 ∧ f ≤ i ∧ i < l) :=
  ⟨fun h => ⟨h.1, h.span S⟩, fun h => ⟨h.1, f, l, S, h.2⟩⟩

/-! ### the deepest seam left out -/
def del {α : Type} (x : Nat → α) (a : Nat) : Nat → α := fun i => if i < a then x i else x (i + 1)

theorem Sh.del {x : Nat → Int} {d : Int} {f l : Nat} (h : Sh x d f l) : ∀ a, f ≤ a → a < l → (∀ j, f ≤ j → j < l → x j ≤ x a) → Sh (del x a) d f (l - 1) := by
  induction h with
  | nil d f => intro a a1 a2; omega
  | @node d f l r h1 h2 h3 h4 h5 i1 i2 =>
    intro a a1 a2 mx
    by_cases e : a = r
    · subst e
      have e1 : f = a := by
        by_cases z : f < a
        · have := h4.ge f (Nat.le_refl _) z; have := mx f (by omega) (by omega); omega
        · omega
      have e2 : l = a + 1 := by
        by_cases z : a + 1 < l
        · have := h5.ge (a + 1) (Nat.le_refl _) z; have := mx (a + 1) (by omega) (by omega); omega
        · omega
      subst e1; subst e2
      exact .nil _ _
    · by_cases e1 : a < r
      · have A := i1 a a1 e1 fun j j1 j2 => mx j j1 (by omega)
        have B : Sh (Hs.del x a) (d + 1) r (l - 1) := h5.left r rfl fun j j1 j2 => by
          unfold Hs.del; rw [if_neg (by omega)]
        refine .node (r - 1) (by omega) (by omega) ?_ A ?_
        · unfold Hs.del
          rw [if_neg (by omega)]
          have : r - 1 + 1 = r := by omega
          rw [this]; exact h3
        · have : r - 1 + 1 = r := by omega
          rw [this]; exact B
      · have A : Sh (Hs.del x a) (d + 1) f r := h4.congr fun j j1 j2 => by
          unfold Hs.del; rw [if_pos (by omega)]
        have B := i2 a (by omega) a2 fun j j1 j2 => mx j (by omega) j2
        exact .node r h1 (by omega) (by unfold Hs.del; rw [if_pos (by omega)]; exact h3) A B

theorem Sh.near {x : Nat → Int} {d : Int} {f l : Nat} (h : Sh x d f l) : ∀ a, f ≤ a → a < l → (∀ j, f ≤ j → j < l → x j ≤ x a) → f + 2 ≤ l →
    ((f < a ∧ x (a - 1) = x a - 1) ∨ (a + 1 < l ∧ x (a + 1) = x a - 1)) ∧ (f < a → x (a - 1) ≤ x a - 1) ∧ (a + 1 < l → x (a + 1) ≤ x a - 1) := by
  induction h with
  | nil d f => intro a a1 a2; omega
  | @node d f l r h1 h2 h3 h4 h5 i1 i2 =>
    intro a a1 a2 mx len
    have r1 : f < r → d + 1 ≤ x f := fun z => h4.ge f (Nat.le_refl _) z
    have r2 : r + 1 < l → d + 1 ≤ x (r + 1) := fun z => h5.ge (r + 1) (Nat.le_refl _) z
    have ner : a ≠ r := by
      intro e
      subst e
      by_cases z : f < a
      · have := r1 z; have := mx f (by omega) (by omega); omega
      · have := r2 (by omega); have := mx (a + 1) (by omega) (by omega); omega
    by_cases e1 : a < r
    · have xa := h4.ge a a1 e1
      by_cases z : f + 2 ≤ r
      · obtain ⟨c1, c2, c3⟩ := i1 a a1 e1 (fun j j1 j2 => mx j j1 (by omega)) z
        refine ⟨?_, c2, fun w => ?_⟩
        · rcases c1 with c1 | c1
          · exact .inl c1
          · exact .inr ⟨by omega, c1.2⟩
        · by_cases v : a + 1 < r
          · exact c3 v
          · have : a + 1 = r := by omega
            rw [this]; omega
      · have e2 : a = f := by omega
        have e3 : f + 1 = r := by omega
        subst e2
        have xl := h4.lt a (Nat.le_refl _) (by omega)
        have xa1 : x a = d + 1 := by omega
        refine ⟨.inr ⟨by omega, by rw [e3]; omega⟩, fun w => by omega, fun w => by rw [e3]; omega⟩
    · have xa := h5.ge a (by omega) a2
      by_cases z : r + 1 + 2 ≤ l
      · obtain ⟨c1, c2, c3⟩ := i2 a (by omega) a2 (fun j j1 j2 => mx j (by omega) j2) z
        refine ⟨?_, fun w => ?_, c3⟩
        · rcases c1 with c1 | c1
          · exact .inl ⟨by omega, c1.2⟩
          · exact .inr c1
        · by_cases v : r + 1 < a
          · exact c2 v
          · have : a - 1 = r := by omega
            rw [this]; omega
      · have e2 : a = r + 1 := by omega
        have e3 : a - 1 = r := by omega
        have xl := h5.lt a (by omega) a2
        have xa1 : x a = d + 1 := by omega
        refine ⟨.inl ⟨by omega, by rw [e3]; omega⟩, fun w => by rw [e3]; omega, fun w => by omega⟩

/-! ### rows by their places -/
def seg {α : Type} (g : Nat → α) (a b : Nat) : List α := (List.range' a (b - a)).map g
def fset {α : Type} (g : Nat → α) (s : Nat) (v : α) : Nat → α := fun i => if i = s then v else g i

section
variable {α β : Type} {g h : Nat → α} {a b c : Nat}
theorem seg_len : (seg g a b).length = b - a := by unfold seg; rw [List.length_map, List.length_range']
theorem seg_get (i : Nat) (hi : i < b - a) : (seg g a b)[i]? = some (g (a + i)) := by
  unfold seg
  rw [List.getElem?_map, List.getElem?_range' hi]
  rw [Nat.one_mul]
  rfl
theorem seg_get_inv {i : Nat} {v : α} (e : (seg g a b)[i]? = some v) : i < b - a ∧ v = g (a + i) := by
  have hi := (List.getElem?_eq_some_iff.mp e).1
  rw [seg_len] at hi
  rw [seg_get i hi] at e
  exact ⟨hi, (Option.some.inj e).symm⟩
theorem seg_ext {xs : List α} (hl : xs.length = b - a) (he : ∀ i, i < b - a → xs[i]? = some (g (a + i))) : xs = seg g a b := by
  refine List.ext_getElem? fun i => ?_
  by_cases hi : i < b - a
  · rw [he i hi, seg_get i hi]
  · rw [List.getElem?_eq_none (by omega), List.getElem?_eq_none (by rw [seg_len]; omega)]
theorem seg_append (h1 : a ≤ b) (h2 : b ≤ c) : seg g a b ++ seg g b c = seg g a c := by
  refine seg_ext (by rw [List.length_append, seg_len, seg_len]; omega) fun i hi => ?_
  by_cases q : i < b - a
  · rw [List.getElem?_append_left (by rw [seg_len]; exact q), seg_get i q]
  · rw [List.getElem?_append_right (by rw [seg_len]; omega), seg_len, seg_get _ (by omega)]
    have : b + (i - (b - a)) = a + i := by omega
    rw [this]
theorem seg_one : [g a] = seg g a (a + 1) := by
  refine seg_ext (by simp) fun i hi => ?_
  have : i = 0 := by omega
  subst this
  rfl
theorem seg_nil (e : b ≤ a) : seg g a b = [] := by
  refine List.eq_nil_of_length_eq_zero ?_
  rw [seg_len]; omega
theorem seg_congr (e : ∀ j, a ≤ j → j < b → g j = h j) : seg g a b = seg h a b := by
  refine seg_ext seg_len fun i hi => ?_
  rw [seg_get i hi, e (a + i) (by omega) (by omega)]
theorem seg_map (f : α → β) : (seg g a b).map f = seg (fun i => f (g i)) a b := by
  unfold seg
  rw [List.map_map]
  rfl
theorem seg_set {i : Nat} {v : α} : (seg g 0 b).set i v = seg (fset g i v) 0 b := by
  refine seg_ext (by rw [List.length_set, seg_len]) fun j hj => ?_
  rw [List.getElem?_set, seg_len]
  unfold fset
  by_cases e : i = j
  · subst e
    rw [if_pos rfl, if_pos hj, if_pos (by omega)]
  · rw [if_neg e, seg_get j hj, if_neg (by omega)]
theorem seg_rep {v : α} {n : Nat} : List.replicate n v = seg (fun _ => v) 0 n := by
  refine seg_ext (by rw [List.length_replicate]; omega) fun i hi => ?_
  rw [List.getElem?_replicate, if_pos (by omega)]
theorem seg_of (xs : List α) (d : α) : xs = seg (fun i => xs.getD i d) 0 xs.length := by
  refine seg_ext (by omega) fun i hi => ?_
  rw [Nat.zero_add]
  rw [List.getD_eq_getElem?_getD, List.getElem?_eq_getElem (by omega)]
  rfl
theorem seg_take {k : Nat} (hk : a + k ≤ b) : (seg g a b).take k = seg g a (a + k) := by
  refine seg_ext (by rw [List.length_take, seg_len]; omega) fun i hi => ?_
  rw [List.getElem?_take, if_pos (by omega), seg_get _ (by omega)]
theorem seg_drop {k : Nat} : (seg g a b).drop k = seg g (a + k) b := by
  refine seg_ext (by rw [List.length_drop, seg_len]; omega) fun i hi => ?_
  rw [List.getElem?_drop, seg_get _ (by omega)]
  have : a + (k + i) = a + k + i := by omega
  rw [this]
theorem seg_del (ha : a < b) : seg g 0 a ++ seg g (a + 1) b = seg (del g a) 0 (b - 1) := by
  refine seg_ext (by rw [List.length_append, seg_len, seg_len]; omega) fun i hi => ?_
  unfold del
  by_cases q : i < a
  · rw [List.getElem?_append_left (by rw [seg_len]; omega), seg_get i (by omega), if_pos (by omega)]
  · rw [List.getElem?_append_right (by rw [seg_len]; omega), seg_len, seg_get _ (by omega), if_neg (by omega)]
    have : a + 1 + (i - (a - 0)) = 0 + i + 1 := by omega
    rw [this]
theorem seg_mem {v : α} (hv : v ∈ seg g a b) : ∃ i, a ≤ i ∧ i < b ∧ v = g i := by
  obtain ⟨i, hi⟩ := List.mem_iff_getElem?.mp hv
  obtain ⟨h1, h2⟩ := seg_get_inv hi
  exact ⟨a + i, by omega, by omega, h2⟩
end

/-! ### the law's own putting together -/
/-- the parts as the law reckons them -/
def dueA (x : Nat → Int) (n one other f l : Nat) : List Int :=
  seg x 0 f ++ ((((seg x f other).map (· + -1) ++ [x one]) ++ seg x (other + 1) one ++ [x one + 1]) ++ (seg x (one + 1) l).map (· + 1)) ++ seg x l n
def dueB (x : Nat → Int) (n one other f l : Nat) : List Int :=
  seg x 0 f ++ ((((seg x f one).map (· + 1) ++ [x one + 1]) ++ seg x (one + 1) other ++ [x one]) ++ (seg x (other + 1) l).map (· + -1)) ++ seg x l n

theorem dueA_eq {x : Nat → Int} {n one other f l : Nat} (e : x other = x one + 1) (h1 : f ≤ other) (h2 : other < one) (h3 : one < l) (h4 : l ≤ n) : dueA x n one other f l = seg (rg x one other f l) 0 n := by
  have c0 : seg x 0 f = seg (rg x one other f l) 0 f := seg_congr fun j a b => by
    unfold rg; rw [if_neg (by omega), if_neg (by omega), if_pos h2, if_neg (by omega), if_neg (by omega)]
  have c1 : (seg x f other).map (· + -1) = seg (rg x one other f l) f other := by
    rw [seg_map]
    exact seg_congr fun j a b => by
      unfold rg; rw [if_neg (by omega), if_neg (by omega), if_pos h2, if_neg (by omega), if_pos (by omega)]; omega
  have c2 : [x one] = seg (rg x one other f l) other (other + 1) := by
    rw [← seg_one]
    unfold rg; rw [if_neg (by omega), if_pos rfl, e]
    congr 1; omega
  have c3 : seg x (other + 1) one = seg (rg x one other f l) (other + 1) one := seg_congr fun j a b => by
    unfold rg; rw [if_neg (by omega), if_neg (by omega), if_pos h2, if_neg (by omega), if_neg (by omega)]
  have c4 : [x one + 1] = seg (rg x one other f l) one (one + 1) := by
    rw [← seg_one]
    unfold rg; rw [if_pos rfl]
  have c5 : (seg x (one + 1) l).map (· + 1) = seg (rg x one other f l) (one + 1) l := by
    rw [seg_map]
    exact seg_congr fun j a b => by
      unfold rg; rw [if_neg (by omega), if_neg (by omega), if_pos h2, if_pos (by omega)]
  have c6 : seg x l n = seg (rg x one other f l) l n := seg_congr fun j a b => by
    unfold rg; rw [if_neg (by omega), if_neg (by omega), if_pos h2, if_neg (by omega), if_neg (by omega)]
  unfold dueA
  rw [c0, c1, c2, c3, c4, c5, c6]
  rw [seg_append (by omega) (by omega), seg_append (by omega) (by omega), seg_append (by omega) (by omega), seg_append (by omega) (by omega), seg_append (by omega) (by omega), seg_append (by omega) (by omega)]

theorem dueB_eq {x : Nat → Int} {n one other f l : Nat} (e : x other = x one + 1) (h1 : f ≤ one) (h2 : one < other) (h3 : other < l) (h4 : l ≤ n) : dueB x n one other f l = seg (rg x one other f l) 0 n := by
  have nl : ¬ other < one := by omega
  have c0 : seg x 0 f = seg (rg x one other f l) 0 f := seg_congr fun j a b => by
    unfold rg; rw [if_neg (by omega), if_neg (by omega), if_neg nl, if_neg (by omega), if_neg (by omega)]
  have c1 : (seg x f one).map (· + 1) = seg (rg x one other f l) f one := by
    rw [seg_map]
    exact seg_congr fun j a b => by
      unfold rg; rw [if_neg (by omega), if_neg (by omega), if_neg nl, if_pos (by omega)]
  have c2 : [x one + 1] = seg (rg x one other f l) one (one + 1) := by
    rw [← seg_one]
    unfold rg; rw [if_pos rfl]
  have c3 : seg x (one + 1) other = seg (rg x one other f l) (one + 1) other := seg_congr fun j a b => by
    unfold rg; rw [if_neg (by omega), if_neg (by omega), if_neg nl, if_neg (by omega), if_neg (by omega)]
  have c4 : [x one] = seg (rg x one other f l) other (other + 1) := by
    rw [← seg_one]
    unfold rg; rw [if_neg (by omega), if_pos rfl, e]
    congr 1; omega
  have c5 : (seg x (other + 1) l).map (· + -1) = seg (rg x one other f l) (other + 1) l := by
    rw [seg_map]
    exact seg_congr fun j a b => by
      unfold rg; rw [if_neg (by omega), if_neg (by omega), if_neg nl, if_neg (by omega), if_pos (by omega)]; omega
  have c6 : seg x l n = seg (rg x one other f l) l n := seg_congr fun j a b => by
    unfold rg; rw [if_neg (by omega), if_neg (by omega), if_neg nl, if_neg (by omega), if_neg (by omega)]
  unfold dueB
  rw [c0, c1, c2, c3, c4, c5, c6]
  rw [seg_append (by omega) (by omega), seg_append (by omega) (by omega), seg_append (by omega) (by omega), seg_append (by omega) (by omega), seg_append (by omega) (by omega), seg_append (by omega) (by omega)]

/-! ### the two piles -/
structure It where
  f : Nat
  l : Nat
  d : Int
  a : Option Nat
def It.has (i : It) (k : Nat) : Prop := i.f ≤ k ∧ k < i.l
def It.size (i : It) : Nat := 2 * (i.l - i.f) + 1
def sizes (W : List It) : Nat := (W.map It.size).sum
theorem sizes_app (W V : List It) : sizes (W ++ V) = sizes W + sizes V := by unfold sizes; rw [List.map_append, List.sum_append]
theorem sizes_one (i : It) : sizes [i] = 2 * (i.l - i.f) + 1 := by unfold sizes It.size; simp
theorem sizes_two (i j : It) : sizes [i, j] = 2 * (i.l - i.f) + 1 + (2 * (j.l - j.f) + 1) := by unfold sizes It.size; simp
theorem sizes_zero {W : List It} (h : sizes W = 0) : W = [] := by
  cases W with
  | nil => rfl
  | cons i W => unfold sizes It.size at h; simp at h

/-- what the law's pile holds: whatever phrases come in the waiting places, it is a shape -/
structure LInv (n : Nat) (W : List It) (g : Nat → Int) : Prop where
  pw : W.Pairwise fun i j => i.l ≤ j.f
  ok : ∀ i, i ∈ W → i.f ≤ i.l ∧ i.l ≤ n
  sh : ∀ y : Nat → Int, (∀ k, k < n → (∀ i, i ∈ W → ¬ i.has k) → y k = g k) → (∀ i, i ∈ W → Sh y i.d i.f i.l) → Sh y 0 0 n

theorem LInv.start (n : Nat) (g : Nat → Int) : LInv n [⟨0, n, 0, none⟩] g :=
  ⟨List.pairwise_singleton _ _, fun i h => by
    rw [List.mem_singleton] at h; subst h; exact ⟨Nat.zero_le _, Nat.le_refl _⟩, fun y _ h => h _ (List.mem_singleton.mpr rfl)⟩

theorem LInv.drop {n : Nat} {W : List It} {i : It} {g : Nat → Int} (I : LInv n (W ++ [i]) g) (h : ¬ i.f < i.l) : LInv n W g := by
  obtain ⟨pw, ok, sh⟩ := I
  refine ⟨(List.pairwise_append.mp pw).1, fun j hj => ok j (List.mem_append_left _ hj), fun y h1 h2 => sh y (fun k hk hn => h1 k hk fun j hj => hn j (List.mem_append_left _ hj)) fun j hj => ?_⟩
  rcases List.mem_append.mp hj with hj | hj
  · exact h2 j hj
  · rw [List.mem_singleton] at hj
    subst hj
    have := (ok j (List.mem_append_right _ (List.mem_singleton.mpr rfl))).1
    have e : j.l = j.f := by omega
    rw [e]
    exact .nil _ _

theorem LInv.turn {n : Nat} {W : List It} {i : It} {g : Nat → Int} (I : LInv n (W ++ [i]) g) (s : Nat) (h1 : i.f ≤ s) (h2 : s < i.l) (a b : Option Nat) :
    LInv n (W ++ [⟨i.f, s, i.d + 1, a⟩, ⟨s + 1, i.l, i.d + 1, b⟩]) (fset g s i.d) := by
  obtain ⟨pw, ok, sh⟩ := I
  have pw' := List.pairwise_append.mp pw
  have oi := ok i (List.mem_append_right _ (List.mem_singleton.mpr rfl))
  have wi : ∀ j, j ∈ W → j.l ≤ i.f := fun j hj => pw'.2.2 j hj i (List.mem_singleton.mpr rfl)
  refine ⟨List.pairwise_append.mpr ⟨pw'.1, ?_, ?_⟩, ?_, ?_⟩
  · rw [List.pairwise_cons]
    refine ⟨fun j hj => ?_, List.pairwise_singleton _ _⟩
    rw [List.mem_singleton] at hj; subst hj
    show s ≤ s + 1
    omega
  · intro j hj k hk
    have := wi j hj
    rw [List.mem_cons, List.mem_singleton] at hk
    rcases hk with hk | hk
    · subst hk; exact this
    · subst hk
      show j.l ≤ s + 1
      omega
  · intro j hj
    rcases List.mem_append.mp hj with hj | hj
    · exact ok j (List.mem_append_left _ hj)
    · rw [List.mem_cons, List.mem_singleton] at hj
      rcases hj with hj | hj
      · subst hj
        show i.f ≤ s ∧ s ≤ n
        omega
      · subst hj
        show s + 1 ≤ i.l ∧ i.l ≤ n
        omega
  · intro y y1 y2
    have ys : y s = i.d := by
      have := y1 s (by omega) fun j hj => by
        rcases List.mem_append.mp hj with hj | hj
        · have := wi j hj
          unfold It.has; omega
        · rw [List.mem_cons, List.mem_singleton] at hj
          rcases hj with hj | hj
          · subst hj
            show ¬ (i.f ≤ s ∧ s < s)
            omega
          · subst hj
            show ¬ (s + 1 ≤ s ∧ s < i.l)
            omega
      rw [this]; unfold fset; rw [if_pos rfl]
    refine sh y (fun k hk hn => ?_) fun j hj => ?_
    · have ni := hn i (List.mem_append_right _ (List.mem_singleton.mpr rfl))
      unfold It.has at ni
      rw [y1 k hk fun j hj => ?_]
      · unfold fset; rw [if_neg (by omega)]
      · rcases List.mem_append.mp hj with hj | hj
        · exact hn j (List.mem_append_left _ hj)
        · rw [List.mem_cons, List.mem_singleton] at hj
          rcases hj with hj | hj
          · subst hj
            show ¬ (i.f ≤ k ∧ k < s)
            omega
          · subst hj
            show ¬ (s + 1 ≤ k ∧ k < i.l)
            omega
    · rcases List.mem_append.mp hj with hj | hj
      · exact y2 j (List.mem_append_left _ hj)
      · rw [List.mem_singleton] at hj
        subst hj
        refine .node s h1 h2 ys (y2 ⟨j.f, s, j.d + 1, a⟩ (List.mem_append_right _ ?_)) (y2 ⟨s + 1, j.l, j.d + 1, b⟩ (List.mem_append_right _ ?_))
        · exact List.mem_cons_self
        · exact List.mem_cons_of_mem _ (List.mem_singleton.mpr rfl)

theorem LInv.done {n : Nat} {g : Nat → Int} (I : LInv n [] g) : Sh g 0 0 n :=
  I.sh g (fun _ _ _ => rfl) fun i h => by cases h

/-- what the program's pile holds -/
def AbOk (x : Nat → Int) (n : Nat) (i : It) : Prop :=
  (i.a = none ∧ i.d = 0) ∨ ∃ p, i.a = some p ∧ i.d = x p + 1 ∧ ∃ f l, Span x n p f l ∧ f ≤ i.f ∧ i.l ≤ l
def Done (x : Nat → Int) (n : Nat) (F L A : Nat → Option Nat) (k : Nat) : Prop :=
  ∃ f l, Span x n k f l ∧ F k = some f ∧ L k = some l ∧ ((A k = none ∧ x k = 0) ∨ ∃ p, A k = some p ∧ Par x n p k)
structure JInv (x : Nat → Int) (n : Nat) (W : List It) (F L A : Nat → Option Nat) : Prop where
  ok : ∀ i, i ∈ W → Seg x n i.d i.f i.l ∧ AbOk x n i
  done : ∀ k, k < n → (∀ i, i ∈ W → ¬ i.has k) → Done x n F L A k

section
variable {x : Nat → Int} {n : Nat} {W : List It} {i : It} {F L A : Nat → Option Nat}
theorem JInv.start (h : Sh x 0 0 n) : JInv x n [⟨0, n, 0, none⟩] F L A :=
  ⟨fun i hi => by
    rw [List.mem_singleton] at hi; subst hi
    exact ⟨⟨h, Nat.le_refl _, .inl rfl, .inl rfl⟩, .inl ⟨rfl, rfl⟩⟩, fun k hk hn => absurd ⟨Nat.zero_le _, hk⟩ (hn _ (List.mem_singleton.mpr rfl))⟩

theorem JInv.drop (I : JInv x n (W ++ [i]) F L A) (h : ¬ i.f < i.l) : JInv x n W F L A :=
  ⟨fun j hj => I.ok j (List.mem_append_left _ hj), fun k hk hn => I.done k hk fun j hj => by
    rcases List.mem_append.mp hj with hj | hj
    · exact hn j hj
    · rw [List.mem_singleton] at hj; subst hj
      unfold It.has; omega⟩

/-- the one seam that is no deeper than the depth -/
theorem JInv.root (I : JInv x n (W ++ [i]) F L A) (h : i.f < i.l) : ∃ s, i.f ≤ s ∧ s < i.l ∧ i.l ≤ n ∧ x s = i.d ∧ ∀ j, i.f ≤ j → j < i.l → j ≠ s → i.d < x j := by
  have G := (I.ok i (List.mem_append_right _ (List.mem_singleton.mpr rfl))).1
  obtain ⟨s, a, b, c, _⟩ := G.sh.inv h
  exact ⟨s, a, b, G.ln, c, (G.sh.root a b (by omega)).2.2.2⟩

theorem JInv.turn (I : JInv x n (W ++ [i]) F L A) {s : Nat} (h1 : i.f ≤ s) (h2 : s < i.l) (h3 : x s = i.d) :
    JInv x n (W ++ [⟨i.f, s, i.d + 1, some s⟩, ⟨s + 1, i.l, i.d + 1, some s⟩]) (fset F s (some i.f)) (fset L s (some i.l)) (fset A s i.a) := by
  obtain ⟨G, B⟩ := I.ok i (List.mem_append_right _ (List.mem_singleton.mpr rfl))
  obtain ⟨p1, p2, p3, _⟩ := G.parts h1 h2 (by omega)
  refine ⟨fun j hj => ?_, fun k hk hn => ?_⟩
  · rcases List.mem_append.mp hj with hj | hj
    · exact I.ok j (List.mem_append_left _ hj)
    · rw [List.mem_cons, List.mem_singleton] at hj
      rcases hj with hj | hj
      · subst hj
        exact ⟨p2, .inr ⟨s, rfl, by show i.d + 1 = x s + 1; omega, i.f, i.l, p1, Nat.le_refl _, by show s ≤ i.l; omega⟩⟩
      · subst hj
        exact ⟨p3, .inr ⟨s, rfl, by show i.d + 1 = x s + 1; omega, i.f, i.l, p1, by show i.f ≤ s + 1; omega, Nat.le_refl _⟩⟩
  · by_cases e : k = s
    · subst e
      refine ⟨i.f, i.l, p1, by unfold fset; rw [if_pos rfl], by unfold fset; rw [if_pos rfl], ?_⟩
      rcases B with ⟨b1, b2⟩ | ⟨p, b1, b2, f, l, b3, b4, b5⟩
      · exact .inl ⟨by unfold fset; rw [if_pos rfl]; exact b1, by omega⟩
      · exact .inr ⟨p, by unfold fset; rw [if_pos rfl]; exact b1, by omega, f, l, b3, by omega, by omega⟩
    · obtain ⟨f, l, c1, c2, c3, c4⟩ := I.done k hk fun j hj => by
        rcases List.mem_append.mp hj with hj | hj
        · exact hn j (List.mem_append_left _ hj)
        · rw [List.mem_singleton] at hj; subst hj
          have n1 := hn ⟨j.f, s, j.d + 1, some s⟩ (List.mem_append_right _ List.mem_cons_self)
          have n2 := hn ⟨s + 1, j.l, j.d + 1, some s⟩ (List.mem_append_right _ (List.mem_cons_of_mem _ (List.mem_singleton.mpr rfl)))
          have m1 : ¬ (j.f ≤ k ∧ k < s) := n1
          have m2 : ¬ (s + 1 ≤ k ∧ k < j.l) := n2
          unfold It.has; omega
      refine ⟨f, l, c1, by unfold fset; rw [if_neg e]; exact c2, by unfold fset; rw [if_neg e]; exact c3, ?_⟩
      unfold fset; rw [if_neg e]; exact c4

theorem JInv.end (I : JInv x n [] F L A) : ∀ k, k < n → Done x n F L A k := fun k hk => I.done k hk fun i h => by cases h
end

/-- the step's seam stands above -/
theorem Done.par {x : Nat → Int} {n : Nat} {F L A : Nat → Option Nat} {p k : Nat} (h : Sh x 0 0 n) (D : Done x n F L A k) (P : Par x n p k) : A k = some p := by
  obtain ⟨f, l, a, _, _, b⟩ := D
  rcases b with ⟨b1, b2⟩ | ⟨q, b1, b2⟩
  · exfalso
    obtain ⟨e, f', l', c, _⟩ := P
    have hp := h.ge p (Nat.zero_le _) (by have := c.sl; have := c.ln; omega)
    omega
  · rw [b1, b2.uniq h P]

end Hs
/-! The text by places, its scopes, what the walk asks of the top. -/
namespace Hs
open PySem L2
def top (i : Nat) : Stmt := PySem.Challenge.pw_heardseams_k10_whole_shapes_regrouped.main.body.getD i (.Pass ⟨0, 0, 0, 0⟩)
abbrev sIsInt : Stmt := top 6
abbrev sBetween : Stmt := top 7
abbrev sIndex : Stmt := top 8
abbrev sFair : Stmt := top 12
abbrev sIsShape : Stmt := top 13
abbrev sCheck : Stmt := top 14
abbrev sSteps : Stmt := top 15
abbrev sRegs : Stmt := top 16
abbrev sRegBy : Stmt := top 17
abbrev sIsStep : Stmt := top 18
abbrev sReg : Stmt := top 19
abbrev sDice : Stmt := top 21
abbrev sDraw : Stmt := top 22
abbrev sDrawn : Stmt := top 23
abbrev sMany : Stmt := top 24
abbrev sLInt : Stmt := top 25
abbrev sLShape : Stmt := top 26
abbrev sLSpan : Stmt := top 27
abbrev sLOver : Stmt := top 28
abbrev sLStands : Stmt := top 29
abbrev sLDeeper : Stmt := top 30
abbrev sLDue : Stmt := top 31
abbrev sLStay : Stmt := top 32
abbrev sLaw : Stmt := top 33
abbrev sInit : Stmt := inClass (top 11) 0
theorem scIsInt : FnScope ["thing"] ["thing"] (defScope sIsInt) := ⟨rfl, rfl, rfl, by decide +kernel, rfl, by decide +kernel, by decide +kernel⟩
theorem scBetween : FnScope ["thing", "least", "most"] ["thing", "least", "most"] (defScope sBetween) := ⟨rfl, rfl, rfl, by decide +kernel, rfl, by decide +kernel, by decide +kernel⟩
theorem scIndex : FnScope ["thing", "many"] ["thing", "many"] (defScope sIndex) := ⟨rfl, rfl, rfl, by decide +kernel, rfl, by decide +kernel, by decide +kernel⟩
theorem scFair : FnScope ["thing", "depth"] ["thing"] (defScope sFair) := ⟨rfl, rfl, rfl, by decide +kernel, rfl, by decide +kernel, by decide +kernel⟩
theorem scIsShape : FnScope ["thing"] ["thing"] (defScope sIsShape) := ⟨rfl, rfl, rfl, by decide +kernel, rfl, by decide +kernel, by decide +kernel⟩
theorem scCheck : FnScope ["thing"] ["thing"] (defScope sCheck) := ⟨rfl, rfl, rfl, by decide +kernel, rfl, by decide +kernel, by decide +kernel⟩
theorem scSteps : FnScope ["shape", "above", "other", "one"] ["shape"] (defScope sSteps) := ⟨rfl, rfl, rfl, by decide +kernel, rfl, by decide +kernel, by decide +kernel⟩
theorem scRegs : FnScope ["shape"] ["shape"] (defScope sRegs) := ⟨rfl, rfl, rfl, by decide +kernel, rfl, by decide +kernel, by decide +kernel⟩
theorem scRegBy : FnScope ["shape", "one", "other", "joinings", "found", "first", "last", "outer", "inner", "seam"] ["shape", "one", "other"] (defScope sRegBy) := ⟨rfl, rfl, rfl, by decide +kernel, rfl, by decide +kernel, by decide +kernel⟩
theorem scIsStep : FnScope ["shape", "one", "other"] ["shape", "one", "other"] (defScope sIsStep) := ⟨rfl, rfl, rfl, by decide +kernel, rfl, by decide +kernel, by decide +kernel⟩
theorem scReg : FnScope ["shape", "one", "other"] ["shape", "one", "other"] (defScope sReg) := ⟨rfl, rfl, rfl, by decide +kernel, rfl, by decide +kernel, by decide +kernel⟩
theorem scDice : FnScope ["_law_script", "_law_cell"] ["_law_script"] (defScope sDice) := ⟨rfl, rfl, rfl, by decide +kernel, rfl, by decide +kernel, by decide +kernel⟩
theorem scDraw : FnScope ["_law_dice_here", "_law_sides", "_law_cell", "_law_digit", "_law_mixed"] ["_law_dice_here", "_law_sides"] (defScope sDraw) := ⟨rfl, rfl, rfl, by decide +kernel, rfl, by decide +kernel, by decide +kernel⟩
theorem scDrawn : FnScope ["_law_dice_here", "_law_words", "_law_way", "_law_found", "_law_waiting", "_law_turn", "_law_first", "_law_last", "_law_depth", "_law_many_here", "_law_step", "_law_seam"] ["_law_dice_here", "_law_words"] (defScope sDrawn) := ⟨rfl, rfl, rfl, by decide +kernel, rfl, by decide +kernel, by decide +kernel⟩
theorem scMany : FnScope ["_law_dice_here", "_law_most"] ["_law_dice_here", "_law_most"] (defScope sMany) := ⟨rfl, rfl, rfl, by decide +kernel, rfl, by decide +kernel, by decide +kernel⟩
theorem scLInt : FnScope ["_law_thing"] ["_law_thing"] (defScope sLInt) := ⟨rfl, rfl, rfl, by decide +kernel, rfl, by decide +kernel, by decide +kernel⟩
theorem scLShape : FnScope ["_law_thing", "_law_left", "_law_turn", "_law_at", "_law_near", "_law_depth"] ["_law_thing"] (defScope sLShape) := ⟨rfl, rfl, rfl, by decide +kernel, rfl, by decide +kernel, by decide +kernel⟩
theorem scLSpan : FnScope ["_law_shape_here", "_law_seam", "_law_first", "_law_k", "_law_last"] ["_law_shape_here", "_law_seam"] (defScope sLSpan) := ⟨rfl, rfl, rfl, by decide +kernel, rfl, by decide +kernel, by decide +kernel⟩
theorem scLOver : FnScope ["_law_shape_here", "_law_one", "_law_other", "_law_first", "_law_last"] ["_law_shape_here", "_law_one", "_law_other"] (defScope sLOver) := ⟨rfl, rfl, rfl, by decide +kernel, rfl, by decide +kernel, by decide +kernel⟩
theorem scLStands : FnScope ["_law_shape_here", "_law_one", "_law_other"] ["_law_shape_here", "_law_one", "_law_other"] (defScope sLStands) := ⟨rfl, rfl, rfl, by decide +kernel, rfl, by decide +kernel, by decide +kernel⟩
theorem scLDeeper : FnScope ["_law_part", "_law_many_here", "_law_depth"] ["_law_part", "_law_many_here"] (defScope sLDeeper) := ⟨rfl, rfl, rfl, by decide +kernel, rfl, by decide +kernel, by decide +kernel⟩
theorem scLDue : FnScope ["_law_shape_here", "_law_one", "_law_other", "_law_first", "_law_last", "_law_deep", "_law_low", "_law_high", "_law_a", "_law_b", "_law_c", "_law_whole", "_law_depth"] ["_law_shape_here", "_law_one", "_law_other"] (defScope sLDue) := ⟨rfl, rfl, rfl, by decide +kernel, rfl, by decide +kernel, by decide +kernel⟩
theorem scLStay : FnScope ["_law_shape_here", "_law_there", "_law_one", "_law_other", "_law_seam"] ["_law_shape_here", "_law_there", "_law_one", "_law_other"] (defScope sLStay) := ⟨rfl, rfl, rfl, by decide +kernel, rfl, by decide +kernel, by decide +kernel⟩
theorem scLaw : FnScope ["_law_script", "_law_dice_here", "_law_shape_here", "_law_pairs", "_law_one", "_law_other", "_law_there"] ["_law_script"] (defScope sLaw) := ⟨rfl, rfl, rfl, by decide +kernel, rfl, by decide +kernel, by decide +kernel⟩
theorem scInit : FnScope ["self", "shape", "waiting", "first", "last", "depth", "above", "seam", "seams"] ["self", "shape"] (defScope sInit) := ⟨rfl, rfl, rfl, by decide +kernel, rfl, by decide +kernel, by decide +kernel⟩
/-- a def as the top has left it -/
def Has (K : PySem.W.Frag) (mg : Str → Option Value) (x qual : Str) (st : Stmt) (ps : List Str) : Prop := ∃ (f : Addr) (fd : FuncData), mg x = some (.ref f) ∧ Fun K x qual st f fd ∧ Binds K fd ps []
structure Txt (K : PySem.W.Frag) (mg : Str → Option Value) (C : Addr) : Prop where
  m_isinstance : mg "isinstance" = none
  m_int : mg "int" = none
  m_bool : mg "bool" = none
  m_len : mg "len" = none
  m_range : mg "range" = none
  m_tuple : mg "tuple" = none
  m_all : mg "all" = none
  m_sorted : mg "sorted" = none
  m_enumerate : mg "enumerate" = none
  m_list : mg "list" = none
  m_min : mg "min" = none
  m_max : mg "max" = none
  m_abs : mg "abs" = none
  mMost : ∃ t : Tok, mg "MOST_WORDS" = some (.int 40 t)
  cl : Cls K C
  n_first : NoAttr K C "first"
  n_last : NoAttr K C "last"
  n_above : NoAttr K C "above"
  n_fair : NoAttr K C "fair"
  mgC : mg "Joinings" = some (.ref C)
  init : ∃ (f : Addr) (fd : FuncData), Mk K C f ∧ Fun K "__init__" "Joinings.__init__" sInit f fd ∧ Binds K fd ["self", "shape"] []
  hIsInt : Has K mg "is_integer" "is_integer" sIsInt ["thing"]
  hBetween : Has K mg "is_between" "is_between" sBetween ["thing", "least", "most"]
  hIndex : Has K mg "is_index" "is_index" sIndex ["thing", "many"]
  hFair : Has K mg "is_fair" "is_fair" sFair ["thing"]
  hIsShape : Has K mg "is_shape" "is_shape" sIsShape ["thing"]
  hCheck : Has K mg "check_shape" "check_shape" sCheck ["thing"]
  hSteps : Has K mg "steps_of" "steps_of" sSteps ["shape"]
  hRegs : Has K mg "regroupings" "regroupings" sRegs ["shape"]
  hRegBy : Has K mg "regrouped_by" "regrouped_by" sRegBy ["shape", "one", "other"]
  hIsStep : Has K mg "is_step" "is_step" sIsStep ["shape", "one", "other"]
  hReg : Has K mg "regrouped" "regrouped" sReg ["shape", "one", "other"]
  hDice : Has K mg "_law_dice" "_law_dice" sDice ["_law_script"]
  hDraw : Has K mg "_law_draw" "_law_draw" sDraw ["_law_dice_here", "_law_sides"]
  hDrawn : Has K mg "_law_shape" "_law_shape" sDrawn ["_law_dice_here", "_law_words"]
  hMany : Has K mg "_law_many" "_law_many" sMany ["_law_dice_here", "_law_most"]
  hLInt : Has K mg "_law_is_integer" "_law_is_integer" sLInt ["_law_thing"]
  hLShape : Has K mg "_law_is_shape" "_law_is_shape" sLShape ["_law_thing"]
  hLSpan : Has K mg "_law_span" "_law_span" sLSpan ["_law_shape_here", "_law_seam"]
  hLOver : Has K mg "_law_is_over" "_law_is_over" sLOver ["_law_shape_here", "_law_one", "_law_other"]
  hLStands : Has K mg "_law_stands" "_law_stands" sLStands ["_law_shape_here", "_law_one", "_law_other"]
  hLDeeper : Has K mg "_law_deeper" "_law_deeper" sLDeeper ["_law_part", "_law_many_here"]
  hLDue : Has K mg "_law_due" "_law_due" sLDue ["_law_shape_here", "_law_one", "_law_other"]
  hLStay : Has K mg "_law_others_stay" "_law_others_stay" sLStay ["_law_shape_here", "_law_there", "_law_one", "_law_other"]
end Hs
namespace Hs
open PySem L2
section
variable {P : Program} {w : World} {K : PySem.W.Frag} {mg : Str → Option Value} {base : Heap} {C : Addr}
/-! ### small defs -/
def spIsInt : Sp := fun vs H Q _ => ∃ i : Int, vs = [.int i] ∧ Q (.bl true) H
theorem ok_isInt {f : Addr} {fd : FuncData} (F : Fun K "is_integer" "is_integer" sIsInt f fd) (T : Txt K mg C) : FnOk P w K mg base CX0 1 f fd ["thing"] spIsInt := by
  refine F.ok scIsInt (fun vs H Q E h => ?_) (fun cdv A outer s H vs Q E hr h => ?_)
  · obtain ⟨i, rfl, _⟩ := h
    rfl
  · obtain ⟨i, rfl, k⟩ := h
    refine ⟨_, pss_one (ps_ret (pe_and (pe_callB call_isi (by rfl) T.m_isinstance (by decide +kernel) (pa_cons (pv 0) (pa_cons (pe_bltn (v := .ty "int") (by rfl) T.m_int (by decide +kernel) rfl) pa_nil)))
      (pe_one (pe_not (pe_callB call_isi (by rfl) T.m_isinstance (by decide +kernel) (pa_cons (pv 0) (pa_cons (pe_bltn (v := .ty "bool") (by rfl) T.m_bool (by decide +kernel) rfl) pa_nil))))))), ?_⟩
    refine ⟨_, rfl, .int i, .ty "int", .type "int", .type "int", true, rfl, .ty _, .base (.int _), kit_ty (by decide +kernel), true, rfl, iteT ?_⟩
    refine ⟨_, rfl, .int i, .ty "bool", .type "int", .type "bool", false, rfl, .ty _, .base (.int _), kit_ty (by decide +kernel), false, rfl, ?_⟩
    exact k
theorem ok_lInt {f : Addr} {fd : FuncData} (F : Fun K "_law_is_integer" "_law_is_integer" sLInt f fd) (T : Txt K mg C) : FnOk P w K mg base CX0 1 f fd ["_law_thing"] spIsInt := by
  refine F.ok scLInt (fun vs H Q E h => ?_) (fun cdv A outer s H vs Q E hr h => ?_)
  · obtain ⟨i, rfl, _⟩ := h
    rfl
  · obtain ⟨i, rfl, k⟩ := h
    refine ⟨_, pss_one (ps_ret (pe_and (pe_callB call_isi (by rfl) T.m_isinstance (by decide +kernel) (pa_cons (pv 0) (pa_cons (pe_bltn (v := .ty "int") (by rfl) T.m_int (by decide +kernel) rfl) pa_nil)))
      (pe_one (pe_not (pe_callB call_isi (by rfl) T.m_isinstance (by decide +kernel) (pa_cons (pv 0) (pa_cons (pe_bltn (v := .ty "bool") (by rfl) T.m_bool (by decide +kernel) rfl) pa_nil))))))), ?_⟩
    refine ⟨_, rfl, .int i, .ty "int", .type "int", .type "int", true, rfl, .ty _, .base (.int _), kit_ty (by decide +kernel), true, rfl, iteT ?_⟩
    refine ⟨_, rfl, .int i, .ty "bool", .type "int", .type "bool", false, rfl, .ty _, .base (.int _), kit_ty (by decide +kernel), false, rfl, ?_⟩
    exact k
/-- between, of ints: the flag itself -/
def spBetween : Sp := fun vs H Q _ => ∃ i a b : Int, vs = [.int i, .int a, .int b] ∧ Q (.bl (decide (a ≤ i ∧ i ≤ b))) H
theorem ok_between {f : Addr} {fd : FuncData} (F : Fun K "is_between" "is_between" sBetween f fd) (T : Txt K mg C) : FnOk P w K mg base CX0 2 f fd ["thing", "least", "most"] spBetween := by
  obtain ⟨f1, fd1, m1, F1, b1⟩ := T.hIsInt
  have G1 : FnOk P w K mg base CX0 1 f1 fd1 ["thing"] spIsInt := ok_isInt F1 T
  refine F.ok scBetween (fun vs H Q E h => ?_) (fun cdv A outer s H vs Q E hr h => ?_)
  · obtain ⟨i, a, b, rfl, _⟩ := h
    rfl
  · obtain ⟨i, a, b, rfl, k⟩ := h
    refine ⟨_, pss_one (ps_ret (pe_and (pe_call G1 hr rfl m1 F1.kp b1 .nil pass0 (pa_cons (pv 0) pa_nil)) (pe_one (pe_chain op_le op_le (pv 1) (pv 0) (pv 2))))), ?_⟩
    refine ⟨_, rfl, i, rfl, true, rfl, iteT ?_⟩
    refine ⟨_, rfl, _, rfl, _, _, rfl, rfl, _, rfl, ?_⟩
    by_cases h1 : a ≤ i
    · rw [decide_eq_true h1]
      refine iteT ⟨_, rfl, _, _, rfl, rfl, ?_⟩
      show Q (V.bl (decide (i ≤ b))) H
      by_cases h2 : i ≤ b
      · rw [decide_eq_true h2]
        rw [decide_eq_true (⟨h1, h2⟩ : a ≤ i ∧ i ≤ b)] at k
        exact k
      · rw [decide_eq_false h2]
        rw [decide_eq_false (fun z : a ≤ i ∧ i ≤ b => h2 z.2)] at k
        exact k
    · rw [decide_eq_false h1]
      rw [decide_eq_false (fun z : a ≤ i ∧ i ≤ b => h1 z.1)] at k
      exact iteF k
def spIndex : Sp := fun vs H Q _ => ∃ i n : Int, vs = [.int i, .int n] ∧ 0 ≤ i ∧ i < n ∧ Q (.bl true) H
theorem ok_index {f : Addr} {fd : FuncData} (F : Fun K "is_index" "is_index" sIndex f fd) (T : Txt K mg C) : FnOk P w K mg base CX0 3 f fd ["thing", "many"] spIndex := by
  obtain ⟨f1, fd1, m1, F1, b1⟩ := T.hBetween
  have G1 : FnOk P w K mg base CX0 2 f1 fd1 ["thing", "least", "most"] spBetween := ok_between F1 T
  refine F.ok scIndex (fun vs H Q E h => ?_) (fun cdv A outer s H vs Q E hr h => ?_)
  · obtain ⟨i, n, rfl, _⟩ := h
    rfl
  · obtain ⟨i, n, rfl, h1, h2, k⟩ := h
    refine ⟨_, pss_one (ps_ret (pe_call G1 hr rfl m1 F1.kp b1 .nil pass0 (pa_cons (pv 0) (pa_cons pe_int (pa_cons (pe_op op_sub (pv 1) pe_int) pa_nil))))), ?_⟩
    refine ⟨_, rfl, _, rfl, _, _, rfl, rfl, i, 0, n - 1, rfl, ?_⟩
    rw [decide_eq_true (⟨h1, by omega⟩ : (0 : Int) ≤ i ∧ i ≤ n - 1)]
    exact k
end
end Hs
namespace Hs
open PySem L2
/-! ### helpers -/
theorem fm {j : Int} (x : Int) (h : 0 < j) : 0 ≤ x.fmod j ∧ x.fmod j < j := by
  rw [Int.fmod_eq_emod_of_nonneg _ (by omega)]
  exact ⟨Int.emod_nonneg _ (by omega), Int.emod_lt_of_pos _ h⟩
theorem fd0 {x j : Int} (hx : 0 ≤ x) (h : 0 < j) : 0 ≤ x.fdiv j := by
  rw [Int.fdiv_eq_ediv_of_nonneg _ (by omega)]
  exact Int.ediv_nonneg hx (by omega)
/-- a clause without tests keeps its item -/
theorem keepT {σ : L2.St} {H : Hp} {A B : Hp → Prop} (h : A H) : tYes σ H (fun b H3 => if b = true then A H3 else B H3) := by
  show if true = true then A H else B H
  rw [if_pos rfl]
  exact h
/-- all but d is kept -/
def Frame (d : Addr) (H H' : Hp) : Prop := ∀ b o, H b = some o → b ≠ d → H' b = some o
theorem Frame.refl (d : Addr) (H : Hp) : Frame d H H := fun _ _ h _ => h
theorem Frame.trans {d : Addr} {H H1 H2 : Hp} (a : Frame d H H1) (b : Frame d H1 H2) : Frame d H H2 := fun c o h n => b c o (a c o h n) n
theorem Frame.upd {d : Addr} {H H1 : Hp} {o : HO} (a : Frame d H H1) : Frame d H (L2.upd H1 d o) := fun c u h n => by
  rw [upd_ne n]
  exact a c u h n
theorem _root_.L2.Same.frame {d : Addr} {H H1 : Hp} (a : L2.Same H H1) : Frame d H H1 := fun c u h _ => a c u h
/-- a new object does not disturb -/
theorem same_new {H : Hp} {p : Addr} {o : HO} (np : H p = none) : L2.Same H (L2.upd H p o) := fun b u e => by
  rw [upd_ne (ne_of_none e np)]
  exact e
/-- xs[i], by values: of a list -/
theorem get_list {X : Cx} : PGet X (fun x y H Q => ∃ (p : Addr) (xs : List V) (j : Nat) (v : V), x = V.ref p ∧ y = V.int (j : Int) ∧ SqL X.K H p xs ∧ xs[j]? = some v ∧ Q v H) := by
  intro pins s σ H o i ov iv Q I ro ri h
  obtain ⟨p, xs, j, v, rfl, rfl, hq, he, q⟩ := h
  cases ro
  obtain ⟨t, rfl⟩ := ri
  obtain ⟨its, r, pl, hz⟩ := I.list hq
  obtain ⟨u, eu, ru⟩ := r.get he
  have hj : j < xs.length := (List.getElem?_eq_some_iff.mp he).1
  have hn := line63
  exact PyProof.Rows.getItem_listL pl.isList (by omega) (by omega) (by rw [Int.toNat_natCast]; exact eu) ⟨v, H, I, ru, q⟩
section
variable {P : Program} {w : World} {K : PySem.W.Frag} {mg : Str → Option Value} {base : Heap} {C : Addr}
/-! ### the law's dice -/
def Dc (cs : List Int) (d l : Addr) (H : Hp) : Prop := H l = some (.lst (cs.map V.int)) ∧ (∀ c, c ∈ cs → 0 ≤ c) ∧ ∃ (i : Nat) (big st cnt : Int),
  H d = some (.lst [.ref l, .int (i : Int), .int big, .int st, .int cnt]) ∧ i ≤ cs.length ∧ 0 ≤ big ∧ 0 ≤ st ∧ st < 2147483647
theorem Dc.ne {cs : List Int} {d l : Addr} {H : Hp} (h : Dc cs d l H) : l ≠ d := by
  obtain ⟨h1, _, i, big, st, cnt, h2, _⟩ := h
  refine ne_of h1 h2 fun e => ?_
  injection e with e
  cases cs with
  | nil => cases e
  | cons c cs => cases e
/-- where d and l stand as they stood -/
theorem Dc.keep {cs : List Int} {d l : Addr} {H H' : Hp} (h : Dc cs d l H) (k : ∀ b o, H b = some o → b = d ∨ b = l → H' b = some o) : Dc cs d l H' := by
  obtain ⟨h1, hc, i, big, st, cnt, h2, h3⟩ := h
  exact ⟨k _ _ h1 (.inr rfl), hc, i, big, st, cnt, k _ _ h2 (.inl rfl), h3⟩
def spDice (K : PySem.W.Frag) : Sp := fun vs H Q _ => ∃ (a : Addr) (ns : List Int), vs = [.ref a] ∧ SqL K H a (ns.map V.int) ∧ ns.length ≤ 63 ∧
  ∀ (cs : List Int) (d l : Addr) (H' : Hp), Dc cs d l H' → Same H H' → H d = none → Q (.ref d) H'
def spDraw : Sp := fun vs H Q _ => ∃ (cs : List Int) (d l : Addr) (sides : Int), vs = [.ref d, .int sides] ∧ Dc cs d l H ∧ 0 < sides ∧ sides < 100000 ∧
  ∀ (v : Int) (H' : Hp), Dc cs d l H' → Frame d H H' → 0 ≤ v → v < sides → Q (.int v) H'
theorem ok_draw {f : Addr} {fd : FuncData} (F : Fun K "_law_draw" "_law_draw" sDraw f fd) (T : Txt K mg C) : FnOk P w K mg base CX0 1 f fd ["_law_dice_here", "_law_sides"] spDraw := by
  refine F.ok scDraw (fun vs H Q E h => ?_) (fun cdv A outer s H vs Q E hr h => ?_)
  · obtain ⟨cs, d, l, sides, rfl, _⟩ := h
    rfl
  · obtain ⟨cs, d, l, sides, rfl, D0, s0, s1, k⟩ := h
    refine ⟨_, C8.pss_cut
        (ps_if (PW.pt (pw_and (pt_cmpR op_eq (pe_ix ix_list (pv 0) pe_int (fun _ _ => rfl)) pe_int (nomark _))
            (pw_and1 (pt_cmpR op_lt (pe_ix ix_list (pv 0) pe_int (fun _ _ => rfl)) (pe_callB call_len_seq (by rfl) T.m_len PySem.boot_len (pa_cons (pe_ix ix_list (pv 0) pe_int (fun _ _ => rfl)) pa_nil)) (nomark _)))))
          (pss_cons (ps_set (i := 2) scDraw.nd rfl (Or.inl rfl) (pe_ix ix_list (pe_ix ix_list (pv 0) pe_int (fun _ _ => rfl)) (pe_ix ix_list (pv 0) pe_int (fun _ _ => rfl)) (fun _ _ => rfl)))
          (pss_cons (ps_asg (pe_op op_add (pe_ix ix_list (pv 0) pe_int (fun _ _ => rfl)) pe_int) (pg_sub (pv 0) pe_int set_list))
          (pss_one (ps_if (pt_cmpR op_ge (pv 2) (pe_op op_pow pe_int pe_int) (nomark _))
            (pss_one (ps_asg (pv 2) (pg_sub (pv 0) pe_int set_list)))
            (pss_one (ps_asg (pe_op op_modN (pe_callTy call_int1 (by rfl) T.m_int (by decide +kernel) (pa_cons (pe_op op_add (pe_op op_add (pe_op op_mul (pe_ix ix_list (pv 0) pe_int (fun _ _ => rfl)) pe_int) (pe_op op_mul (pv 2) pe_int)) (pe_ix ix_list (pv 0) pe_int (fun _ _ => rfl))) pa_nil)) pe_int) (pg_sub (pv 0) pe_int set_list)))))))
          pss_nil)
      (pss_cons (ps_if (pt_cmpR op_gt (pe_ix ix_list (pv 0) pe_int (fun _ _ => rfl)) pe_int (nomark _))
          (pss_cons (ps_set (i := 3) scDraw.nd rfl (Or.inl rfl) (pe_op op_modN (pe_callTy call_int1 (by rfl) T.m_int (by decide +kernel) (pa_cons (pe_ix ix_list (pv 0) pe_int (fun _ _ => rfl)) pa_nil)) (pv 1)))
          (pss_cons (ps_asg (pe_op op_fdivN (pe_callTy call_int1 (by rfl) T.m_int (by decide +kernel) (pa_cons (pe_ix ix_list (pv 0) pe_int (fun _ _ => rfl)) pa_nil)) (pv 1)) (pg_sub (pv 0) pe_int set_list))
          (pss_one (ps_ret (pv 3))))) pss_nil)
      (pss_cons (ps_asg (pe_op op_add (pe_ix ix_list (pv 0) pe_int (fun _ _ => rfl)) pe_int) (pg_sub (pv 0) pe_int set_list))
      (pss_cons (ps_asg (pe_op op_modN (pe_callTy call_int1 (by rfl) T.m_int (by decide +kernel) (pa_cons (pe_op op_add (pe_op op_add (pe_op op_mul (pe_ix ix_list (pv 0) pe_int (fun _ _ => rfl)) pe_int) (pe_op op_mul (pe_ix ix_list (pv 0) pe_int (fun _ _ => rfl)) pe_int)) pe_int) pa_nil)) pe_int) (pg_sub (pv 0) pe_int set_list))
      (pss_cons (ps_set (i := 4) scDraw.nd rfl (Or.inl rfl) (pe_op op_modN (pe_callTy call_int1 (by rfl) T.m_int (by decide +kernel) (pa_cons (pe_op op_mul (pe_ix ix_list (pv 0) pe_int (fun _ _ => rfl)) (pe_op op_add (pe_op op_fdivN (pe_ix ix_list (pv 0) pe_int (fun _ _ => rfl)) pe_int) pe_int)) pa_nil)) pe_int))
      (pss_cons (ps_set (i := 4) scDraw.nd rfl (Or.inl rfl) (pe_op op_modN (pe_callTy call_int1 (by rfl) T.m_int (by decide +kernel) (pa_cons (pe_op op_mul (pv 4) (pe_op op_add (pe_op op_fdivN (pv 4) pe_int) pe_int)) pa_nil)) pe_int))
      (pss_one (ps_ret (pe_op op_modN (pe_callTy call_int1 (by rfl) T.m_int (by decide +kernel) (pa_cons (pe_op op_fdivN (pv 4) pe_int) pa_nil)) (pv 1))))))))), ?_⟩
    refine ⟨fun σ' H' => ∃ v2 : Option V, σ' = [some (.ref d), some (.int sides), v2, none, none] ∧ Dc cs d l H' ∧ Frame d H H', ?_, ?_⟩
    · obtain ⟨hl, hc, i, big, st, cnt, hd, hi, hb, hs0, hs1⟩ := id D0
      have nld := D0.ne
      -- dice[2] == 0
      refine ⟨_, rfl, d, _, _, _, rfl, rfl, SqL.of hd, at_of (j := 2) rfl rfl, rfl, _, rfl, ?_⟩
      refine ite2 (fun _ => ?_) (fun _ => iteF ?_)
      · -- dice[1] < len(dice[0])
        refine ⟨_, rfl, d, _, _, _, rfl, rfl, SqL.of hd, at_of (j := 1) rfl rfl, _, rfl, d, _, _, _, rfl, rfl, SqL.of hd, at_of (j := 0) rfl rfl, l, _, rfl, .inl (SqL.of hl), _, _, rfl, rfl, _, rfl, ?_⟩
        rw [List.length_map]
        by_cases hlt : (i : Int) < (cs.length : Int)
        · rw [decide_eq_true hlt]
          refine iteT ?_
          have hi' : i < cs.length := by omega
          have hci : 0 ≤ cs[i] := hc _ (List.getElem_mem hi')
          -- cell = dice[0][dice[1]]
          refine ⟨_, rfl, d, _, _, _, rfl, rfl, SqL.of hd, at_of (j := 0) rfl rfl, _, rfl, d, _, _, _, rfl, rfl, SqL.of hd, at_of (j := 1) rfl rfl, l, _, _, V.int cs[i], rfl, rfl, SqL.of hl, at_of (j := i) rfl (by rw [List.getElem?_map, List.getElem?_eq_getElem hi']; rfl), ?_⟩
          -- dice[1] = dice[1] + 1
          refine ⟨_, rfl, d, _, _, _, rfl, rfl, SqL.of hd, at_of (j := 1) rfl rfl, _, _, rfl, rfl, _, rfl, d, _, _, 1, rfl, rfl, hd, rfl, ?_⟩
          -- if cell >= 10 ** 18
          refine ⟨_, rfl, _, _, rfl, rfl, ⟨by decide, by decide, by decide⟩, _, _, rfl, rfl, _, rfl, ?_⟩
          refine ite2 (fun _ => ?_) (fun hlow => ?_)
          · refine ⟨_, rfl, _, rfl, d, _, _, 2, rfl, rfl, upd_same, rfl, ?_⟩
            refine ⟨_, rfl, ⟨?_, hc, i + 1, cs[i], st, cnt, ?_, by omega, hci, hs0, hs1⟩, ((Frame.refl d H).upd).upd⟩
            · rw [upd_ne nld, upd_ne nld]; exact hl
            · rw [upd_same]; rfl
          · -- dice[3] = ..
            refine ⟨_, rfl, d, _, _, _, rfl, rfl, SqL.of upd_same, at_of (j := 3) rfl rfl, _, _, rfl, rfl, .inr ⟨by decide, by decide⟩, _, rfl, _, _, rfl, rfl, .inr ⟨by decide, by decide⟩, _, _, rfl, rfl,
              _, rfl, d, _, _, _, rfl, rfl, SqL.of upd_same, at_of (j := 1) rfl rfl, _, _, rfl, rfl, .inl ⟨_, rfl, ?_⟩⟩
            refine ⟨_, _, rfl, rfl, (by show (2147483647 : Int) ≠ 0; decide), _, rfl, d, _, _, 3, rfl, rfl, upd_same, rfl, ?_⟩
            refine ⟨_, rfl, ⟨?_, hc, i + 1, big, _, cnt, by rw [upd_same]; rfl, by omega, hb, (fm _ (by decide)).1, (fm _ (by decide)).2⟩, ((Frame.refl d H).upd).upd⟩
            rw [upd_ne nld, upd_ne nld]; exact hl
        · rw [decide_eq_false hlt]
          exact iteF ⟨_, rfl, D0, Frame.refl d H⟩
      · exact ⟨_, rfl, D0, Frame.refl d H⟩
    · rintro σ' H1 ⟨v2, rfl, D1, fr⟩
      obtain ⟨hl, hc, i, big, st, cnt, hd, hi, hb, hs0, hs1⟩ := id D1
      have nld := D1.ne
      -- if dice[2] > 0
      refine ⟨_, rfl, d, _, _, _, rfl, rfl, SqL.of hd, at_of (j := 2) rfl rfl, _, _, rfl, rfl, _, rfl, ?_⟩
      refine ite2 (fun _ => ?_) (fun _ => ?_)
      · refine ⟨_, rfl, d, _, _, _, rfl, rfl, SqL.of hd, at_of (j := 2) rfl rfl, .inl ⟨_, rfl, _, rfl, _, _, rfl, rfl, by omega, ?_⟩⟩
        refine ⟨_, rfl, d, _, _, _, rfl, rfl, SqL.of hd, at_of (j := 2) rfl rfl, .inl ⟨_, rfl, _, rfl, _, _, rfl, rfl, ⟨by omega, by omega⟩, ?_⟩⟩
        refine ⟨_, rfl, d, _, _, 2, rfl, rfl, hd, rfl, _, rfl, ?_⟩
        refine k _ _ ⟨?_, hc, i, _, st, cnt, by rw [upd_same]; rfl, hi, fd0 hb s0, hs0, hs1⟩ fr.upd (fm _ s0).1 (fm _ s0).2
        rw [upd_ne nld]; exact hl
      · -- dice[4] = dice[4] + 1
        refine ⟨_, rfl, d, _, _, _, rfl, rfl, SqL.of hd, at_of (j := 4) rfl rfl, _, _, rfl, rfl, _, rfl, d, _, _, 4, rfl, rfl, hd, rfl, ?_⟩
        -- dice[3] = int(dice[3] * 48271 + dice[4] * 7919 + 1) % 2147483647
        refine ⟨_, rfl, d, _, _, _, rfl, rfl, SqL.of upd_same, at_of (j := 3) rfl rfl, _, _, rfl, rfl, .inr ⟨by decide, by decide⟩, _, rfl, d, _, _, _, rfl, rfl, SqL.of upd_same, at_of (j := 4) rfl rfl, _, _, rfl, rfl, .inr ⟨by decide, by decide⟩, _, _, rfl, rfl, _, _, rfl, rfl, .inl ⟨_, rfl, ?_⟩⟩
        refine ⟨_, _, rfl, rfl, (by show (2147483647 : Int) ≠ 0; decide), _, rfl, d, _, _, 3, rfl, rfl, upd_same, rfl, ?_⟩
        have b3 := fm (st * 48271 + (cnt + 1) * 7919 + 1) (j := 2147483647) (by decide)
        -- mixed = ..
        refine ⟨_, rfl, d, _, _, _, rfl, rfl, SqL.of upd_same, at_of (j := 3) rfl rfl, _, rfl, d, _, _, _, rfl, rfl, SqL.of upd_same, at_of (j := 3) rfl rfl, _, _, rfl, rfl, ⟨by decide, by decide⟩, _, _, rfl, rfl, _, _, rfl, rfl, .inl ⟨?_, ?_⟩, .inl ⟨_, rfl, ?_⟩⟩
        · exact Int.lt_of_lt_of_le (by decide) b3.1
        · exact Int.lt_trans b3.2 (by decide)
        refine ⟨_, _, rfl, rfl, (by show (2147483399 : Int) ≠ 0; decide), ?_⟩
        -- mixed = ..
        refine ⟨_, rfl, _, rfl, _, _, rfl, rfl, ⟨by decide, by decide⟩, _, _, rfl, rfl, _, _, rfl, rfl, .inl ⟨?_, ?_⟩, .inl ⟨_, rfl, ?_⟩⟩
        · exact Int.lt_of_lt_of_le (by decide) (fm _ (by decide)).1
        · exact Int.lt_trans (fm _ (by decide)).2 (by decide)
        refine ⟨_, _, rfl, rfl, (by show (2147483563 : Int) ≠ 0; decide), ?_⟩
        refine ⟨_, rfl, _, _, rfl, rfl, ⟨by decide, by decide⟩, .inl ⟨_, rfl, _, rfl, _, _, rfl, rfl, by omega, ?_⟩⟩
        refine k _ _ ⟨?_, hc, i, big, _, _, by rw [upd_same]; rfl, hi, hb, b3.1, b3.2⟩ (fr.upd).upd (fm _ s0).1 (fm _ s0).2
        rw [upd_ne nld, upd_ne nld]; exact hl
theorem cut_ints (ns : List Int) (lo hi : Option Int) : ∃ zs : List Int, cutV (ns.map V.int) lo hi = zs.map V.int := by
  unfold cutV
  exact ⟨_, by rw [← List.map_drop, ← List.map_take]⟩
theorem get_int {ns : List Int} {i : Nat} {x : V} (h : (ns.map V.int)[i]? = some x) : ∃ z, ns[i]? = some z ∧ x = V.int z := by
  rw [List.getElem?_map] at h
  cases e : ns[i]? with
  | none =>
    rw [e] at h
    cases h
  | some z =>
    rw [e] at h
    exact ⟨z, rfl, (Option.some.inj h).symm⟩
theorem ok_dice {f : Addr} {fd : FuncData} (F : Fun K "_law_dice" "_law_dice" sDice f fd) (T : Txt K mg C) : FnOk P w K mg base CX0 1 f fd ["_law_script"] (spDice K) := by
  refine F.ok scDice (fun vs H Q E h => ?_) (fun cdv A outer s H vs Q E hr h => ?_)
  · obtain ⟨a, ns, rfl, _⟩ := h
    rfl
  · obtain ⟨a, ns, rfl, hS, hlen, k⟩ := h
    refine ⟨_, pss_one (ps_ret (pe_lst (pa_cons (pe_lc (own := [("_law_cell", 1)]) (g := gName 1) (by rfl) scDice.nd (pi_list (pe_slice sl_list (pv 0) po_none (po_some pe_int)))
        (blkOk_by (own := [("_law_cell", 1)]) (N := ["_law_script", "_law_cell"]) (sc := defScope sDice) (by decide +kernel)) (fun _ _ _ _ _ => pg_name (i := 1) scDice.nd rfl (Or.inl rfl)) (fun _ _ _ _ _ => pts_nil)
        (fun _ _ _ _ _ => pe_callB call_abs (by rfl) T.m_abs (by decide +kernel) (pa_cons (pe_callTy call_int1 (by rfl) T.m_int (by decide +kernel) (pa_cons (pv 1) pa_nil)) pa_nil)))
      (pa_cons pe_int (pa_cons pe_int (pa_cons pe_int (pa_cons pe_int pa_nil))))))), ?_⟩
    obtain ⟨zs, ez⟩ := cut_ints ns none (some 63)
    have zl : zs.length ≤ 63 := by
      have e := congrArg List.length ez
      rw [List.length_map] at e
      rw [← e]
      unfold cutV
      rw [List.length_take, List.length_drop, List.length_map]
      omega
    refine ⟨_, rfl, 63, rfl, a, ns.map V.int, rfl, hS, fun p np => ?_⟩
    rw [ez]
    refine ⟨p, rfl, ⟨_, SqL.of upd_same⟩, fun D hD => ?_⟩
    have npD : p ≠ D := ne_of_none upd_same hD
    have hD0 : H D = none := by
      rw [upd_ne npD.symm] at hD
      exact hD
    refine lc_list (K := K) (a := p) (xs := zs.map V.int) (fun i H' => ∃ cs : List Int, cs.length = i ∧ (∀ c, c ∈ cs → 0 ≤ c) ∧ H' = upd (upd H p (.lst (zs.map V.int))) D (.lst (cs.map V.int))) ?_ ?_ ?_ ?_
    · refine ⟨[], rfl, ?_, rfl⟩
      intro c hc
      cases hc
    · rintro i H' _ ⟨cs, _, _, rfl⟩
      exact SqL.of (by rw [upd_ne npD]; exact upd_same)
    · rintro i x H' hx ⟨cs, el, hc, rfl⟩
      obtain ⟨z, hz, rfl⟩ := get_int hx
      have hi : i < zs.length := (List.getElem?_eq_some_iff.mp hz).1
      refine ⟨rfl, keepT ?_⟩
      refine ⟨_, rfl, .inl ⟨_, rfl, _, rfl, ?_⟩⟩
      refine ⟨_, upd_same, ?_, cs ++ [if z < 0 then -z else z], by rw [List.length_append, el]; rfl, ?_, ?_⟩
      · rw [List.length_map]
        exact small1000 (by omega)
      · intro c h
        rcases List.mem_append.mp h with h | h
        · exact hc c h
        · rw [List.mem_singleton] at h
          subst h
          split <;> omega
      · rw [upd_upd, List.map_append]
        rfl
    · rintro H' ⟨cs, el, hc, rfl⟩
      refine ⟨(by show 5 ≤ sizeLine; decide), fun d hd => ?_⟩
      have nDd : D ≠ d := ne_of_none upd_same hd
      have npd : p ≠ d := fun e => by
        subst e
        rw [upd_ne npD, upd_same] at hd
        cases hd
      have hd0 : H d = none := by
        rw [upd_ne nDd.symm, upd_ne npd.symm] at hd
        exact hd
      refine k cs d D _ ⟨by rw [upd_ne nDd]; exact upd_same, hc, 0, 0, 1, 0, upd_same, Nat.zero_le _, by decide, by decide, by decide⟩ (fun b o e => ?_) hd0
      rw [upd_ne (ne_of_none e hd0), upd_ne (ne_of_none e hD0), upd_ne (ne_of_none e np)]
      exact e
/-- how many words -/
def spMany : Sp := fun vs H Q _ => ∃ (cs : List Int) (d l : Addr) (most : Int), vs = [.ref d, .int most] ∧ Dc cs d l H ∧ 0 < most ∧ most ≤ 40 ∧
  ∀ (v : Int) (H' : Hp), Dc cs d l H' → Frame d H H' → 1 ≤ v → v ≤ 40 → Q (.int v) H'
theorem ok_many {f : Addr} {fd : FuncData} (F : Fun K "_law_many" "_law_many" sMany f fd) (T : Txt K mg C) : FnOk P w K mg base CX0 2 f fd ["_law_dice_here", "_law_most"] spMany := by
  obtain ⟨f1, fd1, m1, F1, b1⟩ := T.hDraw
  have G1 : FnOk P w K mg base CX0 1 f1 fd1 ["_law_dice_here", "_law_sides"] spDraw := ok_draw F1 T
  refine F.ok scMany (fun vs H Q E h => ?_) (fun cdv A outer s H vs Q E hr h => ?_)
  · obtain ⟨cs, d, l, most, rfl, _⟩ := h
    rfl
  · obtain ⟨cs, d, l, most, rfl, D0, h0, h1, k⟩ := h
    refine ⟨_, pss_cons (ps_if (pt_cmpR op_eq (pe_call G1 hr rfl m1 F1.kp b1 .nil pass0 (pa_cons (pv 0) (pa_cons pe_int pa_nil))) pe_int (nomark _))
        (pss_one (ps_ret (pe_op op_add pe_int (pe_call G1 hr rfl m1 F1.kp b1 .nil pass0 (pa_cons (pv 0) (pa_cons pe_int pa_nil)))))) pss_nil)
      (pss_one (ps_ret (pe_op op_add pe_int (pe_call G1 hr rfl m1 F1.kp b1 .nil pass0 (pa_cons (pv 0) (pa_cons (pv 1) pa_nil)))))), ?_⟩
    refine ⟨_, rfl, cs, d, l, 8, rfl, D0, by decide, by decide, fun v H1 D1 fr1 v0 v1 => ?_⟩
    refine ⟨rfl, _, rfl, ?_⟩
    refine ite2 (fun _ => ?_) (fun _ => ?_)
    · refine ⟨_, rfl, cs, d, l, 40, rfl, D1, by decide, by decide, fun v' H2 D2 fr2 v2 v3 => ?_⟩
      exact ⟨_, _, rfl, rfl, k _ _ D2 (fr1.trans fr2) (by omega) (by omega)⟩
    · refine ⟨_, rfl, _, rfl, cs, d, l, most, rfl, D1, h0, by omega, fun v' H2 D2 fr2 v2 v3 => ?_⟩
      exact ⟨_, _, rfl, rfl, k _ _ D2 (fr1.trans fr2) (by omega) (by omega)⟩
end
end Hs
namespace Hs
open PySem L2
/-! ### rows of depths as they stand -/
abbrev dps (x : Nat → Int) (a b : Nat) : List V := (seg x a b).map V.int
abbrev ti (x : Nat → Int) (n : Nat) : HO := .tup (dps x 0 n)
theorem dps_len {x : Nat → Int} {a b : Nat} : (dps x a b).length = b - a := by
  show ((seg x a b).map V.int).length = b - a
  rw [List.length_map, seg_len]
theorem dps_get {x : Nat → Int} {n j : Nat} (h : j < n) : (dps x 0 n)[j]? = some (V.int (x j)) := by
  show ((seg x 0 n).map V.int)[j]? = _
  rw [List.getElem?_map, seg_get j (by omega), Nat.zero_add]
  rfl
theorem dps_at {x : Nat → Int} {n j : Nat} {z : Int} (e : z = (j : Int)) (h : j < n) : atI (dps x 0 n) z = some (V.int (x j)) := at_of e (dps_get h)
theorem dps_inv {x : Nat → Int} {a b i : Nat} {v : V} (h : (dps x a b)[i]? = some v) : i < b - a ∧ v = V.int (x (a + i)) := by
  obtain ⟨z, hz, rfl⟩ := get_int h
  obtain ⟨h1, rfl⟩ := seg_get_inv hz
  exact ⟨h1, rfl⟩
theorem v_eq (a b : Int) : decide (V.int a = V.int b) = decide (a = b) := by
  by_cases h : a = b
  · subst h; rw [decide_eq_true rfl, decide_eq_true rfl]
  · rw [decide_eq_false h, decide_eq_false fun q => h (V.int.inj q)]
theorem cast_sub1 {a : Nat} (h : 0 < a) : (a : Int) - 1 = ((a - 1 : Nat) : Int) := by omega
section
variable {P : Program} {w : World} {K : PySem.W.Frag} {mg : Str → Option Value} {base : Heap} {C : Addr}
/-! ### the law's span, over, stands -/
def spSpan : Sp := fun vs H Q _ => ∃ (x : Nat → Int) (n s : Nat) (t : Addr), vs = [.ref t, .int (s : Int)] ∧ H t = some (ti x n) ∧ s < n ∧ n ≤ 40 ∧
  ∀ (f l : Nat) (p : Addr) (H' : Hp), Span x n s f l → Same H H' → H p = none → H' p = some (.tup [.int (f : Int), .int (l : Int)]) → Q (.ref p) H'
theorem ok_span {f : Addr} {fd : FuncData} (F : Fun K "_law_span" "_law_span" sLSpan f fd) (T : Txt K mg C) : FnOk P w K mg base CX0 1 f fd ["_law_shape_here", "_law_seam"] spSpan := by
  refine F.ok scLSpan (fun vs H Q E h => ?_) (fun cdv A outer s H vs Q E hr h => ?_)
  · obtain ⟨x, n, s, t, rfl, _⟩ := h
    rfl
  · obtain ⟨x, n, s, t, rfl, ht, hs, hn, k⟩ := h
    refine ⟨_, pss_cons (ps_set (i := 2) scLSpan.nd rfl (Or.inl rfl) (pv 1))
      (pss_cons (ps_for PassesOwn.never rfl (pi_range1 (by rfl) T.m_range (pa_cons (pv 1) pa_nil)) (pg_name (i := 3) scLSpan.nd rfl (Or.inl rfl))
        (pss_one (ps_if (PW.pt (pw_and (pt_cmpR op_gt (pv 2) pe_int (nomark _)) (pw_and1 (pt_cmpR op_gt (pe_ix ix_tup (pv 0) (pe_op op_sub (pv 2) pe_int) (fun _ _ => rfl)) (pe_ix ix_tup (pv 0) (pv 1) (fun _ _ => rfl)) (nomark _)))))
          (pss_one (ps_set (i := 2) scLSpan.nd rfl (Or.inl rfl) (pe_op op_sub (pv 2) pe_int))) pss_nil)))
      (pss_cons (ps_set (i := 4) scLSpan.nd rfl (Or.inl rfl) (pe_op op_add (pv 1) pe_int))
      (pss_cons (ps_for PassesOwn.never rfl (pi_range1 (by rfl) T.m_range (pa_cons (pe_op op_sub (pe_callB call_len_seq (by rfl) T.m_len PySem.boot_len (pa_cons (pv 0) pa_nil)) (pv 1)) pa_nil)) (pg_name (i := 3) scLSpan.nd rfl (Or.inl rfl))
        (pss_one (ps_if (PW.pt (pw_and (pt_cmpR op_lt (pv 4) (pe_callB call_len_seq (by rfl) T.m_len PySem.boot_len (pa_cons (pv 0) pa_nil)) (nomark _)) (pw_and1 (pt_cmpR op_gt (pe_ix ix_tup (pv 0) (pv 4) (fun _ _ => rfl)) (pe_ix ix_tup (pv 0) (pv 1) (fun _ _ => rfl)) (nomark _)))))
          (pss_one (ps_set (i := 4) scLSpan.nd rfl (Or.inl rfl) (pe_op op_add (pv 4) pe_int))) pss_nil)))
      (pss_one (ps_ret (pe_tup (pa_cons (pv 2) (pa_cons (pv 4) pa_nil)))))))), ?_⟩
    have el : (dps x 0 n).length = n := by rw [dps_len]; omega
    refine ⟨_, rfl, _, rfl, _, rfl, by omega, by omega, for_range (lo := 0) (fun i σ H' => ∃ (a : Nat) (v3 : Option V), σ = [some (.ref t), some (.int s), some (.int (a : Int)), v3, none] ∧ H' = H ∧ a ≤ s ∧
        (∀ j, a ≤ j → j < s → x s < x j) ∧ (a + i = s ∨ a = 0 ∨ x (a - 1) ≤ x s)) ?_ ?_ ?_⟩
    · exact ⟨s, none, rfl, rfl, Nat.le_refl _, fun j a b => by omega, .inl rfl⟩
    · rintro i σ H' hi ⟨a, v3, rfl, rfl, ha, hd, hc⟩
      refine ⟨_, rfl, _, _, rfl, rfl, _, rfl, ?_⟩
      refine ite2 (fun h1 => ?_) (fun h1 => iteF ?_)
      · have h1 := of_decide_eq_true h1
        have ha0 : 0 < a := by omega
        refine ⟨_, rfl, _, rfl, _, _, rfl, rfl, t, _, _, _, rfl, rfl, SqT.of ht, dps_at (cast_sub1 ha0) (by omega), _, rfl, _, rfl, t, _, _, _, rfl, rfl, SqT.of ht, dps_at rfl hs, _, _, rfl, rfl, _, rfl, ?_⟩
        refine ite2 (fun h2 => ?_) (fun h2 => ?_)
        · have h2 := of_decide_eq_true h2
          refine ⟨_, rfl, _, _, rfl, rfl, ?_⟩
          refine ⟨a - 1, _, by rw [← cast_sub1 ha0]; rfl, rfl, by omega, fun j j1 j2 => ?_, ?_⟩
          · by_cases e : j = a - 1
            · subst e; exact h2
            · exact hd j (by omega) j2
          · omega
        · have h2 : ¬ x (a - 1) > x s := fun z => h2 (decide_eq_true z)
          exact ⟨a, _, rfl, rfl, ha, hd, .inr (.inr (by omega))⟩
      · have h1 : ¬ (a : Int) > 0 := fun z => h1 (decide_eq_true z)
        exact ⟨a, _, rfl, rfl, ha, hd, .inr (.inl (by omega))⟩
    · rintro σ H' ⟨a, v3, rfl, rfl, ha, hd, hc⟩
      have hlo : a = 0 ∨ x (a - 1) ≤ x s := by
        rcases hc with hc | hc
        · rw [Int.toNat_natCast] at hc
          exact .inl (by omega)
        · exact hc
      refine ⟨_, rfl, _, _, rfl, rfl, ?_⟩
      refine ⟨_, rfl, t, _, rfl, .inr (SqT.of ht), _, rfl, _, _, rfl, rfl, _, rfl, by omega, by omega, for_range (lo := 0) (fun i σ H'' => ∃ (b : Nat) (v3 : Option V), σ = [some (.ref t), some (.int s), some (.int (a : Int)), v3, some (.int (b : Int))] ∧ H'' = H' ∧ s < b ∧ b ≤ n ∧
          (∀ j, s < j → j < b → x s < x j) ∧ (b = s + 1 + i ∨ b = n ∨ x b ≤ x s)) ?_ ?_ ?_⟩
      · exact ⟨s + 1, _, rfl, rfl, by omega, by omega, fun j a b => by omega, .inl rfl⟩
      · rintro i σ H'' hi ⟨b, v3, rfl, rfl, hb, hbn, hd2, hc2⟩
        refine ⟨_, rfl, _, rfl, t, _, rfl, .inr (SqT.of ht), _, _, rfl, rfl, _, rfl, ?_⟩
        refine ite2 (fun h1 => ?_) (fun h1 => iteF ?_)
        · have h1 := of_decide_eq_true h1
          have hb1 : b < n := by omega
          refine ⟨_, rfl, _, rfl, t, _, _, _, rfl, rfl, SqT.of ht, dps_at rfl hb1, _, rfl, _, rfl, t, _, _, _, rfl, rfl, SqT.of ht, dps_at rfl hs, _, _, rfl, rfl, _, rfl, ?_⟩
          refine ite2 (fun h2 => ?_) (fun h2 => ?_)
          · have h2 := of_decide_eq_true h2
            refine ⟨_, rfl, _, _, rfl, rfl, ?_⟩
            refine ⟨b + 1, _, rfl, rfl, by omega, by omega, fun j j1 j2 => ?_, ?_⟩
            · by_cases e : j = b
              · subst e; exact h2
              · exact hd2 j j1 (by omega)
            · omega
          · have h2 : ¬ x b > x s := fun z => h2 (decide_eq_true z)
            exact ⟨b, _, rfl, rfl, hb, hbn, hd2, .inr (.inr (by omega))⟩
        · have h1 : ¬ (b : Int) < ((dps x 0 n).length : Int) := fun z => h1 (decide_eq_true z)
          exact ⟨b, _, rfl, rfl, hb, hbn, hd2, .inr (.inl (by omega))⟩
      · rintro σ H'' ⟨b, v3', rfl, rfl, hb, hbn, hd2, hc2⟩
        have hhi : b = n ∨ x b ≤ x s := by
          rcases hc2 with hc2 | hc2
          · omega
          · exact hc2
        refine ⟨_, rfl, _, rfl, (by show 2 ≤ sizeLine; decide), fun p np => ?_⟩
        refine k a b p _ ⟨ha, hb, hbn, fun j j1 j2 j3 => ?_, hlo, hhi⟩ (same_new np) np upd_same
        by_cases e : j < s
        · exact hd j j1 e
        · exact hd2 j (by omega) j2
def spOver : Sp := fun vs H Q _ => ∃ (x : Nat → Int) (n p i : Nat) (t : Addr), vs = [.ref t, .int (p : Int), .int (i : Int)] ∧ H t = some (ti x n) ∧ p < n ∧ n ≤ 40 ∧
  ∀ (f l : Nat) (H' : Hp), Span x n p f l → Same H H' → Q (.bl (decide (p ≠ i ∧ f ≤ i ∧ i < l))) H'
theorem ok_over {f : Addr} {fd : FuncData} (F : Fun K "_law_is_over" "_law_is_over" sLOver f fd) (T : Txt K mg C) : FnOk P w K mg base CX0 2 f fd ["_law_shape_here", "_law_one", "_law_other"] spOver := by
  obtain ⟨f1, fd1, m1, F1, b1⟩ := T.hLSpan
  have G1 : FnOk P w K mg base CX0 1 f1 fd1 ["_law_shape_here", "_law_seam"] spSpan := ok_span F1 T
  refine F.ok scLOver (fun vs H Q E h => ?_) (fun cdv A outer s H vs Q E hr h => ?_)
  · obtain ⟨x, n, p, i, t, rfl, _⟩ := h
    rfl
  · obtain ⟨x, n, p, i, t, rfl, ht, hp, hn, k⟩ := h
    refine ⟨_, pss_cons (ps_asg (pe_call G1 hr rfl m1 F1.kp b1 .nil pass0 (pa_cons (pv 0) (pa_cons (pv 1) pa_nil))) (pg_tup (by rfl) (pgs_cons (pg_name (i := 3) scLOver.nd rfl (Or.inl rfl)) (pgs_cons (pg_name (i := 4) scLOver.nd rfl (Or.inl rfl)) pgs_nil))))
      (pss_one (ps_ret (pe_and (pe_cmpR op_ne (pv 1) (pv 2) (nomark _)) (pe_one (pe_chain op_le op_lt (pv 3) (pv 2) (pv 4)))))), ?_⟩
    refine ⟨_, rfl, _, rfl, x, n, p, t, rfl, ht, hp, hn, fun f l q H1 S s1 nq hq => ?_⟩
    refine ⟨q, _, rfl, SqT.of hq, rfl, _, _, rfl, _, _, rfl, rfl, ?_⟩
    have kk := k f l H1 S s1
    refine ⟨_, rfl, _, rfl, rfl, _, rfl, ?_⟩
    rw [v_eq]
    by_cases e : p = i
    · subst e
      rw [decide_eq_false fun z : p ≠ p ∧ f ≤ p ∧ p < l => z.1 rfl] at kk
      rw [decide_eq_true rfl]
      exact iteF kk
    · rw [decide_eq_false fun z : (p : Int) = (i : Int) => e (by omega)]
      refine iteT ?_
      refine ⟨_, rfl, _, rfl, _, _, rfl, rfl, _, rfl, ?_⟩
      by_cases h1 : (f : Int) ≤ (i : Int)
      · rw [decide_eq_true h1]
        refine iteT ⟨_, rfl, _, _, rfl, rfl, ?_⟩
        show Q (V.bl (decide ((i : Int) < (l : Int)))) H1
        by_cases h2 : (i : Int) < (l : Int)
        · rw [decide_eq_true h2]
          rw [decide_eq_true (⟨e, by omega, by omega⟩ : p ≠ i ∧ f ≤ i ∧ i < l)] at kk
          exact kk
        · rw [decide_eq_false h2]
          rw [decide_eq_false fun z : p ≠ i ∧ f ≤ i ∧ i < l => h2 (by omega)] at kk
          exact kk
      · rw [decide_eq_false h1]
        rw [decide_eq_false fun z : p ≠ i ∧ f ≤ i ∧ i < l => h1 (by omega)] at kk
        exact iteF kk
def stStr (p i f l f' l' : Nat) : Str := if p ≠ i ∧ f ≤ i ∧ i < l then "over" else if i ≠ p ∧ f' ≤ p ∧ p < l' then "under" else "neither"
def spStands : Sp := fun vs H Q _ => ∃ (x : Nat → Int) (n p i : Nat) (t : Addr), vs = [.ref t, .int (p : Int), .int (i : Int)] ∧ H t = some (ti x n) ∧ p < n ∧ i < n ∧ n ≤ 40 ∧
  ∀ (f l f' l' : Nat) (H' : Hp), Span x n p f l → (¬ (p ≠ i ∧ f ≤ i ∧ i < l) → Span x n i f' l') → Same H H' → Q (.str (stStr p i f l f' l')) H'
theorem ok_stands {f : Addr} {fd : FuncData} (F : Fun K "_law_stands" "_law_stands" sLStands f fd) (T : Txt K mg C) : FnOk P w K mg base CX0 3 f fd ["_law_shape_here", "_law_one", "_law_other"] spStands := by
  obtain ⟨f1, fd1, m1, F1, b1⟩ := T.hLOver
  have G1 : FnOk P w K mg base CX0 2 f1 fd1 ["_law_shape_here", "_law_one", "_law_other"] spOver := ok_over F1 T
  refine F.ok scLStands (fun vs H Q E h => ?_) (fun cdv A outer s H vs Q E hr h => ?_)
  · obtain ⟨x, n, p, i, t, rfl, _⟩ := h
    rfl
  · obtain ⟨x, n, p, i, t, rfl, ht, hp, hi, hn, k⟩ := h
    refine ⟨_, pss_cons (ps_if (pt_val (pe_call G1 hr rfl m1 F1.kp b1 .nil pass0 (pa_cons (pv 0) (pa_cons (pv 1) (pa_cons (pv 2) pa_nil))))) (pss_one (ps_ret pe_str)) pss_nil)
      (pss_cons (ps_if (pt_val (pe_call G1 hr rfl m1 F1.kp b1 .nil pass0 (pa_cons (pv 0) (pa_cons (pv 2) (pa_cons (pv 1) pa_nil))))) (pss_one (ps_ret pe_str)) pss_nil)
      (pss_one (ps_ret pe_str))), ?_⟩
    refine ⟨_, rfl, _, rfl, _, rfl, x, n, p, i, t, rfl, ht, hp, hn, fun f l H1 S s1 => ⟨_, rfl, ?_⟩⟩
    refine ite2 (fun h1 => ?_) (fun h1 => ?_)
    · have h1 := of_decide_eq_true h1
      have kk := k f l 0 0 H1 S (fun z => absurd h1 z) s1
      unfold stStr at kk
      rw [if_pos h1] at kk
      exact kk
    · have h1 : ¬ (p ≠ i ∧ f ≤ i ∧ i < l) := fun z => h1 (decide_eq_true z)
      refine ⟨_, rfl, _, rfl, _, rfl, x, n, i, p, t, rfl, s1 _ _ ht, hi, hn, fun f' l' H2 S' s2 => ⟨_, rfl, ?_⟩⟩
      have kk := k f l f' l' H2 S (fun _ => S') (s1.trans s2)
      unfold stStr at kk
      rw [if_neg h1] at kk
      refine ite2 (fun h2 => ?_) (fun h2 => ?_)
      · have h2 := of_decide_eq_true h2
        rw [if_pos h2] at kk
        exact kk
      · have h2 : ¬ (i ≠ p ∧ f' ≤ p ∧ p < l') := fun z => h2 (decide_eq_true z)
        rw [if_neg h2] at kk
        exact kk
end
end Hs
namespace Hs
open PySem L2
theorem cut_dps {x : Nat → Int} {n a b : Nat} (h1 : a ≤ b) (h2 : b ≤ n) : cutV (dps x 0 n) (some (a : Int)) (some (b : Int)) = dps x a b := by
  unfold cutV
  rw [dps_len, HT.sIx_nat, HT.sIx_nat]
  have e1 : min a (n - 0) = a := by omega
  have e2 : min b (n - 0) = b := by omega
  rw [e1, e2]
  show (((seg x 0 n).map V.int).drop a).take (b - a) = (seg x a b).map V.int
  rw [← List.map_drop, ← List.map_take, seg_drop, Nat.zero_add, seg_take (by omega)]
  have e3 : a + (b - a) = b := by omega
  rw [e3]
theorem cut_dps_lo {x : Nat → Int} {n b : Nat} (h2 : b ≤ n) : cutV (dps x 0 n) none (some (b : Int)) = dps x 0 b := cut_dps (a := 0) (Nat.zero_le _) h2
theorem cut_dps_hi {x : Nat → Int} {n a : Nat} (h2 : a ≤ n) : cutV (dps x 0 n) (some (a : Int)) none = dps x a n := by
  unfold cutV
  rw [dps_len, HT.sIx_nat, HT.sIx_none]
  have e1 : min a (n - 0) = a := by omega
  rw [e1]
  show (((seg x 0 n).map V.int).drop a).take (n - 0 - a) = (seg x a n).map V.int
  rw [← List.map_drop, ← List.map_take, seg_drop, Nat.zero_add]
  have e2 : n - 0 - a = n - a := by omega
  rw [e2, seg_take (by omega)]
  have e3 : a + (n - a) = n := by omega
  rw [e3]
/-- [v for v in t], t a tuple, the name in the slot i -/
theorem copy_tup {K : PySem.W.Frag} {a D : Addr} {xs : List V} {i : Nat} {σ : L2.St} {H1 : Hp} {Qd : Hp → Prop} (hT : H1 a = some (.tup xs)) (hD : H1 D = none) (hlen : xs.length ≤ 1000) (hi : i < σ.length)
    (hd : Qd (upd H1 D (.lst xs))) :
    ∃ W : Nat → Nat → Hp → Prop, (∃ m, W 0 m (upd H1 D (.lst []))) ∧ ∀ j m H, W j m H →
      ((Itt K a).stop j H ∧ Qd H) ∨ ((Itt K a).go j H ∧ ∃ Nx : Hp → Prop, (∀ H', Nx H' → ∃ m', m' < m ∧ W (j + 1) m' H') ∧ ∀ x H', (Itt K a).yld j H x H' → gName i x (wipe σ [i]) H' fun σ2 H2 => wipe σ2 [i] = wipe σ [i] ∧ tYes σ2 H2 fun b H3 =>
        if b = true then tVar i σ2 H3 fun y H4 => ∃ acc, H4 D = some (.lst acc) ∧ acc.length < sizeLine ∧ Nx (upd H4 D (.lst (acc ++ [y]))) else Nx H3) := by
  have naD : a ≠ D := ne_of_none hT hD
  refine lc_tup (K := K) (a := a) (xs := xs) (fun j H' => H' = upd H1 D (.lst (xs.take j))) rfl ?_ ?_ ?_
  · rintro j H' _ rfl
    exact SqT.of (by rw [upd_ne naD]; exact hT)
  · rintro j v H' hj rfl
    refine ⟨?_, keepT ?_⟩
    · show (((σ.set i none).set i (some v)).set i none) = σ.set i none
      rw [List.set_set, List.set_set]
    · refine ⟨v, ?_, xs.take j, upd_same, ?_, ?_⟩
      · show ((σ.set i none).set i (some v))[i]? = some (some v)
        rw [List.getElem?_set_self (by rw [List.length_set]; exact hi)]
      · rw [List.length_take]
        exact small1000 (by omega)
      · rw [upd_upd, List.take_add_one, hj]
        rfl
  · rintro H' rfl
    rw [List.take_length]
    exact hd
/-- t + u of tuples, whichever of them is empty -/
theorem cat_tup {K : PySem.W.Frag} {a b : Addr} {xs ys : List V} {H : Hp} {Q : VK} (h1 : H a = some (.tup xs)) (h2 : H b = some (.tup ys)) (hlen : xs.length + ys.length ≤ sizeLine)
    (k : ∀ (r : Addr) (H' : Hp), Same H H' → H' r = some (.tup (xs ++ ys)) → Q (.ref r) H') : rCatA K (.ref a) (.ref b) H Q := by
  refine ⟨a, b, xs, ys, rfl, rfl, SqT.of h1, SqT.of h2, hlen, fun e => ?_, fun _ e => ?_, fun _ _ p np => k p _ (same_new np) upd_same⟩
  · subst e
    exact k b H (Same.refl _) h2
  · subst e
    refine k a H (Same.refl _) ?_
    rw [List.append_nil]
    exact h1
section
variable {P : Program} {w : World} {K : PySem.W.Frag} {mg : Str → Option Value} {base : Heap} {C : Addr}
/-! ### the law's putting together -/
def spDeeper : Sp := fun vs H Q _ => ∃ (a : Addr) (c : Int) (ns : List Int), vs = [.ref a, .int c] ∧ H a = some (.lst (ns.map V.int)) ∧ ns.length ≤ 1000 ∧
  ∀ (p : Addr) (H' : Hp), Same H H' → H p = none → H' p = some (.lst ((ns.map (· + c)).map V.int)) → Q (.ref p) H'
theorem ok_deeper {f : Addr} {fd : FuncData} (F : Fun K "_law_deeper" "_law_deeper" sLDeeper f fd) (T : Txt K mg C) : FnOk P w K mg base CX0 1 f fd ["_law_part", "_law_many_here"] spDeeper := by
  refine F.ok scLDeeper (fun vs H Q E h => ?_) (fun cdv A outer s H vs Q E hr h => ?_)
  · obtain ⟨a, c, ns, rfl, _⟩ := h
    rfl
  · obtain ⟨a, c, ns, rfl, ha, hlen, k⟩ := h
    refine ⟨_, pss_one (ps_ret (pe_lc (own := [("_law_depth", 2)]) (g := gName 2) (by rfl) scLDeeper.nd (pi_list (pv 0))
        (blkOk_by (own := [("_law_depth", 2)]) (N := ["_law_part", "_law_many_here", "_law_depth"]) (sc := defScope sLDeeper) (by decide +kernel)) (fun _ _ _ _ _ => pg_name (i := 2) scLDeeper.nd rfl (Or.inl rfl)) (fun _ _ _ _ _ => pts_nil)
        (fun _ _ _ _ _ => pe_op op_add (pv 2) (pv 1)))), ?_⟩
    refine ⟨_, rfl, a, rfl, ⟨_, SqL.of ha⟩, fun D hD => ?_⟩
    have naD : a ≠ D := ne_of_none ha hD
    refine lc_list (K := K) (a := a) (xs := ns.map V.int) (fun i H' => H' = upd H D (.lst (((ns.take i).map (· + c)).map V.int))) rfl ?_ ?_ ?_
    · rintro i H' _ rfl
      exact SqL.of (by rw [upd_ne naD]; exact ha)
    · rintro i v H' hi rfl
      obtain ⟨z, hz, rfl⟩ := get_int hi
      refine ⟨rfl, keepT ?_⟩
      refine ⟨_, rfl, _, rfl, _, _, rfl, rfl, ?_⟩
      refine ⟨_, upd_same, ?_, ?_⟩
      · rw [List.length_map, List.length_map, List.length_take]
        exact small1000 (by omega)
      · rw [upd_upd, List.take_add_one, hz]
        simp
    · rintro H' rfl
      rw [List.length_map, List.take_length]
      exact k D _ (same_new hD) hD upd_same
end
end Hs
namespace Hs
open PySem L2
theorem nw_lo {xs : List V} {a : Nat} {hi : Option Int} (h : 0 < a) (h2 : 0 < xs.length) : ¬ (HT.sIx xs.length 0 (some (a : Int)) = 0 ∧ HT.sIx xs.length xs.length hi = xs.length) := by
  rintro ⟨z, _⟩
  rw [HT.sIx_nat] at z
  omega
theorem nw_hi {xs : List V} {b : Nat} {lo : Option Int} (h : b < xs.length) : ¬ (HT.sIx xs.length 0 lo = 0 ∧ HT.sIx xs.length xs.length (some (b : Int)) = xs.length) := by
  rintro ⟨_, z⟩
  rw [HT.sIx_nat] at z
  omega
theorem cat_new {a b : Addr} {xs ys : List V} {H : Hp} {Q : VK} (h1 : H a = some (.lst xs)) (h2 : H b = some (.lst ys)) (hlen : xs.length + ys.length ≤ 1000)
    (k : ∀ (r : Addr) (H' : Hp), Same H H' → H' r = some (.lst (xs ++ ys)) → Q (.ref r) H') : rCat (.ref a) (.ref b) H Q :=
  ⟨a, b, xs, ys, rfl, rfl, h1, h2, Nat.le_trans hlen (by decide), fun p np => k p _ (same_new np) upd_same⟩
section
variable {P : Program} {w : World} {K : PySem.W.Frag} {mg : Str → Option Value} {base : Heap} {C : Addr}
def spDue : Sp := fun vs H Q _ => ∃ (x : Nat → Int) (n one other : Nat) (t : Addr), vs = [.ref t, .int (one : Int), .int (other : Int)] ∧ H t = some (ti x n) ∧ n ≤ 40 ∧ Par x n one other ∧
  ∀ (f l : Nat) (r : Addr) (H' : Hp), Span x n one f l → Same H H' → H' r = some (ti (rg x one other f l) n) → Q (.ref r) H'
/-- the list that is put together -/
def Whole (x : Nat → Int) (n one other f l : Nat) (L : List Int) : Prop := L.length ≤ 100 ∧ seg x 0 f ++ L ++ seg x l n = seg (rg x one other f l) 0 n
theorem ok_due {f : Addr} {fd : FuncData} (F : Fun K "_law_due" "_law_due" sLDue f fd) (T : Txt K mg C) : FnOk P w K mg base CX0 2 f fd ["_law_shape_here", "_law_one", "_law_other"] spDue := by
  obtain ⟨f1, fd1, m1, F1, b1⟩ := T.hLSpan
  have G1 : FnOk P w K mg base CX0 1 f1 fd1 ["_law_shape_here", "_law_seam"] spSpan := ok_span F1 T
  obtain ⟨f2, fd2, m2, F2, b2⟩ := T.hLDeeper
  have G2 : FnOk P w K mg base CX0 1 f2 fd2 ["_law_part", "_law_many_here"] spDeeper := ok_deeper F2 T
  refine F.ok scLDue (fun vs H Q E h => ?_) (fun cdv A outer s H vs Q E hr h => ?_)
  · obtain ⟨x, n, one, other, t, rfl, _⟩ := h
    rfl
  · obtain ⟨x, n, one, other, t, rfl, ht, hn, hp, k⟩ := h
    refine ⟨_, pss_cons (ps_asg (pe_call G1 hr rfl m1 F1.kp b1 .nil pass0 (pa_cons (pv 0) (pa_cons (pv 1) pa_nil))) (pg_tup (by rfl) (pgs_cons (pg_name (i := 3) scLDue.nd rfl (Or.inl rfl)) (pgs_cons (pg_name (i := 4) scLDue.nd rfl (Or.inl rfl)) pgs_nil))))
      (pss_cons (ps_set (i := 5) scLDue.nd rfl (Or.inl rfl) (pe_ix ix_tup (pv 0) (pv 1) (fun _ _ => rfl)))
      (pss_cons (ps_set (i := 6) scLDue.nd rfl (Or.inl rfl) (pe_callB (call_min2 rfl) (by rfl) T.m_min (by decide +kernel) (pa_cons (pv 1) (pa_cons (pv 2) pa_nil))))
      (pss_cons (ps_set (i := 7) scLDue.nd rfl (Or.inl rfl) (pe_callB (call_max2 rfl) (by rfl) T.m_max (by decide +kernel) (pa_cons (pv 1) (pa_cons (pv 2) pa_nil))))
      (pss_cons (ps_setLc (i := 8) (own := [("_law_depth", 12)]) (g := gName 12) (by rfl) scLDue.nd rfl rfl (sw_true rfl rfl rfl (by decide +kernel)) (pi_tup (pe_slice sl_tup (pv 0) (po_some (pv 3)) (po_some (pv 6))))
          (blkOk_by (own := [("_law_depth", 12)]) (N := ["_law_shape_here", "_law_one", "_law_other", "_law_first", "_law_last", "_law_deep", "_law_low", "_law_high", "_law_a", "_law_b", "_law_c", "_law_whole", "_law_depth"]) (sc := defScope sLDue) (by decide +kernel))
          (fun _ _ _ _ _ => pg_name (i := 12) scLDue.nd rfl (Or.inl rfl)) (fun _ _ _ _ _ => pts_nil) (fun _ _ _ _ _ => pv 12))
      (pss_cons (ps_setLc (i := 9) (own := [("_law_depth", 12)]) (g := gName 12) (by rfl) scLDue.nd rfl rfl (sw_true rfl rfl rfl (by decide +kernel)) (pi_tup (pe_slice sl_tup (pv 0) (po_some (pe_op op_add (pv 6) pe_int)) (po_some (pv 7))))
          (blkOk_by (own := [("_law_depth", 12)]) (N := ["_law_shape_here", "_law_one", "_law_other", "_law_first", "_law_last", "_law_deep", "_law_low", "_law_high", "_law_a", "_law_b", "_law_c", "_law_whole", "_law_depth"]) (sc := defScope sLDue) (by decide +kernel))
          (fun _ _ _ _ _ => pg_name (i := 12) scLDue.nd rfl (Or.inl rfl)) (fun _ _ _ _ _ => pts_nil) (fun _ _ _ _ _ => pv 12))
      (C8.pss_cut (ps_setLc (i := 10) (own := [("_law_depth", 12)]) (g := gName 12) (by rfl) scLDue.nd rfl rfl (sw_true rfl rfl rfl (by decide +kernel)) (pi_tup (pe_slice sl_tup (pv 0) (po_some (pe_op op_add (pv 7) pe_int)) (po_some (pv 4))))
          (blkOk_by (own := [("_law_depth", 12)]) (N := ["_law_shape_here", "_law_one", "_law_other", "_law_first", "_law_last", "_law_deep", "_law_low", "_law_high", "_law_a", "_law_b", "_law_c", "_law_whole", "_law_depth"]) (sc := defScope sLDue) (by decide +kernel))
          (fun _ _ _ _ _ => pg_name (i := 12) scLDue.nd rfl (Or.inl rfl)) (fun _ _ _ _ _ => pts_nil) (fun _ _ _ _ _ => pv 12))
      (C8.pss_cut (ps_if (pt_cmpR op_lt (pv 2) (pv 1) (nomark _))
          (pss_one (ps_set (i := 11) scLDue.nd rfl (Or.inl rfl) (pe_op op_cat (pe_op op_cat (pe_op op_cat (pe_op op_cat (pe_call G2 hr rfl m2 F2.kp b2 .nil pass0 (pa_cons (pv 8) (pa_cons (pe_un un_neg pe_int) pa_nil))) (pe_lst (pa_cons (pv 5) pa_nil)))
            (pv 9)) (pe_lst (pa_cons (pe_op op_add (pv 5) pe_int) pa_nil))) (pe_call G2 hr rfl m2 F2.kp b2 .nil pass0 (pa_cons (pv 10) (pa_cons pe_int pa_nil))))))
          (pss_one (ps_set (i := 11) scLDue.nd rfl (Or.inl rfl) (pe_op op_cat (pe_op op_cat (pe_op op_cat (pe_op op_cat (pe_call G2 hr rfl m2 F2.kp b2 .nil pass0 (pa_cons (pv 8) (pa_cons pe_int pa_nil))) (pe_lst (pa_cons (pe_op op_add (pv 5) pe_int) pa_nil)))
            (pv 9)) (pe_lst (pa_cons (pv 5) pa_nil))) (pe_call G2 hr rfl m2 F2.kp b2 .nil pass0 (pa_cons (pv 10) (pa_cons (pe_un un_neg pe_int) pa_nil)))))))
      (pss_one (ps_ret (pe_op op_catA (pe_op op_catA (pe_slice sl_tup (pv 0) po_none (po_some (pv 3))) (pe_callTy call_tuple_of (by rfl) T.m_tuple (by decide +kernel) (pa_cons (pv 11) pa_nil))) (pe_slice sl_tup (pv 0) (po_some (pv 4)) po_none))))))))))), ?_⟩
    have hlt := hp.lt
    -- first, last = span(shape, one)
    refine ⟨_, rfl, _, rfl, x, n, one, t, rfl, ht, hlt.1, hn, fun f l q H1 S s1 nq hq => ?_⟩
    refine ⟨q, _, rfl, SqT.of hq, rfl, _, _, rfl, _, _, rfl, rfl, ?_⟩
    obtain ⟨of1, ol⟩ := hp.span S
    have S1 := S.fs; have S2 := S.sl; have S3 := S.ln
    -- deep, low, high
    refine ⟨_, rfl, _, rfl, t, _, _, _, rfl, rfl, SqT.of (s1 _ _ ht), dps_at rfl hlt.1, ?_⟩
    obtain ⟨lo, hi, elo, ehi, hlh⟩ : ∃ lo hi : Nat, (if (other : Int) < (one : Int) then (other : Int) else (one : Int)) = (lo : Int) ∧ (if (other : Int) > (one : Int) then (other : Int) else (one : Int)) = (hi : Int) ∧
        ((other < one ∧ lo = other ∧ hi = one) ∨ (one < other ∧ lo = one ∧ hi = other)) := by
      rcases Nat.lt_or_gt_of_ne hlt.2.2 with z | z
      · exact ⟨one, other, by rw [if_neg (by omega)], by rw [if_pos (by omega)], .inr ⟨z, rfl, rfl⟩⟩
      · exact ⟨other, one, by rw [if_pos (by omega)], by rw [if_neg (by omega)], .inl ⟨z, rfl, rfl⟩⟩
    refine ⟨_, rfl, _, rfl, _, _, rfl, ?_⟩
    rw [elo]
    refine ⟨_, rfl, _, rfl, _, _, rfl, ?_⟩
    rw [ehi]
    have en : (dps x 0 n).length = n := by rw [dps_len]; omega
    have l1 : ((lo : Int) + 1) = ((lo + 1 : Nat) : Int) := by omega
    have l2 : ((hi : Int) + 1) = ((hi + 1 : Nat) : Int) := by omega
    have ht1 := s1 _ _ ht
    -- a
    refine ⟨_, rfl, _, rfl, _, rfl, _, rfl, _, rfl, t, _, rfl, SqT.of ht1, nw_hi (by rw [en]; omega), fun p2 n2 => ?_⟩
    rw [cut_dps (by omega) (by omega)]
    refine ⟨p2, rfl, ⟨_, SqT.of upd_same⟩, fun A1 nA => copy_tup upd_same nA (by rw [dps_len]; omega) (by show 12 < 13; decide) ?_⟩
    have s2 := (s1.trans (same_new (o := .tup (dps x f lo)) n2)).trans (same_new (o := .lst (dps x f lo)) nA)
    have hA : (upd (upd H1 p2 (.tup (dps x f lo))) A1 (.lst (dps x f lo))) A1 = some (.lst (dps x f lo)) := upd_same
    generalize (upd (upd H1 p2 (.tup (dps x f lo))) A1 (.lst (dps x f lo))) = H2 at s2 hA
    have ht2 := s2 _ _ ht
    -- b
    refine ⟨_, rfl, _, rfl, _, _, rfl, rfl, _, rfl, _, rfl, _, rfl, t, _, rfl, SqT.of ht2, by rw [l1]; exact nw_lo (by omega) (by rw [en]; omega), fun p3 n3 => ?_⟩
    rw [l1, cut_dps (by omega) (by omega)]
    refine ⟨p3, rfl, ⟨_, SqT.of upd_same⟩, fun B1 nB => copy_tup upd_same nB (by rw [dps_len]; omega) (by show 12 < 13; decide) ?_⟩
    have s3' := (same_new (o := .tup (dps x (lo + 1) hi)) n3).trans (same_new (o := .lst (dps x (lo + 1) hi)) nB)
    have hB : (upd (upd H2 p3 (.tup (dps x (lo + 1) hi))) B1 (.lst (dps x (lo + 1) hi))) B1 = some (.lst (dps x (lo + 1) hi)) := upd_same
    generalize (upd (upd H2 p3 (.tup (dps x (lo + 1) hi))) B1 (.lst (dps x (lo + 1) hi))) = H3 at s3' hB
    have hA := s3' _ _ hA
    have s3 := s2.trans s3'
    have ht3 := s3 _ _ ht
    -- c
    refine ⟨fun σ' H' => ∃ A1 B1 C1 : Addr, σ' = [some (.ref t), some (.int one), some (.int other), some (.int f), some (.int l), some (.int (x one)), some (.int lo), some (.int hi), some (.ref A1), some (.ref B1), some (.ref C1), none, none] ∧ Same H H' ∧
      H' A1 = some (.lst (dps x f lo)) ∧ H' B1 = some (.lst (dps x (lo + 1) hi)) ∧ H' C1 = some (.lst (dps x (hi + 1) l)), ?_, ?_⟩
    · refine ⟨_, rfl, _, rfl, _, _, rfl, rfl, _, rfl, _, rfl, _, rfl, t, _, rfl, SqT.of ht3, by rw [l2]; exact nw_lo (by omega) (by rw [en]; omega), fun p4 n4 => ?_⟩
      rw [l2, cut_dps (by omega) (by omega)]
      refine ⟨p4, rfl, ⟨_, SqT.of upd_same⟩, fun C1 nC => copy_tup upd_same nC (by rw [dps_len]; omega) (by show 12 < 13; decide) ?_⟩
      have s4 := (same_new (o := .tup (dps x (hi + 1) l)) n4).trans (same_new (o := .lst (dps x (hi + 1) l)) nC)
      exact ⟨A1, B1, C1, rfl, s3.trans s4, s4 _ _ hA, s4 _ _ hB, upd_same⟩
    rintro σ' H4 ⟨A2, B2, C2, rfl, s4, hA2, hB2, hC2⟩
    -- the whole
    refine ⟨fun σ' H' => ∃ (W : Addr) (L : List Int), σ' = [some (.ref t), some (.int one), some (.int other), some (.int f), some (.int l), some (.int (x one)), some (.int lo), some (.int hi), some (.ref A2), some (.ref B2), some (.ref C2), some (.ref W), none] ∧ Same H H' ∧
      H' W = some (.lst (L.map V.int)) ∧ Whole x n one other f l L, ?_, ?_⟩
    · refine ⟨_, rfl, _, rfl, _, _, rfl, rfl, _, rfl, ?_⟩
      refine ite2 (fun hlo => ?_) (fun hlo => ?_)
      · have hlo := of_decide_eq_true hlo
        have e1 : lo = other ∧ hi = one := by omega
        obtain ⟨e1, e2⟩ := e1
        subst e1; subst e2
        refine ⟨_, rfl, _, rfl, A2, -1, _, rfl, hA2, by rw [seg_len]; omega, fun q1 H5 s5 n5 h5 => ?_⟩
        refine ⟨_, rfl, (by show 1 ≤ sizeLine; decide), fun q2 nq2 => ?_⟩
        have s6 := same_new (o := .lst [V.int (x hi)]) nq2
        have h6 := @upd_same H5 q2 (.lst [V.int (x hi)])
        generalize upd H5 q2 (.lst [V.int (x hi)]) = H6 at s6 h6
        refine cat_new (s6 _ _ h5) h6 (by rw [List.length_map, List.length_map, seg_len]; show _ + 1 ≤ 1000; omega) fun q3 H7 s7 h7 => ?_
        refine ⟨_, rfl, cat_new h7 (s7 _ _ (s6 _ _ (s5 _ _ hB2))) (by rw [List.length_append, List.length_map, List.length_map, seg_len, dps_len]; show _ + 1 + _ ≤ 1000; omega) fun q4 H8 s8 h8 => ?_⟩
        refine ⟨_, rfl, _, _, rfl, rfl, (by show 1 ≤ sizeLine; decide), fun q5 nq5 => ?_⟩
        have s9 := same_new (o := .lst [V.int (x hi + 1)]) nq5
        have h9 := @upd_same H8 q5 (.lst [V.int (x hi + 1)])
        generalize upd H8 q5 (.lst [V.int (x hi + 1)]) = H9 at s9 h9
        refine cat_new (s9 _ _ h8) h9 (by rw [List.length_append, List.length_append, List.length_map, List.length_map, seg_len, dps_len]; show _ + 1 + _ + 1 ≤ 1000; omega) fun q6 H10 s10 h10 => ?_
        have s510 := (s5.trans (s6.trans (s7.trans (s8.trans (s9.trans s10)))))
        refine ⟨_, rfl, C2, 1, _, rfl, s510 _ _ hC2, by rw [seg_len]; omega, fun q7 H11 s11 n11 h11 => ?_⟩
        refine cat_new (s11 _ _ h10) h11 (by simp only [List.length_append, List.length_map, seg_len, List.length_singleton]; omega) fun q8 H12 s12 h12 => ?_
        refine ⟨q8, (((seg x f lo).map (· + -1) ++ [x hi]) ++ seg x (lo + 1) hi ++ [x hi + 1]) ++ (seg x (hi + 1) l).map (· + 1), rfl, s4.trans (s510.trans (s11.trans s12)), ?_, ?_, ?_⟩
        · rw [h12, List.map_append, List.map_append, List.map_append, List.map_append]
          rfl
        · simp only [List.length_append, List.length_map, seg_len, List.length_singleton]
          omega
        · have e := dueA_eq (n := n) (f := f) (l := l) hp.1 (by omega) (by omega) (by omega) S3
          exact e
      · have hlo : ¬ (other : Int) < (one : Int) := fun z => hlo (decide_eq_true z)
        have e1 : lo = one ∧ hi = other := by omega
        obtain ⟨e1, e2⟩ := e1
        subst e1; subst e2
        refine ⟨_, rfl, A2, 1, _, rfl, hA2, by rw [seg_len]; omega, fun q1 H5 s5 n5 h5 => ?_⟩
        refine ⟨_, rfl, _, _, rfl, rfl, (by show 1 ≤ sizeLine; decide), fun q2 nq2 => ?_⟩
        have s6 := same_new (o := .lst [V.int (x lo + 1)]) nq2
        have h6 := @upd_same H5 q2 (.lst [V.int (x lo + 1)])
        generalize upd H5 q2 (.lst [V.int (x lo + 1)]) = H6 at s6 h6
        refine cat_new (s6 _ _ h5) h6 (by rw [List.length_map, List.length_map, seg_len]; show _ + 1 ≤ 1000; omega) fun q3 H7 s7 h7 => ?_
        refine ⟨_, rfl, cat_new h7 (s7 _ _ (s6 _ _ (s5 _ _ hB2))) (by rw [List.length_append, List.length_map, List.length_map, seg_len, dps_len]; show _ + 1 + _ ≤ 1000; omega) fun q4 H8 s8 h8 => ?_⟩
        refine ⟨_, rfl, (by show 1 ≤ sizeLine; decide), fun q5 nq5 => ?_⟩
        have s9 := same_new (o := .lst [V.int (x lo)]) nq5
        have h9 := @upd_same H8 q5 (.lst [V.int (x lo)])
        generalize upd H8 q5 (.lst [V.int (x lo)]) = H9 at s9 h9
        refine cat_new (s9 _ _ h8) h9 (by rw [List.length_append, List.length_append, List.length_map, List.length_map, seg_len, dps_len]; show _ + 1 + _ + 1 ≤ 1000; omega) fun q6 H10 s10 h10 => ?_
        have s510 := (s5.trans (s6.trans (s7.trans (s8.trans (s9.trans s10)))))
        refine ⟨_, rfl, _, rfl, C2, -1, _, rfl, s510 _ _ hC2, by rw [seg_len]; omega, fun q7 H11 s11 n11 h11 => ?_⟩
        refine cat_new (s11 _ _ h10) h11 (by simp only [List.length_append, List.length_map, seg_len, List.length_singleton]; omega) fun q8 H12 s12 h12 => ?_
        refine ⟨q8, (((seg x f lo).map (· + 1) ++ [x lo + 1]) ++ seg x (lo + 1) hi ++ [x lo]) ++ (seg x (hi + 1) l).map (· + -1), rfl, s4.trans (s510.trans (s11.trans s12)), ?_, ?_, ?_⟩
        · rw [h12, List.map_append, List.map_append, List.map_append, List.map_append]
          rfl
        · simp only [List.length_append, List.length_map, seg_len, List.length_singleton]
          omega
        · have e := dueB_eq (n := n) (f := f) (l := l) hp.1 (by omega) (by omega) (by omega) S3
          exact e
    · rintro σ' H5 ⟨W, L, rfl, s5, hW, hL, eL⟩
      have ht5 := s5 _ _ ht
      -- shape[:first] + tuple(whole) + shape[last:]
      refine ⟨_, rfl, _, rfl, _, rfl, t, _, rfl, SqT.of ht5, nw_hi (by rw [en]; omega), fun p6 n6 => ?_⟩
      rw [cut_dps_lo (by omega)]
      have s6 := same_new (o := .tup (dps x 0 f)) n6
      have h6 := @upd_same H5 p6 (.tup (dps x 0 f))
      generalize upd H5 p6 (.tup (dps x 0 f)) = H6 at s6 h6
      refine ⟨_, rfl, W, _, rfl, .inl ⟨SqL.of (s6 _ _ hW), fun p7 n7 => ?_⟩⟩
      have s7 := same_new (o := .tup (L.map V.int)) n7
      have h7 := @upd_same H6 p7 (.tup (L.map V.int))
      generalize upd H6 p7 (.tup (L.map V.int)) = H7 at s7 h7
      refine cat_tup (s7 _ _ h6) h7 (Nat.le_trans (by rw [dps_len, List.length_map]; show _ ≤ 1000; omega) (by decide : 1000 ≤ sizeLine)) fun r1 H8 s8 h8 => ?_
      refine ⟨_, rfl, _, rfl, _, rfl, t, _, rfl, SqT.of (s8 _ _ (s7 _ _ (s6 _ _ ht5))), nw_lo (by omega) (by rw [en]; omega), fun p9 n9 => ?_⟩
      rw [cut_dps_hi (by omega)]
      have s9 := same_new (o := .tup (dps x l n)) n9
      have h9 := @upd_same H8 p9 (.tup (dps x l n))
      generalize upd H8 p9 (.tup (dps x l n)) = H9 at s9 h9
      refine cat_tup (s9 _ _ h8) h9 (Nat.le_trans (by rw [List.length_append, dps_len, dps_len, List.length_map]; show _ ≤ 1000; omega) (by decide : 1000 ≤ sizeLine)) fun r2 H10 s10 h10 => ?_
      refine k f l r2 H10 S (s5.trans (s6.trans (s7.trans (s8.trans (s9.trans s10))))) ?_
      rw [h10]
      show some (HO.tup (((seg x 0 f).map V.int ++ L.map V.int) ++ (seg x l n).map V.int)) = some (HO.tup ((seg (rg x one other f l) 0 n).map V.int))
      rw [← List.map_append, ← List.map_append, eL]
end
end Hs
namespace Hs
open PySem L2
/-! ### data of ints -/
theorem lay_nums : ∀ ns : List Int, PyData.canLayAll0 (ns.map PyData.int) = true
  | [] => by simp [PyData.canLayAll0]
  | _ :: r => by simp [PyData.canLayAll0, PyData.canLay0, lay_nums r]
theorem deep_nums : ∀ ns : List Int, PyData.depthAll (ns.map PyData.int) = 0
  | [] => by simp [PyData.depthAll]
  | _ :: r => by simp [PyData.depthAll, PyData.depth, deep_nums r]
theorem shl_nums (ns : List Int) : SeqAt.shaped (.list (ns.map PyData.int)) = true := by
  simp [SeqAt.shaped, PyData.canLay0, PyData.depth, lay_nums, deep_nums]
theorem sht_nums (ns : List Int) : SeqAt.shaped (.tuple (ns.map PyData.int)) = true := by
  simp [SeqAt.shaped, PyData.canLay0, PyData.depth, lay_nums, deep_nums]
theorem dp_nums {K : PySem.W.Frag} {H : Hp} : ∀ ns : List Int, DpAll K H (ns.map V.int) (ns.map PyData.int)
  | [] => .nil
  | i :: r => .cons (.int i) (dp_nums r)
theorem dpt_nums {K : PySem.W.Frag} {H : Hp} {a : Addr} {ns : List Int} (h : H a = some (.tup (ns.map V.int))) : Dp K H (.ref a) (.tuple (ns.map PyData.int)) := .tup (SqT.of h) (dp_nums ns)
theorem dpl_nums {K : PySem.W.Frag} {H : Hp} {a : Addr} {ns : List Int} (h : H a = some (.lst (ns.map V.int))) : Dp K H (.ref a) (.list (ns.map PyData.int)) := .lst (SqL.of h) (dp_nums ns)
theorem eqv_nums (ns : List Int) : PyData.eqv (.tuple (ns.map PyData.int)) (.tuple (ns.map PyData.int)) = true := SeqAt.eqv_refl _ (SeqAt.canLay_of_shaped (sht_nums ns))
theorem eqvl_nums (ns : List Int) : PyData.eqv (.list (ns.map PyData.int)) (.list (ns.map PyData.int)) = true := SeqAt.eqv_refl _ (SeqAt.canLay_of_shaped (shl_nums ns))
theorem least_of {q : Nat → Prop} : ∀ (m : Nat), (∃ j, j < m ∧ q j) → ∃ j, j < m ∧ q j ∧ ∀ i, i < j → ¬ q i
  | 0, ⟨j, h, _⟩ => by omega
  | m + 1, ⟨j, h, hq⟩ => by
    by_cases e : ∃ j, j < m ∧ q j
    · obtain ⟨i, h1, h2, h3⟩ := least_of m e
      exact ⟨i, by omega, h2, h3⟩
    · refine ⟨j, h, hq, fun i hi hqi => e ⟨i, by omega, hqi⟩⟩
theorem dps_flat {x : Nat → Int} {a b : Nat} : (dps x a b).all flatV = true := by
  rw [List.all_eq_true]
  intro v hv
  obtain ⟨z, _, rfl⟩ := List.mem_map.mp hv
  rfl
theorem cut_dps_min {x : Nat → Int} {n a b : Nat} (h : a ≤ b) : cutV (dps x 0 n) (some (a : Int)) (some (b : Int)) = dps x (min a n) (min b n) := by
  have e := cut_dps (x := x) (n := n) (a := min a n) (b := min b n) (by omega) (by omega)
  rw [← e]
  unfold cutV
  rw [dps_len, HT.sIx_nat, HT.sIx_nat, HT.sIx_nat, HT.sIx_nat]
  have e1 : min (min a n) (n - 0) = min a (n - 0) := by omega
  have e2 : min (min b n) (n - 0) = min b (n - 0) := by omega
  rw [e1, e2]
theorem all_rep (n : Nat) : (List.replicate n true).all id = true := by
  rw [List.all_eq_true]
  intro b hb
  rw [List.mem_replicate] at hb
  exact hb.2
section
variable {P : Program} {w : World} {K : PySem.W.Frag} {mg : Str → Option Value} {base : Heap} {C : Addr}
/-! ### the law's own is_shape -/
def spLShape : Sp := fun vs H Q _ => ∃ (x : Nat → Int) (n : Nat) (t : Addr), vs = [.ref t] ∧ H t = some (ti x n) ∧ n ≤ 39 ∧ Sh x 0 0 n ∧ ∀ H' : Hp, Same H H' → Q (.bl true) H'
theorem ok_lShape {f : Addr} {fd : FuncData} (F : Fun K "_law_is_shape" "_law_is_shape" sLShape f fd) (T : Txt K mg C) : FnOk P w K mg base CX0 2 f fd ["_law_thing"] spLShape := by
  obtain ⟨f1, fd1, m1, F1, b1⟩ := T.hLInt
  have G1 : FnOk P w K mg base CX0 1 f1 fd1 ["_law_thing"] spIsInt := ok_lInt F1 T
  refine F.ok scLShape (fun vs H Q E h => ?_) (fun cdv A outer s H vs Q E hr h => ?_)
  · obtain ⟨x, n, t, rfl, _⟩ := h
    rfl
  · obtain ⟨x, n, t, rfl, ht, hn, hsh, k⟩ := h
    refine ⟨_, pss_cons (ps_if (PW.pt (pw_or (pt_not (pt_val (pe_callB call_isi (by rfl) T.m_isinstance (by decide +kernel) (pa_cons (pv 0) (pa_cons (pe_bltn (v := .ty "tuple") (by rfl) T.m_tuple (by decide +kernel) rfl) pa_nil)))))
          (pw_or1 (pt_cmpR op_gt (pe_callB call_len_seq (by rfl) T.m_len PySem.boot_len (pa_cons (pv 0) pa_nil)) pe_int (nomark _))))) (pss_one (ps_ret pe_bl)) pss_nil)
      (pss_cons (ps_if (pt_not (pt_val (pe_callB (cr_all rfl) (by rfl) T.m_all (by decide +kernel) (pa_cons (pe_lc (own := [("_law_depth", 5)]) (g := gName 5) (by rfl) scLShape.nd (pi_tup (pv 0))
            (blkOk_by (own := [("_law_depth", 5)]) (N := ["_law_thing", "_law_left", "_law_turn", "_law_at", "_law_near", "_law_depth"]) (sc := defScope sLShape) (by decide +kernel))
            (fun _ _ _ _ _ => pg_name (i := 5) scLShape.nd rfl (Or.inl rfl)) (fun _ _ _ _ _ => pts_nil)
            (fun _ _ _ _ _ => pe_and (pe_call G1 hr rfl m1 F1.kp b1 .nil pass0 (pa_cons (pv 5) pa_nil)) (pe_one (pe_chain op_le op_lt pe_int (pv 5) pe_int)))) pa_nil)))) (pss_one (ps_ret pe_bl)) pss_nil)
      (pss_cons (ps_set (i := 1) scLShape.nd rfl (Or.inl rfl) (pe_callTy call_list_of (by rfl) T.m_list (by decide +kernel) (pa_cons (pv 0) pa_nil)))
      (pss_cons (ps_for PassesOwn.never rfl (pi_range1 (by rfl) T.m_range (pa_cons (pe_op op_sub (pe_callB call_len_seq (by rfl) T.m_len PySem.boot_len (pa_cons (pv 0) pa_nil)) pe_int) pa_nil)) (pg_name (i := 2) scLShape.nd rfl (Or.inl rfl))
        (pss_cons (ps_set (i := 3) scLShape.nd rfl (Or.inl rfl) (pe_bm PySem.F.plainAttrs_list PySem.F.slot_list_index PySem.F.type_list_index mt_index (pv 1) (pa_cons (pe_callB (cr_max rfl) (by rfl) T.m_max (by decide +kernel) (pa_cons (pv 1) pa_nil)) pa_nil)))
        (pss_cons (ps_set (i := 4) scLShape.nd rfl (Or.inl rfl) (pe_op op_cat (pe_slice sl_list (pv 1) (po_some (pe_callB (call_max2 rfl) (by rfl) T.m_max (by decide +kernel) (pa_cons pe_int (pa_cons (pe_op op_sub (pv 3) pe_int) pa_nil)))) (po_some (pv 3)))
            (pe_slice sl_list (pv 1) (po_some (pe_op op_add (pv 3) pe_int)) (po_some (pe_op op_add (pv 3) pe_int)))))
        (pss_cons (ps_if (pt_cmpR op_ne (pe_callB (cr_max rfl) (by rfl) T.m_max (by decide +kernel) (pa_cons (pv 4) pa_nil)) (pe_op op_sub (pe_ix ix_list (pv 1) (pv 3) (fun _ _ => rfl)) pe_int) (nomark _)) (pss_one (ps_ret pe_bl)) pss_nil)
        (pss_one (ps_set (i := 1) scLShape.nd rfl (Or.inl rfl) (pe_op op_cat (pe_slice sl_list (pv 1) po_none (po_some (pv 3))) (pe_slice sl_list (pv 1) (po_some (pe_op op_add (pv 3) pe_int)) po_none))))))))
      (pss_one (ps_ret (pe_or (pe_cmpR (op_eqD hr.units) (pv 1) (pe_lst pa_nil) (nomark _)) (pe_one (pe_cmpR (op_eqD hr.units) (pv 1) (pe_lst (pa_cons pe_int pa_nil)) (nomark _)))))))))
      , ?_⟩
    have el : (dps x 0 n).length = n := by rw [dps_len]; omega
    -- isinstance(thing, tuple), len(thing) > 39
    refine ⟨_, rfl, .ref t, .ty "tuple", .type "tuple", .type "tuple", true, rfl, .ty _, .base (.tup ht), kit_ty (by decide +kernel), true, rfl, ?_⟩
    refine iteF ?_
    refine ⟨_, rfl, t, _, rfl, .inr (SqT.of ht), _, _, rfl, rfl, _, rfl, ?_⟩
    refine ite2 (fun h => ?_) (fun _ => ?_)
    · have h := of_decide_eq_true h
      exfalso
      omega
    -- all(..)
    refine ⟨_, rfl, t, rfl, ⟨_, SqT.of ht⟩, fun D hD => ?_⟩
    have ntD : t ≠ D := ne_of_none ht hD
    refine lc_tup (K := K) (a := t) (xs := dps x 0 n) (fun i H' => H' = upd H D (.lst ((List.replicate i true).map V.bl))) rfl ?_ ?_ ?_
    · rintro i H' _ rfl
      exact SqT.of (by rw [upd_ne ntD]; exact ht)
    · rintro i v H' hi rfl
      obtain ⟨hi, rfl⟩ := dps_inv hi
      have g0 := hsh.ge (0 + i) (by omega) (by omega)
      have g1 := hsh.lt (0 + i) (by omega) (by omega)
      refine ⟨rfl, keepT ?_⟩
      refine ⟨_, rfl, x (0 + i), rfl, true, rfl, iteT ?_⟩
      refine ⟨_, rfl, _, _, rfl, rfl, _, rfl, ?_⟩
      rw [decide_eq_true g0]
      refine iteT ⟨_, _, rfl, rfl, ?_⟩
      refine ⟨_, upd_same, ?_, ?_⟩
      · rw [List.length_map, List.length_replicate]
        exact small1000 (by omega)
      · show upd _ D (.lst (_ ++ [V.bl (decide (x (0 + i) < 40))])) = _
        rw [decide_eq_true (by omega : x (0 + i) < 40), upd_upd, List.replicate_succ', List.map_append]
        rfl
    · rintro H' rfl
      refine ⟨D, List.replicate _ true, rfl, SqL.of upd_same, _, rfl, ?_⟩
      rw [all_rep]
      refine iteF ?_
      -- left = list(thing)
      have sD := same_new (o := .lst ((List.replicate (dps x 0 n).length true).map V.bl)) hD
      generalize upd H D (.lst ((List.replicate (dps x 0 n).length true).map V.bl)) = H1 at sD
      have ht1 := sD _ _ ht
      refine ⟨_, rfl, t, _, rfl, .inr (SqT.of ht1), fun l1 nl1 => ?_⟩
      have s1 := sD.trans (same_new (o := .lst (dps x 0 n)) nl1)
      have h1 := @upd_same H1 l1 (.lst (dps x 0 n))
      generalize upd H1 l1 (.lst (dps x 0 n)) = H2 at s1 h1
      have ht2 := s1 _ _ ht
      refine ⟨_, rfl, t, _, rfl, .inr (SqT.of ht2), _, _, rfl, rfl, _, rfl, by omega, by omega, for_range (lo := 0) (fun i σ H' => ∃ (z : Nat → Int) (m : Nat) (l : Addr) (v2 v3 v4 : Option V), σ = [some (.ref t), some (.ref l), v2, v3, v4, none] ∧ Same H H' ∧
          m + i = n ∧ H' l = some (.lst (dps z 0 m)) ∧ Sh z 0 0 m) ?_ ?_ ?_⟩
      · exact ⟨x, n, l1, none, none, none, rfl, s1, rfl, h1, hsh⟩
      · rintro i σ H3 hi ⟨z, m, l, v2, v3, v4, rfl, s3, em, hl, hz⟩
        rw [el] at hi
        have hm : 2 ≤ m := by omega
        have zl : (dps z 0 m).length = m := by rw [dps_len]; omega
        -- at = left.index(max(left))
        refine ⟨_, rfl, .inl ⟨rfl, _, SqL.of hl⟩, _, rfl, l, seg z 0 m, rfl, SqL.of hl, by rw [seg_len]; omega, fun mx hmx hle => ?_⟩
        obtain ⟨j0, _, hj0, e0⟩ := seg_mem hmx
        obtain ⟨at1, hat, eat, fst⟩ := least_of (q := fun j => z j = mx) m ⟨j0, hj0, e0.symm⟩
        have mxa : ∀ j, 0 ≤ j → j < m → z j ≤ z at1 := fun j _ hj => by
          rw [eat]
          refine hle _ (List.mem_of_getElem? (i := j) ?_)
          rw [seg_get j (by omega), Nat.zero_add]
        obtain ⟨near1, near2, near3⟩ := hz.near at1 (Nat.zero_le _) hat mxa hm
        refine ⟨l, _, _, at1, _, rfl, rfl, SqL.of hl, rfl, dps_flat, dps_get hat, ?_, ?_, ?_⟩
        · show (z at1 == mx) = true
          rw [eat]; exact beq_self_eq_true _
        · intro j v hj hv
          rw [dps_get (by omega)] at hv
          cases hv
          show (z j == mx) = false
          exact beq_eq_false_iff_ne.mpr (fst j hj)
        -- near
        have e1 : (if ((at1 : Int) - 1) > 0 then ((at1 : Int) - 1) else 0) = ((at1 - 1 : Nat) : Int) := by
          by_cases q : ((at1 : Int) - 1) > 0
          · rw [if_pos q]; omega
          · rw [if_neg q]; omega
        have e2 : ((at1 : Int) + 1) = ((at1 + 1 : Nat) : Int) := by omega
        have e3 : ((at1 : Int) + 2) = ((at1 + 2 : Nat) : Int) := by omega
        refine ⟨_, rfl, _, rfl, _, _, rfl, rfl, _, _, rfl, ?_⟩
        rw [e1]
        refine ⟨_, rfl, _, rfl, _, rfl, l, _, rfl, SqL.of hl, fun p1 np1 => ?_⟩
        rw [cut_dps (by omega) (by omega)]
        have s4 := same_new (o := .lst (dps z (at1 - 1) at1)) np1
        have h4 := @upd_same H3 p1 (.lst (dps z (at1 - 1) at1))
        generalize upd H3 p1 (.lst (dps z (at1 - 1) at1)) = H4 at s4 h4
        refine ⟨_, rfl, _, rfl, _, _, rfl, rfl, _, rfl, _, rfl, _, _, rfl, rfl, _, rfl, l, _, rfl, SqL.of (s4 _ _ hl), fun p2 np2 => ?_⟩
        rw [e2, e3, cut_dps_min (by omega)]
        have s5 := same_new (o := .lst (dps z (min (at1 + 1) m) (min (at1 + 2) m))) np2
        have h5 := @upd_same H4 p2 (.lst (dps z (min (at1 + 1) m) (min (at1 + 2) m)))
        generalize upd H4 p2 (.lst (dps z (min (at1 + 1) m) (min (at1 + 2) m))) = H5 at s5 h5
        refine cat_new (s5 _ _ h4) h5 (by rw [dps_len, dps_len]; omega) fun p3 H6 s6 h6 => ?_
        have s36 := s4.trans (s5.trans s6)
        have hl6 := s36 _ _ hl
        -- if max(near) != left[at] - 1
        have h6' : H6 p3 = some (.lst ((seg z (at1 - 1) at1 ++ seg z (min (at1 + 1) m) (min (at1 + 2) m)).map V.int)) := by
          rw [h6, List.map_append]
        refine ⟨_, rfl, p3, _, rfl, SqL.of h6', ?_, fun my hmy hley => ?_⟩
        · rw [List.length_append, seg_len, seg_len]
          omega
        have ey : my = z at1 - 1 := by
          have up : my ≤ z at1 - 1 := by
            rcases List.mem_append.mp hmy with q | q
            · obtain ⟨j, j1, j2, rfl⟩ := seg_mem q
              have ej : j = at1 - 1 := by omega
              subst ej
              exact near2 (by omega)
            · obtain ⟨j, j1, j2, rfl⟩ := seg_mem q
              have ej : j = at1 + 1 := by omega
              subst ej
              exact near3 (by omega)
          have dn : z at1 - 1 ≤ my := by
            rcases near1 with ⟨q1, q2⟩ | ⟨q1, q2⟩
            · rw [← q2]
              refine hley _ (List.mem_append_left _ (List.mem_of_getElem? (i := 0) ?_))
              rw [seg_get 0 (by omega), Nat.add_zero]
            · rw [← q2]
              refine hley _ (List.mem_append_right _ (List.mem_of_getElem? (i := 0) ?_))
              rw [seg_get 0 (by omega)]
              have : min (at1 + 1) m + 0 = at1 + 1 := by omega
              rw [this]
          omega
        refine ⟨_, rfl, _, rfl, l, _, _, _, rfl, rfl, SqL.of hl6, dps_at rfl hat, _, _, rfl, rfl, rfl, _, rfl, ?_⟩
        show if (!decide (V.int my = V.int (z at1 - 1))) = true then _ else _
        rw [v_eq, decide_eq_true ey]
        refine iteF ?_
        -- left = left[:at] + left[at + 1:]
        refine ⟨_, rfl, _, rfl, _, rfl, l, _, rfl, SqL.of hl6, fun p4 np4 => ?_⟩
        rw [cut_dps_lo (by omega)]
        have s7 := same_new (o := .lst (dps z 0 at1)) np4
        have h7 := @upd_same H6 p4 (.lst (dps z 0 at1))
        generalize upd H6 p4 (.lst (dps z 0 at1)) = H7 at s7 h7
        refine ⟨_, rfl, _, rfl, _, _, rfl, rfl, _, rfl, l, _, rfl, SqL.of (s7 _ _ hl6), fun p5 np5 => ?_⟩
        rw [e2, cut_dps_hi (by omega)]
        have s8 := same_new (o := .lst (dps z (at1 + 1) m)) np5
        have h8 := @upd_same H7 p5 (.lst (dps z (at1 + 1) m))
        generalize upd H7 p5 (.lst (dps z (at1 + 1) m)) = H8 at s8 h8
        refine cat_new (s8 _ _ h7) h8 (by rw [dps_len, dps_len]; omega) fun p6 H9 s9 h9 => ?_
        refine ⟨del z at1, m - 1, p6, _, _, _, rfl, s3.trans (s36.trans (s7.trans (s8.trans s9))), by omega, ?_, hz.del at1 (Nat.zero_le _) hat mxa⟩
        rw [h9]
        show some (HO.lst ((seg z 0 at1).map V.int ++ (seg z (at1 + 1) m).map V.int)) = some (HO.lst ((seg (del z at1) 0 (m - 1)).map V.int))
        rw [← List.map_append, seg_del hat]
      · rintro σ H3 ⟨z, m, l, v2, v3, v4, rfl, s3, em, hl, hz⟩
        rw [el] at em
        refine ⟨_, rfl, (by show 0 ≤ sizeLine; decide), fun p1 np1 => ?_⟩
        have s4 := same_new (o := .lst []) np1
        have h4 := @upd_same H3 p1 (.lst [])
        generalize upd H3 p1 (.lst []) = H4 at s4 h4
        have hl4 := s4 _ _ hl
        refine ⟨_, _, dpl_nums hl4, dpl_nums (ns := []) h4, shl_nums _, shl_nums _, _, rfl, ?_⟩
        by_cases hm : m = 0
        · subst hm
          refine iteT ?_
          exact k _ (s3.trans s4)
        · have hm1 : m = 1 := by omega
          subst hm1
          refine iteF ?_
          refine ⟨_, rfl, (by show 1 ≤ sizeLine; decide), fun p2 np2 => ?_⟩
          have s5 := same_new (o := .lst [V.int 0]) np2
          have h5 := @upd_same H4 p2 (.lst [V.int 0])
          generalize upd H4 p2 (.lst [V.int 0]) = H5 at s5 h5
          have z0 : z 0 = 0 := by
            have g0 := hz.ge 0 (Nat.le_refl _) (by omega)
            have g1 := hz.lt 0 (Nat.le_refl _) (by omega)
            omega
          have ez : seg z 0 1 = [0] := by
            rw [← seg_one (a := 0), z0]
          have hl5 := s5 _ _ hl4
          have hl5' : H5 l = some (.lst (([0] : List Int).map V.int)) := by
            rw [hl5]
            show some (HO.lst ((seg z 0 1).map V.int)) = _
            rw [ez]
          refine ⟨_, _, dpl_nums (ns := [0]) hl5', dpl_nums (ns := [0]) h5, shl_nums _, shl_nums _, ?_⟩
          rw [eqvl_nums]
          exact k _ (s3.trans (s4.trans s5))
end
end Hs
namespace Hs
open PySem L2
/-! ### a pile of tuples -/
inductive PileAt (H : Hp) (tp : It → List V) : List Addr → List It → Prop
  | nil : PileAt H tp [] []
  | cons {a : Addr} {i : It} {as : List Addr} {W : List It} : H a = some (.tup (tp i)) → PileAt H tp as W → PileAt H tp (a :: as) (i :: W)
theorem PileAt.keep {H H' : Hp} {tp : It → List V} {as : List Addr} {W : List It} (h : PileAt H tp as W) (k : ∀ a xs, H a = some (.tup xs) → H' a = some (.tup xs)) : PileAt H' tp as W := by
  induction h with
  | nil => exact .nil
  | cons h1 _ ih => exact .cons (k _ _ h1) ih
theorem PileAt.len {H : Hp} {tp : It → List V} {as : List Addr} {W : List It} (h : PileAt H tp as W) : as.length = W.length := by
  induction h with
  | nil => rfl
  | cons _ _ ih => rw [List.length_cons, List.length_cons, ih]
theorem PileAt.app {H : Hp} {tp : It → List V} {as bs : List Addr} {W V' : List It} (h : PileAt H tp as W) (h' : PileAt H tp bs V') : PileAt H tp (as ++ bs) (W ++ V') := by
  induction h with
  | nil => exact h'
  | cons h1 _ ih => exact .cons h1 ih
theorem PileAt.last {H : Hp} {tp : It → List V} : ∀ {W : List It} {as : List Addr} {i : It}, PileAt H tp as (W ++ [i]) → ∃ as' a, as = as' ++ [a] ∧ PileAt H tp as' W ∧ H a = some (.tup (tp i))
  | [], _, i, h => by
    cases h with
    | cons h1 h2 =>
      cases h2
      exact ⟨[], _, rfl, .nil, h1⟩
  | j :: W, _, i, h => by
    cases h with
    | cons h1 h2 =>
      obtain ⟨as', a, e, h3, h4⟩ := PileAt.last h2
      exact ⟨_ :: as', a, by rw [e]; rfl, .cons h1 h3, h4⟩
theorem pile_split (W : List It) : W = [] ∨ ∃ W' i, W = W' ++ [i] := by
  cases W with
  | nil => exact .inl rfl
  | cons j W => exact .inr ⟨(j :: W).dropLast, (j :: W).getLast (by simp), (List.dropLast_concat_getLast (by simp)).symm⟩
theorem ixN_nat {n s : Nat} (h : s < n) : ixN n ((s : Nat) : Int) = some s := by
  unfold ixN
  rw [if_pos (by omega), if_pos (by omega), Int.toNat_natCast]
theorem rep_flat {α : Type} (v : α) : ∀ n : Nat, (List.replicate n [v]).flatten = List.replicate n v
  | 0 => rfl
  | n + 1 => by rw [List.replicate_succ, List.flatten_cons, rep_flat v n, List.replicate_succ]; rfl
theorem dps_zero {n : Nat} : List.replicate n (V.int 0) = dps (fun _ => 0) 0 n := by
  show _ = (seg (fun _ => (0 : Int)) 0 n).map V.int
  rw [← seg_rep, List.map_replicate]
theorem dps_set {g : Nat → Int} {n s : Nat} {z : Int} : (dps g 0 n).set s (V.int z) = dps (fset g s z) 0 n := by
  show ((seg g 0 n).map V.int).set s (V.int z) = (seg (fset g s z) 0 n).map V.int
  rw [← List.map_set, seg_set]
def tp3 (i : It) : List V := [.int (i.f : Int), .int (i.l : Int), .int i.d]
/-- tuples stay -/
def TK (H H' : Hp) : Prop := ∀ a xs, H a = some (.tup xs) → H' a = some (.tup xs)
theorem TK.of {H H' : Hp} (h : Same H H') : TK H H' := fun a xs e => h a _ e
theorem TK.fr {H H' : Hp} {d : Addr} {xs : List V} (h : Frame d H H') (hd : H d = some (.lst xs)) : TK H H' := fun a ys e => h a _ e (ne_of e hd (by intro q; cases q))
theorem TK.wr {H : Hp} {d : Addr} {xs ys : List V} (hd : H d = some (.lst xs)) : TK H (upd H d (.lst ys)) := fun a zs e => by
  rw [upd_ne (ne_of e hd (by intro q; cases q))]
  exact e
theorem TK.trans {H H1 H2 : Hp} (a : TK H H1) (b : TK H1 H2) : TK H H2 := fun c xs e => b c xs (a c xs e)
theorem Dc.lst {cs : List Int} {d l : Addr} {H : Hp} (h : Dc cs d l H) : ∃ xs, H d = some (.lst xs) := by
  obtain ⟨_, _, i, big, st, cnt, h2, _⟩ := h
  exact ⟨_, h2⟩
section
variable {P : Program} {w : World} {K : PySem.W.Frag} {mg : Str → Option Value} {base : Heap} {C : Addr}
/-! ### the law's drawn shape -/
def spDrawn : Sp := fun vs H Q _ => ∃ (cs : List Int) (d l : Addr) (n : Nat), vs = [.ref d, .int ((n : Int) + 1)] ∧ Dc cs d l H ∧ n ≤ 39 ∧
  ∀ (x : Nat → Int) (t : Addr) (H' : Hp), Sh x 0 0 n → Dc cs d l H' → Frame d H H' → H' t = some (ti x n) → H t = none → Q (.ref t) H'
/-- the state of the loop's heap -/
structure Dw (cs : List Int) (d l fl wl : Addr) (n : Nat) (H H' : Hp) (g : Nat → Int) (W : List It) (as : List Addr) : Prop where
  dc : Dc cs d l H'
  fr : Frame d H H'
  f0 : H fl = none
  w0 : H wl = none
  ne : fl ≠ wl
  fnd : H' fl = some (.lst (dps g 0 n))
  wai : H' wl = some (.lst (as.map V.ref))
  pile : PileAt H' tp3 as W
  inv : LInv n W g
theorem ok_drawn {f : Addr} {fd : FuncData} (F : Fun K "_law_shape" "_law_shape" sDrawn f fd) (T : Txt K mg C) : FnOk P w K mg base CX0 2 f fd ["_law_dice_here", "_law_words"] spDrawn := by
  obtain ⟨f1, fd1, m1, F1, b1⟩ := T.hDraw
  have G1 : FnOk P w K mg base CX0 1 f1 fd1 ["_law_dice_here", "_law_sides"] spDraw := ok_draw F1 T
  refine F.ok scDrawn (fun vs H Q E h => ?_) (fun cdv A outer s H vs Q E hr h => ?_)
  · obtain ⟨cs, d, l, n, rfl, _⟩ := h
    rfl
  · obtain ⟨cs, d, l, n, rfl, D0, hn, k⟩ := h
    refine ⟨_, pss_cons (ps_set (i := 2) scDrawn.nd rfl (Or.inl rfl) (pe_call G1 hr rfl m1 F1.kp b1 .nil pass0 (pa_cons (pv 0) (pa_cons pe_int pa_nil))))
      (pss_cons (ps_set (i := 3) scDrawn.nd rfl (Or.inl rfl) (pe_op op_rep (pe_lst (pa_cons pe_int pa_nil)) (pe_op op_sub (pv 1) pe_int)))
      (pss_cons (ps_set (i := 4) scDrawn.nd rfl (Or.inl rfl) (pe_lst (pa_cons (pe_tup (pa_cons pe_int (pa_cons (pe_op op_sub (pv 1) pe_int) (pa_cons pe_int pa_nil)))) pa_nil)))
      (pss_cons (ps_for PassesOwn.never rfl (pi_range1 (by rfl) T.m_range (pa_cons (pe_op op_mul pe_int (pv 1)) pa_nil)) (pg_name (i := 5) scDrawn.nd rfl (Or.inl rfl))
        (pss_one (ps_if (pt_cmpR op_gt (pe_callB call_len_seq (by rfl) T.m_len PySem.boot_len (pa_cons (pv 4) pa_nil)) pe_int (nomark _))
          (pss_cons (ps_asg (pe_bm0 PySem.F.plainAttrs_list PySem.F.slot_list_pop PySem.F.type_list_pop mt_pop (pv 4)) (pg_tup (by rfl) (pgs_cons (pg_name (i := 6) scDrawn.nd rfl (Or.inl rfl)) (pgs_cons (pg_name (i := 7) scDrawn.nd rfl (Or.inl rfl)) (pgs_cons (pg_name (i := 8) scDrawn.nd rfl (Or.inl rfl)) pgs_nil)))))
          (pss_one (ps_if (pt_cmpR op_lt (pv 6) (pv 7) (nomark _))
            (pss_cons (ps_set (i := 9) scDrawn.nd rfl (Or.inl rfl) (pe_op op_sub (pv 7) (pv 6)))
            (pss_cons (ps_set (i := 10) scDrawn.nd rfl (Or.inl rfl) (pe_ix ix_list (pe_lst (pa_cons (pe_call G1 hr rfl m1 F1.kp b1 .nil pass0 (pa_cons (pv 0) (pa_cons (pv 9) pa_nil))) (pa_cons pe_int (pa_cons (pe_op op_sub (pv 9) pe_int) (pa_cons (pe_op op_fdivN (pv 9) pe_int)
                (pa_cons (pe_call G1 hr rfl m1 F1.kp b1 .nil pass0 (pa_cons (pv 0) (pa_cons (pe_callB (call_min2 rfl) (by rfl) T.m_min (by decide +kernel) (pa_cons (pv 9) (pa_cons pe_int pa_nil))) pa_nil))) pa_nil)))))) (pv 2) (fun _ _ => rfl)))
            (C8.pss_cut (ps_if (pt_cmpR op_eq (pe_call G1 hr rfl m1 F1.kp b1 .nil pass0 (pa_cons (pv 0) (pa_cons pe_int pa_nil))) pe_int (nomark _))
                (pss_one (ps_set (i := 10) scDrawn.nd rfl (Or.inl rfl) (pe_call G1 hr rfl m1 F1.kp b1 .nil pass0 (pa_cons (pv 0) (pa_cons (pv 9) pa_nil))))) pss_nil)
            (pss_cons (ps_set (i := 11) scDrawn.nd rfl (Or.inl rfl) (pe_op op_add (pv 6) (pv 10)))
            (pss_cons (ps_asg (pv 8) (pg_sub (pv 3) (pv 11) set_list))
            (pss_one (ps_set (i := 4) scDrawn.nd rfl (Or.inl rfl) (pe_op op_cat (pv 4) (pe_lst (pa_cons (pe_tup (pa_cons (pv 6) (pa_cons (pv 11) (pa_cons (pe_op op_add (pv 8) pe_int) pa_nil))))
              (pa_cons (pe_tup (pa_cons (pe_op op_add (pv 11) pe_int) (pa_cons (pv 7) (pa_cons (pe_op op_add (pv 8) pe_int) pa_nil)))) pa_nil)))))))))))
            pss_nil)))
          pss_nil)))
      (pss_one (ps_ret (pe_callTy call_tuple_of (by rfl) T.m_tuple (by decide +kernel) (pa_cons (pv 3) pa_nil))))))), ?_⟩
    have en : ((n : Int) + 1 - 1) = (n : Int) := by omega
    -- way
    refine ⟨_, rfl, cs, d, l, 5, rfl, D0, by decide, by decide, fun way H1 D1 fr1 w0 w5 => ?_⟩
    -- found
    refine ⟨(by show 1 ≤ sizeLine; decide), fun p1 np1 => ?_⟩
    have s2 := same_new (o := .lst [V.int 0]) np1
    have h2 := @upd_same H1 p1 (.lst [V.int 0])
    generalize upd H1 p1 (.lst [V.int 0]) = H2 at s2 h2
    refine ⟨_, rfl, _, _, rfl, rfl, p1, _, _, rfl, rfl, h2, by omega, by omega, ?_, fun fl nfl => ?_⟩
    · show 1 * _ ≤ sizeLine
      exact Nat.le_trans (by omega : _ ≤ 1000) (by decide)
    rw [en, Int.toNat_natCast, rep_flat, dps_zero]
    have s3 := s2.trans (same_new (o := .lst (dps (fun _ => 0) 0 n)) nfl)
    have h3 := @upd_same H2 fl (.lst (dps (fun _ => 0) 0 n))
    have nfl1 : H1 fl = none := s2.free nfl
    generalize upd H2 fl (.lst (dps (fun _ => 0) 0 n)) = H3 at s3 h3
    -- waiting
    refine ⟨_, rfl, _, _, rfl, rfl, (by show 3 ≤ sizeLine; decide), fun q1 nq1 => ?_⟩
    have s4 := same_new (o := .tup [V.int 0, V.int ((n : Int) + 1 - 1), V.int 0]) nq1
    have h4 := @upd_same H3 q1 (.tup [V.int 0, V.int ((n : Int) + 1 - 1), V.int 0])
    generalize upd H3 q1 (.tup [V.int 0, V.int ((n : Int) + 1 - 1), V.int 0]) = H4 at s4 h4
    rw [en] at h4
    refine ⟨(by show 1 ≤ sizeLine; decide), fun wl nwl => ?_⟩
    have nwl3 : H3 wl = none := s4.free nwl
    have nwl1 : H1 wl = none := s3.free nwl3
    have nef : fl ≠ wl := ne_of_none (s4 _ _ h3) nwl
    have s5 := same_new (o := .lst [V.ref q1]) nwl
    have h5 := @upd_same H4 wl (.lst [V.ref q1])
    generalize upd H4 wl (.lst [V.ref q1]) = H5 at s5 h5
    have s15 := s3.trans (s4.trans s5)
    have free : ∀ b, H1 b = none → H b = none := fun b hb => by
      cases q : H b with
      | none => rfl
      | some o =>
        by_cases e : b = d
        · subst e
          obtain ⟨xs, hx⟩ := D1.lst
          rw [hx] at hb; cases hb
        · rw [fr1 b o q e] at hb; cases hb
    have st : Dw cs d l fl wl n H H5 (fun _ => 0) [⟨0, n, 0, none⟩] [q1] := ⟨D1.keep fun b o e _ => s15 b o e, fr1.trans s15.frame, free _ nfl1, free _ nwl1, nef, s5 _ _ (s4 _ _ h3), h5, .cons (s5 _ _ h4) .nil, LInv.start n _⟩
    refine ⟨_, rfl, _, _, rfl, rfl, .inl ⟨by decide, by decide⟩, _, rfl, by omega, by omega, for_range (lo := 0) (fun i σ H' => ∃ (g : Nat → Int) (W : List It) (as : List Addr) (wl : Addr) (v5 v6 v7 v8 v9 v10 v11 : Option V),
        σ = [some (.ref d), some (.int (n + 1)), some (.int way), some (.ref fl), some (.ref wl), v5, v6, v7, v8, v9, v10, v11] ∧ Dw cs d l fl wl n H H' g W as ∧ sizes W + i ≤ 2 * n + 2 ∧ W.length ≤ i + 1) ?_ ?_ ?_⟩
    · exact ⟨_, _, _, wl, none, none, none, none, none, none, none, rfl, st, by rw [sizes_one]; show 2 * (n - 0) + 1 + 0 ≤ _; omega, Nat.le_refl _⟩
    · rintro i σ H6 hi ⟨g, W, as, wl, v5, v6, v7, v8, v9, v10, v11, rfl, S, hsz, hWl⟩
      have hi : i < 2 * n + 2 := by omega
      -- len(waiting) > 0
      refine ⟨_, rfl, wl, _, rfl, .inl (SqL.of S.wai), _, _, rfl, rfl, _, rfl, ?_⟩
      refine ite2 (fun hne => ?_) (fun hne => ?_)
      · have hne := of_decide_eq_true hne
        rcases pile_split W with e | ⟨W', it, rfl⟩
        · exfalso
          subst e
          have := S.pile.len
          rw [List.length_map] at hne
          have z : as.length = 0 := this
          omega
        obtain ⟨as', a, rfl, hp', ha⟩ := S.pile.last
        have hlen' := hp'.len
        rw [List.length_append, List.length_singleton] at hWl
        -- pop
        have hdrop : ((as' ++ [a]).map V.ref).dropLast = as'.map V.ref := by
          rw [List.map_append]
          exact List.dropLast_concat
        have hlast : ((as' ++ [a]).map V.ref)[((as' ++ [a]).map V.ref).length - 1]? = some (V.ref a) := by
          rw [List.map_append, List.length_append]
          show (as'.map V.ref ++ [V.ref a])[(as'.map V.ref).length + 1 - 1]? = some (V.ref a)
          rw [Nat.add_sub_cancel, List.getElem?_append_right (Nat.le_refl _), Nat.sub_self]
          rfl
        refine ⟨_, rfl, .inl ⟨rfl, _, SqL.of S.wai⟩, wl, _, _, rfl, rfl, S.wai, hlast, ?_⟩
        rw [hdrop]
        have wld : wl ≠ d := fun e => by
          have := S.w0
          obtain ⟨xs, hx⟩ := D0.lst
          rw [e, hx] at this; cases this
        have wll : wl ≠ l := fun e => by
          have := S.w0
          rw [e, D0.1] at this; cases this
        have tk7 : TK H6 (upd H6 wl (.lst (as'.map V.ref))) := TK.wr S.wai
        have dc7 : Dc cs d l (upd H6 wl (.lst (as'.map V.ref))) := S.dc.keep fun b o e q => by
          rw [upd_ne (by rcases q with q | q <;> subst q <;> first | exact wld.symm | exact wll.symm)]
          exact e
        have fr7 : Frame d H (upd H6 wl (.lst (as'.map V.ref))) := fun b o e q => by
          rw [upd_ne (ne_of_none e S.w0)]
          exact S.fr b o e q
        have fnd7 : (upd H6 wl (.lst (as'.map V.ref))) fl = some (.lst (dps g 0 n)) := by
          rw [upd_ne S.ne]; exact S.fnd
        have wai7 := @upd_same H6 wl (.lst (as'.map V.ref))
        have ha7 := tk7 _ _ ha
        have hp7 := hp'.keep tk7
        have inv7 := S.inv
        have f0 := S.f0
        have w00 := S.w0
        have ne7 := S.ne
        generalize upd H6 wl (.lst (as'.map V.ref)) = H7 at dc7 fr7 fnd7 wai7 ha7 hp7
        refine ⟨a, _, rfl, SqT.of ha7, rfl, _, _, rfl, _, _, rfl, _, _, rfl, rfl, ?_⟩
        rw [sizes_app, sizes_one] at hsz
        -- if first < last
        refine ⟨_, rfl, _, rfl, _, _, rfl, rfl, _, rfl, ?_⟩
        refine ite2 (fun hfl => ?_) (fun hfl => ?_)
        · have hfl := of_decide_eq_true hfl
          have hfl' : it.f < it.l := by omega
          have itl : it.l ≤ n := (inv7.ok it (List.mem_append_right _ (List.mem_singleton.mpr rfl))).2
          -- many
          refine ⟨_, rfl, _, rfl, _, _, rfl, rfl, ?_⟩
          -- step
          refine ⟨_, rfl, _, rfl, cs, d, l, ((it.l : Int) - (it.f : Int)), rfl, dc7, by omega, by omega, fun a0 H8 D8 fr8 a00 a01 => ?_⟩
          refine ⟨_, rfl, _, _, rfl, rfl, _, rfl, _, _, rfl, rfl, ⟨by decide, by decide⟩, ?_⟩
          refine ⟨_, rfl, _, rfl, _, _, rfl, cs, d, l, _, rfl, D8, ?_, ?_, fun a4 H9 D9 fr9 a40 a41 => ?_⟩
          · split <;> omega
          · split <;> omega
          refine ⟨(by show 5 ≤ sizeLine; decide), fun p2 np2 => ?_⟩
          have a42 : a4 < ((it.l : Int) - (it.f : Int)) := by
            split at a41 <;> omega
          have dv0 : 0 ≤ ((it.l : Int) - (it.f : Int)).fdiv 2 := fd0 (by omega) (by decide)
          have dv1 : ((it.l : Int) - (it.f : Int)).fdiv 2 < ((it.l : Int) - (it.f : Int)) := by
            rw [Int.fdiv_eq_ediv_of_nonneg _ (by omega)]
            omega
          obtain ⟨j, rfl⟩ : ∃ j : Nat, way = (j : Int) := ⟨way.toNat, by omega⟩
          obtain ⟨z, hz, hz0, hz1⟩ : ∃ z : Int, ([V.int a0, V.int 0, V.int (((it.l : Int) - (it.f : Int)) - 1), V.int (((it.l : Int) - (it.f : Int)).fdiv 2), V.int a4] : List V)[j]? = some (V.int z) ∧ 0 ≤ z ∧ z < ((it.l : Int) - (it.f : Int)) := by
            have hj : j < 5 := by omega
            match j, hj with
            | 0, _ => exact ⟨a0, rfl, a00, a01⟩
            | 1, _ => exact ⟨0, rfl, by omega, by omega⟩
            | 2, _ => exact ⟨((it.l : Int) - (it.f : Int)) - 1, rfl, by omega, by omega⟩
            | 3, _ => exact ⟨_, rfl, dv0, dv1⟩
            | 4, _ => exact ⟨a4, rfl, a40, a42⟩
          have s10 := same_new (o := .lst [V.int a0, V.int 0, V.int (((it.l : Int) - (it.f : Int)) - 1), V.int (((it.l : Int) - (it.f : Int)).fdiv 2), V.int a4]) np2
          have h10 := @upd_same H9 p2 (.lst [V.int a0, V.int 0, V.int (((it.l : Int) - (it.f : Int)) - 1), V.int (((it.l : Int) - (it.f : Int)).fdiv 2), V.int a4])
          have fr70 := (fr8.trans fr9).trans s10.frame
          have D10 := D9.keep fun b o e _ => s10 b o e
          refine ⟨_, rfl, p2, _, _, _, rfl, rfl, SqL.of h10, at_of (j := j) rfl hz, ?_⟩
          generalize upd H9 p2 (.lst [V.int a0, V.int 0, V.int (((it.l : Int) - (it.f : Int)) - 1), V.int (((it.l : Int) - (it.f : Int)).fdiv 2), V.int a4]) = H10 at s10 h10 fr70 D10
          refine ⟨fun σ' H' => ∃ z : Int, σ' = [some (.ref d), some (.int (n + 1)), some (.int (j : Int)), some (.ref fl), some (.ref wl), some (.int (0 + (i : Int))), some (.int it.f), some (.int it.l), some (.int it.d), some (.int ((it.l : Int) - (it.f : Int))), some (.int z), v11] ∧ 0 ≤ z ∧ z < ((it.l : Int) - (it.f : Int)) ∧
            Dc cs d l H' ∧ Frame d H7 H', ?_, ?_⟩
          · refine ⟨_, rfl, cs, d, l, 4, rfl, D10, by decide, by decide, fun b0 H11 D11 fr11 _ _ => ⟨rfl, _, rfl, ?_⟩⟩
            refine ite2 (fun _ => ?_) (fun _ => ?_)
            · refine ⟨_, rfl, _, rfl, cs, d, l, ((it.l : Int) - (it.f : Int)), rfl, D11, by omega, by omega, fun c0 H12 D12 fr12 c00 c01 => ?_⟩
              exact ⟨c0, rfl, c00, c01, D12, fr70.trans (fr11.trans fr12)⟩
            · exact ⟨z, rfl, hz0, hz1, D11, fr70.trans fr11⟩
          · rintro σ' H11 ⟨z, rfl, hz0, hz1, D11, fr11⟩
            obtain ⟨zn, rfl⟩ : ∃ zn : Nat, z = (zn : Int) := ⟨z.toNat, by omega⟩
            refine ⟨_, rfl, _, rfl, _, _, rfl, rfl, ?_⟩
            obtain ⟨sm, es, hs1, hs2⟩ : ∃ sm : Nat, ((it.f : Int) + (zn : Int)) = (sm : Int) ∧ it.f ≤ sm ∧ sm < it.l := ⟨it.f + zn, by omega, by omega, by omega⟩
            have wld' : fl ≠ d := fun e => by
              obtain ⟨xs, hx⟩ := D0.lst
              rw [e, hx] at f0; cases f0
            have wll' : fl ≠ l := fun e => by
              rw [e, D0.1] at f0; cases f0
            have fnd11 := fr11 _ _ fnd7 wld'
            have wai11 := fr11 _ _ wai7 wld
            obtain ⟨xd, hxd⟩ := dc7.lst
            have hp11 := hp7.keep (TK.fr fr11 hxd)
            -- found[seam] = depth
            refine ⟨_, rfl, _, rfl, _, rfl, fl, _, _, sm, rfl, rfl, fnd11, by rw [es, dps_len]; exact ixN_nat (by omega), ?_⟩
            rw [dps_set]
            have tk12 : TK H11 (upd H11 fl (.lst (dps (fset g sm it.d) 0 n))) := TK.wr fnd11
            have dc12 : Dc cs d l (upd H11 fl (.lst (dps (fset g sm it.d) 0 n))) := D11.keep fun b o e q => by
              rw [upd_ne (by rcases q with q | q <;> subst q <;> first | exact wld'.symm | exact wll'.symm)]
              exact e
            have fr12 : Frame d H (upd H11 fl (.lst (dps (fset g sm it.d) 0 n))) := fun b o e q => by
              rw [upd_ne (ne_of_none e f0)]
              exact fr11 _ _ (fr7 b o e q) q
            have fnd12 := @upd_same H11 fl (.lst (dps (fset g sm it.d) 0 n))
            have wai12 : (upd H11 fl (.lst (dps (fset g sm it.d) 0 n))) wl = some (.lst (as'.map V.ref)) := by
              rw [upd_ne ne7.symm]; exact wai11
            have hp12 := hp11.keep tk12
            generalize upd H11 fl (.lst (dps (fset g sm it.d) 0 n)) = H12 at dc12 fr12 fnd12 wai12 hp12
            -- waiting = waiting + [.., ..]
            refine ⟨_, rfl, _, rfl, _, rfl, _, rfl, _, _, rfl, rfl, (by show 3 ≤ sizeLine; decide), fun t1 nt1 => ?_⟩
            have s13 := same_new (o := .tup [V.int it.f, V.int ((it.f : Int) + (zn : Int)), V.int (it.d + 1)]) nt1
            have h13 := @upd_same H12 t1 (.tup [V.int it.f, V.int ((it.f : Int) + (zn : Int)), V.int (it.d + 1)])
            generalize upd H12 t1 (.tup [V.int it.f, V.int ((it.f : Int) + (zn : Int)), V.int (it.d + 1)]) = H13 at s13 h13
            rw [es] at h13
            refine ⟨_, rfl, _, _, rfl, rfl, _, rfl, _, rfl, _, _, rfl, rfl, (by show 3 ≤ sizeLine; decide), fun t2 nt2 => ?_⟩
            have s14 := same_new (o := .tup [V.int ((it.f : Int) + (zn : Int) + 1), V.int it.l, V.int (it.d + 1)]) nt2
            have h14 := @upd_same H13 t2 (.tup [V.int ((it.f : Int) + (zn : Int) + 1), V.int it.l, V.int (it.d + 1)])
            generalize upd H13 t2 (.tup [V.int ((it.f : Int) + (zn : Int) + 1), V.int it.l, V.int (it.d + 1)]) = H14 at s14 h14
            rw [es] at h14
            refine ⟨(by show 2 ≤ sizeLine; decide), fun p3 np3 => ?_⟩
            have s15 := same_new (o := .lst [V.ref t1, V.ref t2]) np3
            have h15 := @upd_same H14 p3 (.lst [V.ref t1, V.ref t2])
            generalize upd H14 p3 (.lst [V.ref t1, V.ref t2]) = H15 at s15 h15
            have s1215 := s13.trans (s14.trans s15)
            refine ⟨wl, p3, _, _, rfl, rfl, s1215 _ _ wai12, h15, ?_, fun wl2 nwl2 => ?_⟩
            · rw [List.length_map]
              show as'.length + 2 ≤ sizeLine
              exact Nat.le_trans (by omega : _ ≤ 1000) (by decide)
            have s16 := same_new (o := .lst (as'.map V.ref ++ [V.ref t1, V.ref t2])) nwl2
            have h16 := @upd_same H15 wl2 (.lst (as'.map V.ref ++ [V.ref t1, V.ref t2]))
            have sf := s1215.trans s16
            have nef2 : fl ≠ wl2 := ne_of_none (s1215 _ _ fnd12) nwl2
            have w02 : H wl2 = none := by
              have z2 : H12 wl2 = none := s1215.free nwl2
              cases q : H wl2 with
              | none => rfl
              | some o =>
                by_cases e : wl2 = d
                · subst e
                  obtain ⟨ys, hy⟩ := dc12.lst
                  rw [hy] at z2; cases z2
                · rw [fr12 _ _ q e] at z2; cases z2
            refine ⟨fset g sm it.d, W' ++ [⟨it.f, sm, it.d + 1, none⟩, ⟨sm + 1, it.l, it.d + 1, none⟩], as' ++ [t1, t2], wl2, _, _, _, _, _, _, _, rfl,
              ⟨dc12.keep fun b o e _ => sf b o e, fr12.trans sf.frame, f0, w02, nef2, sf _ _ fnd12, ?_, ?_, inv7.turn sm hs1 hs2 none none⟩, ?_, ?_⟩
            · rw [h16, List.map_append]
              rfl
            · refine (hp12.keep (TK.of sf)).app (.cons ?_ (.cons ?_ .nil))
              · exact s16 _ _ (s15 _ _ (s14 _ _ h13))
              · exact s16 _ _ (s15 _ _ h14)
            · rw [sizes_app, sizes_two]
              show sizes W' + (2 * (sm - it.f) + 1 + (2 * (it.l - (sm + 1)) + 1)) + (i + 1) ≤ _
              omega
            · rw [List.length_append]
              show W'.length + 2 ≤ _
              omega
        · have hfl : ¬ (it.f : Int) < (it.l : Int) := fun z => hfl (decide_eq_true z)
          refine ⟨g, W', as', wl, _, _, _, _, _, _, _, rfl, ⟨dc7, fr7, f0, w00, ne7, fnd7, wai7, hp7, inv7.drop (by omega)⟩, ?_, ?_⟩
          · omega
          · omega
      · have hne : ¬ (((as.map V.ref).length : Int) > 0) := fun z => hne (decide_eq_true z)
        have hW : W = [] := by
          have := S.pile.len
          rw [List.length_map] at hne
          exact List.eq_nil_of_length_eq_zero (by omega)
        subst hW
        exact ⟨g, [], as, wl, _, _, _, _, _, _, _, rfl, S, by show 0 + (i + 1) ≤ _; omega, by show 0 ≤ _; omega⟩
    · rintro σ H6 ⟨g, W, as, wl, v5, v6, v7, v8, v9, v10, v11, rfl, S, hsz, hWl⟩
      have hW : W = [] := sizes_zero (by omega)
      subst hW
      refine ⟨_, rfl, fl, _, rfl, .inl ⟨SqL.of S.fnd, fun t nt => ?_⟩⟩
      have s7 := same_new (o := .tup (dps g 0 n)) nt
      refine k g t _ S.inv.done (S.dc.keep fun b o e _ => s7 b o e) (S.fr.trans s7.frame) upd_same ?_
      cases q : H t with
      | none => rfl
      | some o =>
        by_cases e : t = d
        · subst e
          obtain ⟨ys, hy⟩ := S.dc.lst
          rw [hy] at nt; cases nt
        · rw [S.fr _ _ q e] at nt; cases nt
end
end Hs
namespace Hs
open PySem L2
theorem in_two (s a b : Int) : inV (.int s) [.int a, .int b] = decide (s = a ∨ s = b) := by
  show ((a == s) || ((b == s) || false)) = decide (s = a ∨ s = b)
  by_cases h1 : s = a
  · subst h1
    rw [decide_eq_true (.inl rfl : s = s ∨ s = b)]
    simp
  · by_cases h2 : s = b
    · subst h2
      rw [decide_eq_true (.inr rfl : s = a ∨ s = s)]
      simp
    · rw [decide_eq_false (fun z : s = a ∨ s = b => z.elim h1 h2)]
      have q1 : (a == s) = false := beq_eq_false_iff_ne.mpr (Ne.symm h1)
      have q2 : (b == s) = false := beq_eq_false_iff_ne.mpr (Ne.symm h2)
      rw [q1, q2]
      rfl
section
variable {P : Program} {w : World} {K : PySem.W.Frag} {mg : Str → Option Value} {base : Heap} {C : Addr}
def spLStay : Sp := fun vs H Q _ => ∃ (x y : Nat → Int) (n one other f l : Nat) (t u : Addr), vs = [.ref t, .ref u, .int (one : Int), .int (other : Int)] ∧ H t = some (ti x n) ∧ H u = some (ti y n) ∧ n ≤ 40 ∧ Sh x 0 0 n ∧ Par x n one other ∧ Span x n one f l ∧
  Led x y n one other f l ∧ ∀ H' : Hp, Same H H' → Q (.bl true) H'
theorem ok_lStay {f : Addr} {fd : FuncData} (F : Fun K "_law_others_stay" "_law_others_stay" sLStay f fd) (T : Txt K mg C) : FnOk P w K mg base CX0 4 f fd ["_law_shape_here", "_law_there", "_law_one", "_law_other"] spLStay := by
  obtain ⟨f1, fd1, m1, F1, b1⟩ := T.hLStands
  have G1 : FnOk P w K mg base CX0 3 f1 fd1 ["_law_shape_here", "_law_one", "_law_other"] spStands := ok_stands F1 T
  obtain ⟨f2, fd2, m2, F2, b2⟩ := T.hLSpan
  have G2 : FnOk P w K mg base CX0 1 f2 fd2 ["_law_shape_here", "_law_seam"] spSpan := ok_span F2 T
  refine F.ok scLStay (fun vs H Q E h => ?_) (fun cdv A outer s H vs Q E hr h => ?_)
  · obtain ⟨x, y, n, one, other, f, l, t, u, rfl, _⟩ := h
    rfl
  · obtain ⟨x, y, n, one, other, fo, lo, t, u, rfl, ht, hu, hn, hx, hp, hS, hL, k⟩ := h
    have hr1 : Room 1 _ := hr.mono (by decide)
    refine ⟨_, pss_cons (ps_if (PW.pt (pw_or (pt_cmpR op_ne (pe_call G1 hr rfl m1 F1.kp b1 .nil pass0 (pa_cons (pv 1) (pa_cons (pv 2) (pa_cons (pv 3) pa_nil)))) pe_str (nomark _))
          (pw_or1 (pt_cmpR op_ne (pe_call G1 hr rfl m1 F1.kp b1 .nil pass0 (pa_cons (pv 0) (pa_cons (pv 2) (pa_cons (pv 3) pa_nil)))) pe_str (nomark _))))) (pss_one (ps_ret pe_bl)) pss_nil)
      (pss_cons (ps_for PassesOwn.never rfl (pi_range1 (by rfl) T.m_range (pa_cons (pe_callB call_len_seq (by rfl) T.m_len PySem.boot_len (pa_cons (pv 0) pa_nil)) pa_nil)) (pg_name (i := 4) scLStay.nd rfl (Or.inl rfl))
        (pss_one (ps_if (PW.pt (pw_and (pt_cmpR op_notIn_seq (pv 4) (pe_lst (pa_cons (pv 2) (pa_cons (pv 3) pa_nil))) (by rfl))
            (pw_and1 (pt_cmpR (op_neD hr.units) (pe_call G2 hr1 rfl m2 F2.kp b2 .nil pass0 (pa_cons (pv 1) (pa_cons (pv 4) pa_nil))) (pe_call G2 hr1 rfl m2 F2.kp b2 .nil pass0 (pa_cons (pv 0) (pa_cons (pv 4) pa_nil))) (nomark _))))) (pss_one (ps_ret pe_bl)) pss_nil)))
      (pss_one (ps_ret (pe_cmpR (op_eqD hr.units) (pe_call G2 hr1 rfl m2 F2.kp b2 .nil pass0 (pa_cons (pv 1) (pa_cons (pv 3) pa_nil))) (pe_call G2 hr1 rfl m2 F2.kp b2 .nil pass0 (pa_cons (pv 0) (pa_cons (pv 2) pa_nil))) (nomark _))))), ?_⟩
    have hlt := hp.lt
    -- stands(there, one, other) != 'under'
    refine ⟨_, rfl, _, rfl, _, rfl, y, n, one, other, u, rfl, hu, hlt.1, hlt.2.1, hn, fun f1 l1 f1' l1' H1 S1 S1' s1 => ?_⟩
    have no := hL.par.notOver S1
    have no' : ¬ (one ≠ other ∧ f1 ≤ other ∧ other < l1) := fun z => no z.2
    have S2 := S1' no'
    have e1 : stStr one other f1 l1 f1' l1' = "under" := by
      unfold stStr
      rw [if_neg no', if_pos ⟨hlt.2.2.symm, hL.par.span S2⟩]
    rw [e1]
    refine ⟨rfl, _, rfl, ?_⟩
    rw [decide_eq_true rfl]
    refine iteF ?_
    refine ⟨_, rfl, _, rfl, _, rfl, x, n, one, other, t, rfl, s1 _ _ ht, hlt.1, hlt.2.1, hn, fun f2 l2 f2' l2' H2 S3 S3' s2 => ?_⟩
    have e2 : stStr one other f2 l2 f2' l2' = "over" := by
      unfold stStr
      rw [if_pos ⟨hlt.2.2, hp.span S3⟩]
    rw [e2]
    refine ⟨rfl, _, rfl, ?_⟩
    rw [decide_eq_true rfl]
    refine iteF ?_
    have s12 := s1.trans s2
    -- the other seams
    refine ⟨_, rfl, t, _, rfl, .inr (SqT.of (s12 _ _ ht)), _, rfl, by rw [dps_len]; omega, by rw [dps_len]; omega, for_range (lo := 0) (fun i σ H' => ∃ v4 : Option V, σ = [some (.ref t), some (.ref u), some (.int one), some (.int other), v4] ∧ Same H H') ?_ ?_ ?_⟩
    · exact ⟨none, rfl, s12⟩
    · rintro i σ H3 hi ⟨v4, rfl, s3⟩
      rw [dps_len, Int.toNat_natCast] at hi
      have e0 : (0 + (i : Int)) = (i : Int) := by omega
      show tIfS _ _ _ _ [some (.ref t), some (.ref u), some (.int one), some (.int other), some (.int (0 + (i : Int)))] H3
      rw [e0]
      refine ⟨_, rfl, _, rfl, _, rfl, (by show 2 ≤ sizeLine; decide), fun p np => ?_⟩
      have s4 := same_new (o := .lst [V.int one, V.int other]) np
      have h4 := @upd_same H3 p (.lst [V.int one, V.int other])
      generalize upd H3 p (.lst [V.int one, V.int other]) = H4 at s4 h4
      refine ⟨p, _, rfl, .inl (SqL.of h4), rfl, rfl, _, rfl, ?_⟩
      show if (!inV (V.int i) [V.int one, V.int other]) = true then _ else _
      rw [in_two]
      by_cases hio : ((i : Int) = (one : Int) ∨ (i : Int) = (other : Int))
      · rw [decide_eq_true hio]
        refine iteF (iteF ?_)
        exact ⟨_, rfl, s3.trans s4⟩
      · rw [decide_eq_false hio]
        refine iteT ?_
        refine ⟨_, rfl, _, rfl, y, n, i, u, rfl, s4 _ _ (s3 _ _ hu), by omega, hn, fun f3 l3 q1 H5 S5 s5 _ h5 => ?_⟩
        refine ⟨_, rfl, _, rfl, x, n, i, t, rfl, s5 _ _ (s4 _ _ (s3 _ _ ht)), by omega, hn, fun f4 l4 q2 H6 S6 s6 _ h6 => ?_⟩
        obtain ⟨e3, e4⟩ := (hL.stay i f4 l4 (by omega) (by omega) S6).uniq S5
        subst e3; subst e4
        refine ⟨_, _, dpt_nums (ns := [(f4 : Int), (l4 : Int)]) (s6 _ _ h5), dpt_nums (ns := [(f4 : Int), (l4 : Int)]) h6, sht_nums _, sht_nums _, _, rfl, ?_⟩
        rw [eqv_nums]
        refine iteF ?_
        exact ⟨_, rfl, s3.trans (s4.trans (s5.trans s6))⟩
    · rintro σ H3 ⟨v4, rfl, s3⟩
      refine ⟨_, rfl, _, rfl, y, n, other, u, rfl, s3 _ _ hu, hlt.2.1, hn, fun f3 l3 q1 H5 S5 s5 _ h5 => ?_⟩
      refine ⟨_, rfl, _, rfl, x, n, one, t, rfl, s5 _ _ (s3 _ _ ht), hlt.1, hn, fun f4 l4 q2 H6 S6 s6 _ h6 => ?_⟩
      obtain ⟨e3, e4⟩ := hL.span.uniq S5
      subst e3; subst e4
      obtain ⟨e3, e4⟩ := hS.uniq S6
      subst e3; subst e4
      refine ⟨_, _, dpt_nums (ns := [(fo : Int), (lo : Int)]) (s6 _ _ h5), dpt_nums (ns := [(fo : Int), (lo : Int)]) h6, sht_nums _, sht_nums _, ?_⟩
      rw [eqv_nums]
      exact k _ (s3.trans (s5.trans s6))
end
end Hs
namespace Hs
open PySem L2
/-! ### Joinings -/
/-- t[i], t a tuple, told over the written part by its name (within a comprehension) -/
theorem ix_tupK {X : Cx} {K : PySem.W.Frag} (h : X.K = K) : IxR X (rIxT K) := by
  subst h
  exact ix_tup
def oV : Option Nat → V
  | none => .non
  | some k => .int (k : Int)
abbrev ovs (F : Nat → Option Nat) (n : Nat) : List V := (seg F 0 n).map oV
theorem ovs_len {F : Nat → Option Nat} {n : Nat} : (ovs F n).length = n := by
  show ((seg F 0 n).map oV).length = n
  rw [List.length_map, seg_len]; omega
theorem ovs_get {F : Nat → Option Nat} {n j : Nat} (h : j < n) : (ovs F n)[j]? = some (oV (F j)) := by
  show ((seg F 0 n).map oV)[j]? = _
  rw [List.getElem?_map, seg_get j (by omega), Nat.zero_add]
  rfl
theorem ovs_set {F : Nat → Option Nat} {n s : Nat} {v : Option Nat} : (ovs F n).set s (oV v) = ovs (fset F s v) n := by
  show ((seg F 0 n).map oV).set s (oV v) = (seg (fset F s v) 0 n).map oV
  rw [← List.map_set, seg_set]
theorem ovs_none {n : Nat} : List.replicate n V.non = ovs (fun _ => none) n := by
  show _ = (seg (fun _ => (none : Option Nat)) 0 n).map oV
  rw [← seg_rep, List.map_replicate]
  rfl
def tp4 (i : It) : List V := [.int (i.f : Int), .int (i.l : Int), .int i.d, oV i.a]
/-- a Joinings' attributes -/
def jf (l1 l2 l3 : Addr) : List (Str × V) := putF "fair" (.bl true) (putF "above" (.ref l3) (putF "last" (.ref l2) (putF "first" (.ref l1) [])))
theorem jf_first (l1 l2 l3 : Addr) : (jf l1 l2 l3).lookup ("first" : Str) = some (.ref l1) := by
  unfold jf
  rw [lookup_putF, if_neg (by decide +kernel), lookup_putF, if_neg (by decide +kernel), lookup_putF, if_neg (by decide +kernel), lookup_putF, if_pos rfl]
theorem jf_last (l1 l2 l3 : Addr) : (jf l1 l2 l3).lookup ("last" : Str) = some (.ref l2) := by
  unfold jf
  rw [lookup_putF, if_neg (by decide +kernel), lookup_putF, if_neg (by decide +kernel), lookup_putF, if_pos rfl]
theorem jf_above (l1 l2 l3 : Addr) : (jf l1 l2 l3).lookup ("above" : Str) = some (.ref l3) := by
  unfold jf
  rw [lookup_putF, if_neg (by decide +kernel), lookup_putF, if_pos rfl]
theorem jf_fair (l1 l2 l3 : Addr) : (jf l1 l2 l3).lookup ("fair" : Str) = some (.bl true) := by
  unfold jf
  rw [lookup_putF, if_pos rfl]
theorem put_few {f : Str} {v : V} {fs : List (Str × V)} {n : Nat} (h : fs.length ≤ n) : (putF f v fs).length ≤ n + 1 := Nat.le_trans (length_putF f v fs) (by omega)
/-- the state of the loop's heap -/
structure Jw (C p dx l1 l2 l3 wl t : Addr) (n : Nat) (x : Nat → Int) (H H' : Hp) (W : List It) (as : List Addr) (F L A : Nat → Option Nat) : Prop where
  fr : Frame p H H'
  ob : H' p = some (.ins C dx (jf l1 l2 l3))
  h1 : H' l1 = some (.lst (ovs F n))
  h2 : H' l2 = some (.lst (ovs L n))
  h3 : H' l3 = some (.lst (ovs A n))
  wai : H' wl = some (.lst (as.map V.ref))
  pile : PileAt H' tp4 as W
  inv : JInv x n W F L A
theorem frame_new {p q : Addr} {H H' : Hp} {o : HO} (h : Frame p H H') (hq : H q = none) : Frame p H (upd H' q o) := fun b u e nb => by
  rw [upd_ne (ne_of_none e hq)]
  exact h b u e nb
/-- what was not there and is not p -/
theorem frame_free {p q : Addr} {H H' : Hp} (h : Frame p H H') (hp : ∃ o, H' p = some o) (hq : H' q = none) : H q = none := by
  cases e : H q with
  | none => rfl
  | some o =>
    by_cases z : q = p
    · subst z
      obtain ⟨u, hu⟩ := hp
      rw [hu] at hq; cases hq
    · rw [h q o e z] at hq; cases hq
section
variable {P : Program} {w : World} {K : PySem.W.Frag} {mg : Str → Option Value} {base : Heap} {C : Addr}
def spInit (C : Addr) : Sp := fun vs H Q _ => ∃ (x : Nat → Int) (n : Nat) (p t dx : Addr), vs = [.ref p, .ref t] ∧ H p = some (.ins C dx []) ∧ H t = some (ti x n) ∧ n ≤ 39 ∧ Sh x 0 0 n ∧
  ∀ (l1 l2 l3 : Addr) (F L A : Nat → Option Nat) (H' : Hp), H' p = some (.ins C dx (jf l1 l2 l3)) → H' l1 = some (.lst (ovs F n)) → H' l2 = some (.lst (ovs L n)) → H' l3 = some (.lst (ovs A n)) →
    (∀ i, i < n → Done x n F L A i) → Frame p H H' → Q .non H'
theorem ok_init {f : Addr} {fd : FuncData} (F : Fun K "__init__" "Joinings.__init__" sInit f fd) (T : Txt K mg C) : FnOk P w K mg base CX0 1 f fd ["self", "shape"] (spInit C) := by
  refine F.ok scInit (fun vs H Q E h => ?_) (fun cdv A outer s H vs Q E hr h => ?_)
  · obtain ⟨x, n, p, t, dx, rfl, _⟩ := h
    rfl
  · obtain ⟨x, n, p, t, dx, rfl, hp, ht, hn, hsh, k⟩ := h
    refine ⟨_, pss_cons (ps_fld (pv 0) (pe_op op_rep (pe_lst (pa_cons pe_non pa_nil)) (pe_callB call_len_seq (by rfl) T.m_len PySem.boot_len (pa_cons (pv 1) pa_nil))) rfl)
      (pss_cons (ps_fld (pv 0) (pe_op op_rep (pe_lst (pa_cons pe_non pa_nil)) (pe_callB call_len_seq (by rfl) T.m_len PySem.boot_len (pa_cons (pv 1) pa_nil))) rfl)
      (pss_cons (ps_fld (pv 0) (pe_op op_rep (pe_lst (pa_cons pe_non pa_nil)) (pe_callB call_len_seq (by rfl) T.m_len PySem.boot_len (pa_cons (pv 1) pa_nil))) rfl)
      (pss_cons (ps_fld (pv 0) pe_bl rfl)
      (pss_cons (ps_set (i := 2) scInit.nd rfl (Or.inl rfl) (pe_lst (pa_cons (pe_tup (pa_cons pe_int (pa_cons (pe_callB call_len_seq (by rfl) T.m_len PySem.boot_len (pa_cons (pv 1) pa_nil)) (pa_cons pe_int (pa_cons pe_non pa_nil))))) pa_nil)))
      (pss_one (ps_while PassesOwn.never (PW.pt (pw_and (pt_cmpR op_gt (pe_callB call_len_seq (by rfl) T.m_len PySem.boot_len (pa_cons (pv 2) pa_nil)) pe_int (nomark _)) (pw_and1 (pt_val (pe_fld (pv 0) rfl)))))
        (pss_cons (ps_asg (pe_bm0 PySem.F.plainAttrs_list PySem.F.slot_list_pop PySem.F.type_list_pop mt_pop (pv 2)) (pg_tup (by rfl) (pgs_cons (pg_name (i := 3) scInit.nd rfl (Or.inl rfl)) (pgs_cons (pg_name (i := 4) scInit.nd rfl (Or.inl rfl)) (pgs_cons (pg_name (i := 5) scInit.nd rfl (Or.inr rfl)) (pgs_cons (pg_name (i := 6) scInit.nd rfl (Or.inl rfl)) pgs_nil))))))
        (pss_one (ps_if (pt_cmpR op_lt (pv 3) (pv 4) (nomark _))
          (pss_cons (ps_setLc (i := 8) (own := [("seam", 7)]) (g := gName 7) (by rfl) scInit.nd rfl rfl (sw_true rfl rfl rfl (by decide +kernel)) (pi_range2 (by rfl) T.m_range (pa_cons (pv 3) (pa_cons (pv 4) pa_nil)))
              (blkOk_by (own := [("seam", 7)]) (N := ["self", "shape", "waiting", "first", "last", "depth", "above", "seam", "seams"]) (sc := defScope sInit) (by decide +kernel))
              (fun _ _ _ _ _ => pg_name (i := 7) scInit.nd rfl (Or.inl rfl)) (fun _ _ _ _ _ => pts_one (pt_cmpR op_le (pe_ix (ix_tupK (K := K) rfl) (pv 1) (pv 7) (fun _ _ => rfl)) (pv 5) (nomark _))) (fun _ _ _ _ _ => pv 7))
          (pss_one (ps_if (PW.pt (pw_or (pt_cmpR op_ne (pe_callB call_len_seq (by rfl) T.m_len PySem.boot_len (pa_cons (pv 8) pa_nil)) pe_int (nomark _))
                (pw_or1 (pt_cmpR op_ne (pe_ix ix_tup (pv 1) (pe_ix ix_list (pv 8) pe_int (fun _ _ => rfl)) (fun _ _ => rfl)) (pv 5) (nomark _)))))
            (pss_one ps_never)
            (pss_cons (ps_set (i := 7) scInit.nd rfl (Or.inl rfl) (pe_ix ix_list (pv 8) pe_int (fun _ _ => rfl)))
            (pss_cons (ps_asg (pv 3) (pg_sub (pe_fld (pv 0) rfl) (pv 7) set_list))
            (pss_cons (ps_asg (pv 4) (pg_sub (pe_fld (pv 0) rfl) (pv 7) set_list))
            (pss_cons (ps_asg (pv 6) (pg_sub (pe_fld (pv 0) rfl) (pv 7) set_list))
            (pss_cons (ps_expr (pe_bm PySem.F.plainAttrs_list PySem.F.slot_list_append PySem.F.type_list_append mt_append (pv 2) (pa_cons (pe_tup (pa_cons (pv 3) (pa_cons (pv 7) (pa_cons (pe_op op_add (pv 5) pe_int) (pa_cons (pv 7) pa_nil))))) pa_nil)))
            (pss_one (ps_expr (pe_bm PySem.F.plainAttrs_list PySem.F.slot_list_append PySem.F.type_list_append mt_append (pv 2) (pa_cons (pe_tup (pa_cons (pe_op op_add (pv 7) pe_int) (pa_cons (pv 4) (pa_cons (pe_op op_add (pv 5) pe_int) (pa_cons (pv 7) pa_nil))))) pa_nil)))))))))))) pss_nil)))))))))
      , ?_⟩
    have el : (dps x 0 n).length = n := by rw [dps_len]; omega
    -- self.first
    refine ⟨(by show 1 ≤ sizeLine; decide), fun a1 na1 => ?_⟩
    have s1 := same_new (o := .lst [V.non]) na1
    have c1 := @upd_same H a1 (.lst [V.non])
    generalize upd H a1 (.lst [V.non]) = H1 at s1 c1
    refine ⟨_, rfl, t, _, rfl, .inr (SqT.of (s1 _ _ ht)), a1, _, _, rfl, rfl, c1, by omega, by omega, ?_, fun l1 nl1 => ?_⟩
    · show 1 * _ ≤ sizeLine
      exact Nat.le_trans (by omega : _ ≤ 1000) (by decide)
    rw [el, Int.toNat_natCast, rep_flat, ovs_none]
    have s2 := s1.trans (same_new (o := .lst (ovs (fun _ => none) n)) nl1)
    have h1 := @upd_same H1 l1 (.lst (ovs (fun _ => none) n))
    have f1 : H l1 = none := s1.free nl1
    generalize upd H1 l1 (.lst (ovs (fun _ => none) n)) = H2 at s2 h1
    refine ⟨_, rfl, p, C, dx, [], rfl, s2 _ _ hp, T.cl, T.n_first, (by show 0 < 1000; decide), ?_⟩
    have fr3 : Frame p H (upd H2 p (.ins C dx (putF "first" (.ref l1) []))) := s2.frame.upd
    have p3 := @upd_same H2 p (.ins C dx (putF "first" (.ref l1) []))
    have pl1 : l1 ≠ p := fun e => by rw [e, hp] at f1; cases f1
    have h1 : (upd H2 p (.ins C dx (putF "first" (.ref l1) []))) l1 = some (.lst (ovs (fun _ => none) n)) := by rw [upd_ne pl1]; exact h1
    generalize upd H2 p (.ins C dx (putF "first" (.ref l1) [])) = H3 at fr3 p3 h1
    have tp : t ≠ p := ne_of ht hp (by intro q; cases q)
    have ht3 := fr3 _ _ ht tp
    -- self.last
    refine ⟨(by show 1 ≤ sizeLine; decide), fun a2 na2 => ?_⟩
    have s4 := same_new (o := .lst [V.non]) na2
    have c2 := @upd_same H3 a2 (.lst [V.non])
    generalize upd H3 a2 (.lst [V.non]) = H4 at s4 c2
    refine ⟨_, rfl, t, _, rfl, .inr (SqT.of (s4 _ _ ht3)), a2, _, _, rfl, rfl, c2, by omega, by omega, ?_, fun l2 nl2 => ?_⟩
    · show 1 * _ ≤ sizeLine
      exact Nat.le_trans (by omega : _ ≤ 1000) (by decide)
    rw [el, Int.toNat_natCast, rep_flat, ovs_none]
    have s5 := s4.trans (same_new (o := .lst (ovs (fun _ => none) n)) nl2)
    have h2 := @upd_same H4 l2 (.lst (ovs (fun _ => none) n))
    have n12 : l1 ≠ l2 := ne_of_none (s4 _ _ h1) nl2
    have f2 : H l2 = none := frame_free (fr3.trans s4.frame) ⟨_, s4 _ _ p3⟩ nl2
    generalize upd H4 l2 (.lst (ovs (fun _ => none) n)) = H5 at s5 h2
    refine ⟨_, rfl, p, C, dx, _, rfl, s5 _ _ p3, T.cl, T.n_last, Nat.lt_of_le_of_lt (put_few (Nat.zero_le 0)) (by decide), ?_⟩
    have fr6 : Frame p H (upd H5 p (.ins C dx (putF "last" (.ref l2) (putF "first" (.ref l1) [])))) := (fr3.trans s5.frame).upd
    have p6 := @upd_same H5 p (.ins C dx (putF "last" (.ref l2) (putF "first" (.ref l1) [])))
    have pl2 : l2 ≠ p := fun e => by rw [e, hp] at f2; cases f2
    have h1 : (upd H5 p (.ins C dx (putF "last" (.ref l2) (putF "first" (.ref l1) [])))) l1 = some (.lst (ovs (fun _ => none) n)) := by rw [upd_ne pl1]; exact s5 _ _ h1
    have h2 : (upd H5 p (.ins C dx (putF "last" (.ref l2) (putF "first" (.ref l1) [])))) l2 = some (.lst (ovs (fun _ => none) n)) := by rw [upd_ne pl2]; exact h2
    generalize upd H5 p (.ins C dx (putF "last" (.ref l2) (putF "first" (.ref l1) []))) = H6 at fr6 p6 h1 h2
    have ht6 := fr6 _ _ ht tp
    -- self.above
    refine ⟨(by show 1 ≤ sizeLine; decide), fun a3 na3 => ?_⟩
    have s7 := same_new (o := .lst [V.non]) na3
    have c3 := @upd_same H6 a3 (.lst [V.non])
    generalize upd H6 a3 (.lst [V.non]) = H7 at s7 c3
    refine ⟨_, rfl, t, _, rfl, .inr (SqT.of (s7 _ _ ht6)), a3, _, _, rfl, rfl, c3, by omega, by omega, ?_, fun l3 nl3 => ?_⟩
    · show 1 * _ ≤ sizeLine
      exact Nat.le_trans (by omega : _ ≤ 1000) (by decide)
    rw [el, Int.toNat_natCast, rep_flat, ovs_none]
    have s8 := s7.trans (same_new (o := .lst (ovs (fun _ => none) n)) nl3)
    have h3 := @upd_same H7 l3 (.lst (ovs (fun _ => none) n))
    have n13 : l1 ≠ l3 := ne_of_none (s7 _ _ h1) nl3
    have n23 : l2 ≠ l3 := ne_of_none (s7 _ _ h2) nl3
    have f3 : H l3 = none := frame_free (fr6.trans s7.frame) ⟨_, s7 _ _ p6⟩ nl3
    generalize upd H7 l3 (.lst (ovs (fun _ => none) n)) = H8 at s8 h3
    refine ⟨_, rfl, p, C, dx, _, rfl, s8 _ _ p6, T.cl, T.n_above, Nat.lt_of_le_of_lt (put_few (put_few (Nat.zero_le 0))) (by decide), ?_⟩
    have fr9 : Frame p H (upd H8 p (.ins C dx (putF "above" (.ref l3) (putF "last" (.ref l2) (putF "first" (.ref l1) []))))) := (fr6.trans s8.frame).upd
    have p9 := @upd_same H8 p (.ins C dx (putF "above" (.ref l3) (putF "last" (.ref l2) (putF "first" (.ref l1) []))))
    have pl3 : l3 ≠ p := fun e => by rw [e, hp] at f3; cases f3
    have h1 : (upd H8 p (.ins C dx (putF "above" (.ref l3) (putF "last" (.ref l2) (putF "first" (.ref l1) []))))) l1 = some (.lst (ovs (fun _ => none) n)) := by rw [upd_ne pl1]; exact s8 _ _ h1
    have h2 : (upd H8 p (.ins C dx (putF "above" (.ref l3) (putF "last" (.ref l2) (putF "first" (.ref l1) []))))) l2 = some (.lst (ovs (fun _ => none) n)) := by rw [upd_ne pl2]; exact s8 _ _ h2
    have h3 : (upd H8 p (.ins C dx (putF "above" (.ref l3) (putF "last" (.ref l2) (putF "first" (.ref l1) []))))) l3 = some (.lst (ovs (fun _ => none) n)) := by rw [upd_ne pl3]; exact h3
    generalize upd H8 p (.ins C dx (putF "above" (.ref l3) (putF "last" (.ref l2) (putF "first" (.ref l1) [])))) = H9 at fr9 p9 h1 h2 h3
    -- self.fair
    refine ⟨_, rfl, p, C, dx, _, rfl, p9, T.cl, T.n_fair, Nat.lt_of_le_of_lt (put_few (put_few (put_few (Nat.zero_le 0)))) (by decide), ?_⟩
    have fr10 : Frame p H (upd H9 p (.ins C dx (jf l1 l2 l3))) := fr9.upd
    have p10 := @upd_same H9 p (.ins C dx (jf l1 l2 l3))
    have h1 : (upd H9 p (.ins C dx (jf l1 l2 l3))) l1 = some (.lst (ovs (fun _ => none) n)) := by rw [upd_ne pl1]; exact h1
    have h2 : (upd H9 p (.ins C dx (jf l1 l2 l3))) l2 = some (.lst (ovs (fun _ => none) n)) := by rw [upd_ne pl2]; exact h2
    have h3 : (upd H9 p (.ins C dx (jf l1 l2 l3))) l3 = some (.lst (ovs (fun _ => none) n)) := by rw [upd_ne pl3]; exact h3
    show tSeq _ _ _ _ (upd H9 p (.ins C dx (jf l1 l2 l3)))
    generalize upd H9 p (.ins C dx (jf l1 l2 l3)) = H10 at fr10 p10 h1 h2 h3
    have ht10 := fr10 _ _ ht tp
    -- waiting
    refine ⟨_, rfl, t, _, rfl, .inr (SqT.of ht10), (by show 4 ≤ sizeLine; decide), fun q1 nq1 => ?_⟩
    rw [el]
    have s11 := same_new (o := .tup [V.int 0, V.int n, V.int 0, V.non]) nq1
    have h11 := @upd_same H10 q1 (.tup [V.int 0, V.int n, V.int 0, V.non])
    generalize upd H10 q1 (.tup [V.int 0, V.int n, V.int 0, V.non]) = H11 at s11 h11
    refine ⟨(by show 1 ≤ sizeLine; decide), fun wl nwl => ?_⟩
    have s12 := s11.trans (same_new (o := .lst [V.ref q1]) nwl)
    have h12 := @upd_same H11 wl (.lst [V.ref q1])
    have hq12 := same_new (o := .lst [V.ref q1]) nwl _ _ h11
    have nw1 : l1 ≠ wl := ne_of_none (s11 _ _ h1) nwl
    have nw2 : l2 ≠ wl := ne_of_none (s11 _ _ h2) nwl
    have nw3 : l3 ≠ wl := ne_of_none (s11 _ _ h3) nwl
    have f4 : H wl = none := frame_free (fr10.trans s11.frame) ⟨_, s11 _ _ p10⟩ nwl
    generalize upd H11 wl (.lst [V.ref q1]) = H12 at s12 h12 hq12
    have plw : wl ≠ p := fun e => by rw [e, hp] at f4; cases f4
    refine ⟨fun m σ H' => ∃ (W : List It) (as : List Addr) (F L A : Nat → Option Nat) (v3 v4 v5 v6 v7 v8 : Option V), sizes W = m ∧ σ = [some (.ref p), some (.ref t), some (.ref wl), v3, v4, v5, v6, v7, v8] ∧
        Jw C p dx l1 l2 l3 wl t n x H H' W as F L A ∧ W.length + m ≤ 2 * n + 2, ⟨_, [⟨0, n, 0, none⟩], [q1], fun _ => none, fun _ => none, fun _ => none, none, none, none, none, none, none, rfl, rfl,
          ⟨fr10.trans s12.frame, s12 _ _ p10, s12 _ _ h1, s12 _ _ h2, s12 _ _ h3, h12, .cons hq12 .nil, JInv.start hsh⟩, ?_⟩, ?_⟩
    · rw [sizes_one]
      show 1 + (2 * (n - 0) + 1) ≤ 2 * n + 2
      omega
    · rintro m σ H13 ⟨W, as, F, L, A, v3, v4, v5, v6, v7, v8, hm, rfl, S, hWl⟩
      refine ⟨_, rfl, wl, _, rfl, .inl (SqL.of S.wai), _, _, rfl, rfl, _, rfl, ?_⟩
      refine ite2 (fun hne => ?_) (fun hne => iteF ?_)
      · have hne := of_decide_eq_true hne
        rcases pile_split W with e | ⟨W', it, rfl⟩
        · exfalso
          subst e
          have := S.pile.len
          rw [List.length_map] at hne
          have z : as.length = 0 := this
          omega
        refine ⟨_, rfl, p, C, dx, _, _, rfl, S.ob, T.cl, T.n_fair, jf_fair _ _ _, true, rfl, iteT ?_⟩
        obtain ⟨as', a, rfl, hp', ha⟩ := S.pile.last
        have hlen' := hp'.len
        rw [List.length_append, List.length_singleton] at hWl
        rw [sizes_app, sizes_one] at hm
        refine ⟨fun σ' H' => ∃ m', m' < m ∧ ∃ (W : List It) (as : List Addr) (F L A : Nat → Option Nat) (v3 v4 v5 v6 v7 v8 : Option V), sizes W = m' ∧ σ' = [some (.ref p), some (.ref t), some (.ref wl), v3, v4, v5, v6, v7, v8] ∧
          Jw C p dx l1 l2 l3 wl t n x H H' W as F L A ∧ W.length + m' ≤ 2 * n + 2, fun _ _ z => z, ?_⟩
        -- pop
        have hdrop : ((as' ++ [a]).map V.ref).dropLast = as'.map V.ref := by
          rw [List.map_append]
          exact List.dropLast_concat
        have hlast : ((as' ++ [a]).map V.ref)[((as' ++ [a]).map V.ref).length - 1]? = some (V.ref a) := by
          rw [List.map_append, List.length_append]
          show (as'.map V.ref ++ [V.ref a])[(as'.map V.ref).length + 1 - 1]? = some (V.ref a)
          rw [Nat.add_sub_cancel, List.getElem?_append_right (Nat.le_refl _), Nat.sub_self]
          rfl
        refine ⟨_, rfl, .inl ⟨rfl, _, SqL.of S.wai⟩, wl, _, _, rfl, rfl, S.wai, hlast, ?_⟩
        rw [hdrop]
        have tk := TK.wr (ys := as'.map V.ref) S.wai
        have fr14 := frame_new (o := .lst (as'.map V.ref)) S.fr f4
        have p14 : (upd H13 wl (.lst (as'.map V.ref))) p = some (.ins C dx (jf l1 l2 l3)) := by rw [upd_ne plw.symm]; exact S.ob
        have h1 : (upd H13 wl (.lst (as'.map V.ref))) l1 = some (.lst (ovs F n)) := by rw [upd_ne nw1]; exact S.h1
        have h2 : (upd H13 wl (.lst (as'.map V.ref))) l2 = some (.lst (ovs L n)) := by rw [upd_ne nw2]; exact S.h2
        have h3 : (upd H13 wl (.lst (as'.map V.ref))) l3 = some (.lst (ovs A n)) := by rw [upd_ne nw3]; exact S.h3
        have hw := @upd_same H13 wl (.lst (as'.map V.ref))
        have ha := tk _ _ ha
        have hp7 := hp'.keep tk
        have inv := S.inv
        generalize upd H13 wl (.lst (as'.map V.ref)) = H14 at fr14 p14 h1 h2 h3 hw ha hp7
        have ht14 := fr14 _ _ ht tp
        refine ⟨a, _, rfl, SqT.of ha, rfl, _, _, rfl, _, _, rfl, _, _, rfl, _, _, rfl, rfl, ?_⟩
        refine ⟨_, rfl, _, rfl, _, _, rfl, rfl, _, rfl, ?_⟩
        refine ite2 (fun hfl => ?_) (fun hfl => ?_)
        · have hfl := of_decide_eq_true hfl
          have hfl' : it.f < it.l := by omega
          obtain ⟨sm, r1, r2, r3, r4, r5⟩ := inv.root hfl'
          -- seams
          refine ⟨_, rfl, _, rfl, _, _, rfl, ⟨by omega, by omega, by omega, by omega⟩, fun D hD => ?_⟩
          have ntD : t ≠ D := ne_of_none ht14 hD
          refine lc_range (lo := (it.f : Int)) (n := ((it.l : Int) - (it.f : Int)).toNat) (fun i H' => H' = upd H14 D (.lst (if sm < it.f + i then [V.int sm] else []))) ?_ ?_ ?_
          · rw [if_neg (by omega)]
          · rintro i H' hi rfl
            have hi : i < it.l - it.f := by omega
            have ei : ((it.f : Int) + (i : Int)) = ((it.f + i : Nat) : Int) := by omega
            refine ⟨rfl, ?_⟩
            refine ⟨_, rfl, _, rfl, t, _, _, _, rfl, rfl, SqT.of (by rw [upd_ne ntD]; exact ht14), dps_at ei (by omega), _, rfl, _, _, rfl, rfl, _, rfl, ?_⟩
            refine ite2 (fun hle => ?_) (fun hle => ?_)
            · have hle := of_decide_eq_true hle
              have es : it.f + i = sm := by
                by_cases e : it.f + i = sm
                · exact e
                · have := r5 (it.f + i) (by omega) (by omega) e
                  omega
              refine ⟨_, rfl, _, upd_same, ?_, ?_⟩
              · rw [if_neg (by omega)]
                show 0 < sizeLine
                decide
              · rw [upd_upd, if_neg (by omega), if_pos (by omega), ei, es]
                rfl
            · have hle : ¬ x (it.f + i) ≤ it.d := fun z => hle (decide_eq_true z)
              have ns : it.f + i ≠ sm := fun e => by rw [e] at hle; omega
              by_cases q : sm < it.f + i
              · rw [if_pos q, if_pos (by omega)]
              · rw [if_neg q, if_neg (by omega)]
          · rintro H' rfl
            rw [if_pos (by omega)]
            have s15 := same_new (o := .lst [V.int sm]) hD
            have h15 := @upd_same H14 D (.lst [V.int sm])
            have nD1 : l1 ≠ D := ne_of_none h1 hD
            have nD2 : l2 ≠ D := ne_of_none h2 hD
            have nD3 : l3 ≠ D := ne_of_none h3 hD
            have nDw : wl ≠ D := ne_of_none hw hD
            have nDp : p ≠ D := ne_of_none p14 hD
            generalize upd H14 D (.lst [V.int sm]) = H15 at s15 h15
            have ht15 := s15 _ _ ht14
            -- len(seams) != 1 or ..
            refine ⟨_, rfl, D, _, rfl, .inl (SqL.of h15), rfl, _, rfl, ?_⟩
            refine iteF ?_
            refine ⟨_, rfl, _, rfl, D, _, _, _, rfl, rfl, SqL.of h15, at_of (j := 0) rfl rfl, t, _, _, _, rfl, rfl, SqT.of ht15, dps_at rfl (by omega), _, rfl, rfl, _, rfl, ?_⟩
            rw [v_eq, decide_eq_true r4]
            refine iteF ?_
            -- seam
            refine ⟨_, rfl, D, _, _, _, rfl, rfl, SqL.of h15, at_of (j := 0) rfl rfl, ?_⟩
            have fr15 := fr14.trans s15.frame
            have p15 := s15 _ _ p14
            have h1 := s15 _ _ h1
            have h2 := s15 _ _ h2
            have h3 := s15 _ _ h3
            have hw := s15 _ _ hw
            have hp15 := hp7.keep (TK.of s15)
            -- self.first[seam] = first
            refine ⟨_, rfl, _, rfl, p, C, dx, _, _, rfl, p15, T.cl, T.n_first, jf_first _ _ _, _, rfl, l1, _, _, sm, rfl, rfl, h1, by rw [ovs_len]; exact ixN_nat (by omega), ?_⟩
            have tk16 := TK.wr (ys := (ovs F n).set sm (V.int it.f)) h1
            have fr16 := frame_new (o := .lst ((ovs F n).set sm (V.int it.f))) fr15 f1
            have p16 : (upd H15 l1 (.lst ((ovs F n).set sm (V.int it.f)))) p = some (.ins C dx (jf l1 l2 l3)) := by rw [upd_ne pl1.symm]; exact p15
            have h1 : (upd H15 l1 (.lst ((ovs F n).set sm (V.int it.f)))) l1 = some (.lst (ovs (fset F sm (some it.f)) n)) := by rw [upd_same]; exact congrArg (fun q => some (HO.lst q)) (ovs_set (v := some it.f))
            have h2 : (upd H15 l1 (.lst ((ovs F n).set sm (V.int it.f)))) l2 = some (.lst (ovs L n)) := by rw [upd_ne n12.symm]; exact h2
            have h3 : (upd H15 l1 (.lst ((ovs F n).set sm (V.int it.f)))) l3 = some (.lst (ovs A n)) := by rw [upd_ne n13.symm]; exact h3
            have hw : (upd H15 l1 (.lst ((ovs F n).set sm (V.int it.f)))) wl = some (.lst (as'.map V.ref)) := by rw [upd_ne nw1.symm]; exact hw
            have hp16 := hp15.keep tk16
            generalize upd H15 l1 (.lst ((ovs F n).set sm (V.int it.f))) = H16 at fr16 p16 h1 h2 h3 hw hp16
            -- self.last[seam] = last
            refine ⟨_, rfl, _, rfl, p, C, dx, _, _, rfl, p16, T.cl, T.n_last, jf_last _ _ _, _, rfl, l2, _, _, sm, rfl, rfl, h2, by rw [ovs_len]; exact ixN_nat (by omega), ?_⟩
            have tk17 := TK.wr (ys := (ovs L n).set sm (V.int it.l)) h2
            have fr17 := frame_new (o := .lst ((ovs L n).set sm (V.int it.l))) fr16 f2
            have p17 : (upd H16 l2 (.lst ((ovs L n).set sm (V.int it.l)))) p = some (.ins C dx (jf l1 l2 l3)) := by rw [upd_ne pl2.symm]; exact p16
            have h1 : (upd H16 l2 (.lst ((ovs L n).set sm (V.int it.l)))) l1 = some (.lst (ovs (fset F sm (some it.f)) n)) := by rw [upd_ne n12]; exact h1
            have h2 : (upd H16 l2 (.lst ((ovs L n).set sm (V.int it.l)))) l2 = some (.lst (ovs (fset L sm (some it.l)) n)) := by rw [upd_same]; exact congrArg (fun q => some (HO.lst q)) (ovs_set (v := some it.l))
            have h3 : (upd H16 l2 (.lst ((ovs L n).set sm (V.int it.l)))) l3 = some (.lst (ovs A n)) := by rw [upd_ne n23.symm]; exact h3
            have hw : (upd H16 l2 (.lst ((ovs L n).set sm (V.int it.l)))) wl = some (.lst (as'.map V.ref)) := by rw [upd_ne nw2.symm]; exact hw
            have hp17 := hp16.keep tk17
            generalize upd H16 l2 (.lst ((ovs L n).set sm (V.int it.l))) = H17 at fr17 p17 h1 h2 h3 hw hp17
            -- self.above[seam] = above
            refine ⟨_, rfl, _, rfl, p, C, dx, _, _, rfl, p17, T.cl, T.n_above, jf_above _ _ _, _, rfl, l3, _, _, sm, rfl, rfl, h3, by rw [ovs_len]; exact ixN_nat (by omega), ?_⟩
            have tk18 := TK.wr (ys := (ovs A n).set sm (oV it.a)) h3
            have fr18 := frame_new (o := .lst ((ovs A n).set sm (oV it.a))) fr17 f3
            have p18 : (upd H17 l3 (.lst ((ovs A n).set sm (oV it.a)))) p = some (.ins C dx (jf l1 l2 l3)) := by rw [upd_ne pl3.symm]; exact p17
            have h1 : (upd H17 l3 (.lst ((ovs A n).set sm (oV it.a)))) l1 = some (.lst (ovs (fset F sm (some it.f)) n)) := by rw [upd_ne n13]; exact h1
            have h2 : (upd H17 l3 (.lst ((ovs A n).set sm (oV it.a)))) l2 = some (.lst (ovs (fset L sm (some it.l)) n)) := by rw [upd_ne n23]; exact h2
            have h3 : (upd H17 l3 (.lst ((ovs A n).set sm (oV it.a)))) l3 = some (.lst (ovs (fset A sm it.a) n)) := by rw [upd_same]; exact congrArg (fun q => some (HO.lst q)) (ovs_set (v := it.a))
            have hw : (upd H17 l3 (.lst ((ovs A n).set sm (oV it.a)))) wl = some (.lst (as'.map V.ref)) := by rw [upd_ne nw3.symm]; exact hw
            have hp18 := hp17.keep tk18
            generalize upd H17 l3 (.lst ((ovs A n).set sm (oV it.a))) = H18 at fr18 p18 h1 h2 h3 hw hp18
            -- waiting.append(..)
            refine ⟨_, rfl, .inl ⟨rfl, _, SqL.of hw⟩, _, rfl, _, rfl, _, rfl, _, _, rfl, rfl, _, rfl, (by show 4 ≤ sizeLine; decide), fun t1 nt1 => ?_⟩
            have s19 := same_new (o := .tup [V.int it.f, V.int sm, V.int (it.d + 1), V.int sm]) nt1
            have h19 := @upd_same H18 t1 (.tup [V.int it.f, V.int sm, V.int (it.d + 1), V.int sm])
            generalize upd H18 t1 (.tup [V.int it.f, V.int sm, V.int (it.d + 1), V.int sm]) = H19 at s19 h19
            have hw19 := s19 _ _ hw
            refine ⟨wl, _, _, rfl, rfl, hw19, ?_, ?_⟩
            · rw [List.length_map]
              exact Nat.lt_of_lt_of_le (by omega : as'.length < 1000) (by decide)
            have tk20 := TK.wr (ys := as'.map V.ref ++ [V.ref t1]) hw19
            have fr20 := frame_new (o := .lst (as'.map V.ref ++ [V.ref t1])) (fr18.trans s19.frame) f4
            have p20 : (upd H19 wl (.lst (as'.map V.ref ++ [V.ref t1]))) p = some (.ins C dx (jf l1 l2 l3)) := by rw [upd_ne plw.symm]; exact s19 _ _ p18
            have h1 : (upd H19 wl (.lst (as'.map V.ref ++ [V.ref t1]))) l1 = some (.lst (ovs (fset F sm (some it.f)) n)) := by rw [upd_ne nw1]; exact s19 _ _ h1
            have h2 : (upd H19 wl (.lst (as'.map V.ref ++ [V.ref t1]))) l2 = some (.lst (ovs (fset L sm (some it.l)) n)) := by rw [upd_ne nw2]; exact s19 _ _ h2
            have h3 : (upd H19 wl (.lst (as'.map V.ref ++ [V.ref t1]))) l3 = some (.lst (ovs (fset A sm it.a) n)) := by rw [upd_ne nw3]; exact s19 _ _ h3
            have hw := @upd_same H19 wl (.lst (as'.map V.ref ++ [V.ref t1]))
            have hp20 := (hp18.keep (TK.of s19)).keep tk20
            have ht20 := tk20 _ _ h19
            generalize upd H19 wl (.lst (as'.map V.ref ++ [V.ref t1])) = H20 at fr20 p20 h1 h2 h3 hw hp20 ht20
            refine ⟨_, rfl, .inl ⟨rfl, _, SqL.of hw⟩, _, rfl, _, _, rfl, rfl, _, rfl, _, rfl, _, _, rfl, rfl, _, rfl, (by show 4 ≤ sizeLine; decide), fun t2 nt2 => ?_⟩
            have s21 := same_new (o := .tup [V.int ((sm : Int) + 1), V.int it.l, V.int (it.d + 1), V.int sm]) nt2
            have h21 := @upd_same H20 t2 (.tup [V.int ((sm : Int) + 1), V.int it.l, V.int (it.d + 1), V.int sm])
            generalize upd H20 t2 (.tup [V.int ((sm : Int) + 1), V.int it.l, V.int (it.d + 1), V.int sm]) = H21 at s21 h21
            have hw21 := s21 _ _ hw
            refine ⟨wl, _, _, rfl, rfl, hw21, ?_, ?_⟩
            · rw [List.length_append, List.length_map]
              exact Nat.lt_of_lt_of_le (by show as'.length + 1 < 1000; omega) (by decide)
            have tk22 := TK.wr (ys := as'.map V.ref ++ [V.ref t1] ++ [V.ref t2]) hw21
            refine ⟨_, ?_, W' ++ [⟨it.f, sm, it.d + 1, some sm⟩, ⟨sm + 1, it.l, it.d + 1, some sm⟩], as' ++ [t1, t2], fset F sm (some it.f), fset L sm (some it.l), fset A sm it.a, _, _, _, _, _, _, rfl, rfl,
              ⟨frame_new (fr20.trans s21.frame) f4, by rw [upd_ne plw.symm]; exact s21 _ _ p20, by rw [upd_ne nw1]; exact s21 _ _ h1, by rw [upd_ne nw2]; exact s21 _ _ h2, by rw [upd_ne nw3]; exact s21 _ _ h3, ?_, ?_, inv.turn r1 r2 r4⟩, ?_⟩
            · rw [sizes_app, sizes_two]
              show sizes W' + (2 * (sm - it.f) + 1 + (2 * (it.l - (sm + 1)) + 1)) < m
              omega
            · rw [upd_same, List.map_append, List.append_assoc]
              rfl
            · refine ((hp20.keep (TK.of s21)).keep tk22).app (.cons ?_ (.cons ?_ .nil))
              · exact tk22 _ _ (s21 _ _ ht20)
              · exact tk22 _ _ h21
            · rw [sizes_app, sizes_two, List.length_append]
              show W'.length + 2 + (sizes W' + (2 * (sm - it.f) + 1 + (2 * (it.l - (sm + 1)) + 1))) ≤ _
              omega
        · have hfl : ¬ (it.f : Int) < (it.l : Int) := fun z => hfl (decide_eq_true z)
          refine ⟨sizes W', by omega, W', as', F, L, A, _, _, _, _, _, _, rfl, rfl, ⟨fr14, p14, h1, h2, h3, hw, hp7, inv.drop (by omega)⟩, by omega⟩
      · have hne : ¬ (((as.map V.ref).length : Int) > 0) := fun z => hne (decide_eq_true z)
        have hW : W = [] := by
          have := S.pile.len
          rw [List.length_map] at hne
          exact List.eq_nil_of_length_eq_zero (by omega)
        subst hW
        exact k l1 l2 l3 F L A H13 S.ob S.h1 S.h2 S.h3 S.inv.end S.fr
end
end Hs
namespace Hs
open PySem L2
theorem same_upd {H H' : Hp} {q : Addr} {o : HO} (s : Same H H') (h : H q = none) : Same H (upd H' q o) := fun b u e => by
  rw [upd_ne (ne_of_none e h)]
  exact s b u e
theorem dps_congr {x y : Nat → Int} {n : Nat} (e : ∀ j, j < n → x j = y j) : dps x 0 n = dps y 0 n := by
  show (seg x 0 n).map V.int = (seg y 0 n).map V.int
  rw [seg_congr fun j _ h => e j h]
/-- c more from a on below b -/
def inc (c : Int) (a b : Nat) (g : Nat → Int) : Nat → Int := fun j => if a ≤ j ∧ j < b then g j + c else g j
theorem inc_zero {c : Int} {a : Nat} {g : Nat → Int} : inc c a a g = g := by
  funext j
  unfold inc
  rw [if_neg (by omega)]
theorem inc_step {c : Int} {a i : Nat} {g : Nat → Int} (j : Nat) : fset (inc c a (a + i) g) (a + i) (g (a + i) + c) j = inc c a (a + i + 1) g j := by
  unfold fset inc
  by_cases e : j = a + i
  · subst e
    rw [if_pos rfl, if_pos (by omega)]
  · rw [if_neg e]
    by_cases q : a ≤ j ∧ j < a + i
    · rw [if_pos q, if_pos (by omega)]
    · rw [if_neg q, if_neg (by omega)]
theorem inc_at {c : Int} {a i : Nat} {g : Nat → Int} : inc c a (a + i) g (a + i) = g (a + i) := by
  unfold inc
  rw [if_neg (by omega)]
theorem rg_inc {x : Nat → Int} {one other f l oa ob ia ib : Nat} (h1 : f ≤ one) (h2 : one < l) (h3 : f ≤ other) (h4 : other < l)
    (hc : (other < one ∧ oa = one + 1 ∧ ob = l ∧ ia = f ∧ ib = other) ∨ (one < other ∧ oa = f ∧ ob = one ∧ ia = other + 1 ∧ ib = l)) (j : Nat) :
    inc (-1) ia ib (inc 1 oa ob (fset (fset x one (x one + 1)) other (x other - 1))) j = rg x one other f l j := by
  unfold inc fset rg
  rcases hc with ⟨c1, c2, c3, c4, c5⟩ | ⟨c1, c2, c3, c4, c5⟩
  · subst c2; subst c3; subst c4; subst c5
    by_cases e1 : j = one
    · subst e1
      rw [if_neg (by omega), if_neg (by omega), if_neg (by omega), if_pos rfl, if_pos rfl]
    · by_cases e2 : j = ib
      · subst e2
        rw [if_neg (by omega), if_neg (by omega), if_pos rfl, if_neg e1, if_pos rfl]
      · rw [if_neg e1, if_neg e1, if_neg e2, if_neg e2, if_pos c1]
        by_cases a1 : one < j ∧ j < ob
        · rw [if_neg (by omega), if_pos (by omega), if_pos a1]
        · rw [if_neg a1]
          by_cases a2 : ia ≤ j ∧ j < ib
          · rw [if_pos a2, if_neg (by omega), if_pos a2]; omega
          · rw [if_neg a2, if_neg (by omega), if_neg a2]
  · subst c2; subst c3; subst c4; subst c5
    by_cases e1 : j = ob
    · subst e1
      rw [if_neg (by omega), if_neg (by omega), if_neg (by omega), if_pos rfl, if_pos rfl]
    · by_cases e2 : j = other
      · subst e2
        rw [if_neg (by omega), if_neg (by omega), if_pos rfl, if_neg e1, if_pos rfl]
      · rw [if_neg e1, if_neg e1, if_neg e2, if_neg e2, if_neg (by omega : ¬ other < ob)]
        by_cases a1 : oa ≤ j ∧ j < ob
        · rw [if_neg (by omega), if_pos a1, if_pos a1]
        · rw [if_neg a1, if_neg a1]
          by_cases a2 : other < j ∧ j < ib
          · rw [if_pos (by omega), if_pos a2]; omega
          · rw [if_neg (by omega), if_neg a2]
theorem rgV_get {a b : Int} {i : Nat} {v : V} (h : (rgV a b)[i]? = some v) : v = .int (a + (i : Int)) ∧ i < (b - a).toNat := by
  have hi : i < (b - a).toNat := by
    have := (List.getElem?_eq_some_iff.mp h).1
    rw [rgV_length] at this
    exact this
  refine ⟨?_, hi⟩
  unfold rgV at h
  rw [List.getElem?_map, List.getElem?_range hi] at h
  exact (Option.some.inj h).symm
section
variable {P : Program} {w : World} {K : PySem.W.Frag} {mg : Str → Option Value} {base : Heap} {C : Addr}
/-! ### fair, is_shape, check_shape -/
def spTrue : Sp := fun vs H Q _ => ∃ (x : Nat → Int) (n : Nat) (t : Addr), vs = [.ref t] ∧ H t = some (ti x n) ∧ n ≤ 39 ∧ Sh x 0 0 n ∧ ∀ H' : Hp, Same H H' → Q (.bl true) H'
def spCheck : Sp := fun vs H Q _ => ∃ (x : Nat → Int) (n : Nat) (t : Addr), vs = [.ref t] ∧ H t = some (ti x n) ∧ n ≤ 39 ∧ Sh x 0 0 n ∧ ∀ H' : Hp, Same H H' → Q .non H'
theorem ok_fair {f : Addr} {fd : FuncData} (F : Fun K "is_fair" "is_fair" sFair f fd) (T : Txt K mg C) : FnOk P w K mg base CX0 3 f fd ["thing"] spTrue := by
  obtain ⟨f1, fd1, m1, F1, b1⟩ := T.hIsInt
  have G1 : FnOk P w K mg base CX0 1 f1 fd1 ["thing"] spIsInt := ok_isInt F1 T
  obtain ⟨f2, fd2, M2, F2, b2⟩ := T.init
  have G2 : FnOk P w K mg base CX0 1 f2 fd2 ["self", "shape"] (spInit C) := ok_init F2 T
  refine F.ok scFair (fun vs H Q E h => ?_) (fun cdv A outer s H vs Q E hr h => ?_)
  · obtain ⟨x, n, t, rfl, _⟩ := h
    rfl
  · obtain ⟨x, n, t, rfl, ht, hn, hsh, k⟩ := h
    have hr1 : Room 1 _ := hr.mono (by decide)
    refine ⟨_, pss_cons (ps_if (PW.pt (pw_or (pt_not (pt_val (pe_callB call_isi (by rfl) T.m_isinstance (by decide +kernel) (pa_cons (pv 0) (pa_cons (pe_bltn (v := .ty "tuple") (by rfl) T.m_tuple (by decide +kernel) rfl) pa_nil)))))
          (pw_or1 (pt_not (pt_val (pe_callB (cr_all rfl) (by rfl) T.m_all (by decide +kernel) (pa_cons (pe_lc (own := [("depth", 1)]) (g := gName 1) (by rfl) scFair.nd (pi_tup (pv 0))
            (blkOk_by (own := [("depth", 1)]) (N := ["thing", "depth"]) (sc := defScope sFair) (by decide +kernel))
            (fun _ _ _ _ _ => pg_name (i := 1) scFair.nd rfl (Or.inl rfl)) (fun _ _ _ _ _ => pts_nil)
            (fun _ _ _ _ _ => pe_and (pe_call G1 hr1 rfl m1 F1.kp b1 .nil pass0 (pa_cons (pv 1) pa_nil)) (pe_one (pe_cmpR op_ge (pv 1) pe_int (nomark _))))) pa_nil))))))) (pss_one (ps_ret pe_bl)) pss_nil)
      (pss_one (ps_ret (pe_fld (pe_make M2 G2 hr rfl T.mgC b2 .nil pass0 (pa_cons (pv 0) pa_nil)) rfl))), ?_⟩
    refine ⟨_, rfl, .ref t, .ty "tuple", .type "tuple", .type "tuple", true, rfl, .ty _, .base (.tup ht), kit_ty (by decide +kernel), true, rfl, ?_⟩
    refine iteF ?_
    refine ⟨_, rfl, t, rfl, ⟨_, SqT.of ht⟩, fun D hD => ?_⟩
    have ntD : t ≠ D := ne_of_none ht hD
    refine lc_tup (K := K) (a := t) (xs := dps x 0 n) (fun i H' => H' = upd H D (.lst ((List.replicate i true).map V.bl))) rfl ?_ ?_ ?_
    · rintro i H' _ rfl
      exact SqT.of (by rw [upd_ne ntD]; exact ht)
    · rintro i v H' hi rfl
      obtain ⟨hi, rfl⟩ := dps_inv hi
      have g0 := hsh.ge (0 + i) (by omega) (by omega)
      refine ⟨rfl, keepT ?_⟩
      refine ⟨_, rfl, x (0 + i), rfl, true, rfl, iteT ?_⟩
      refine ⟨_, rfl, _, _, rfl, rfl, ?_⟩
      refine ⟨_, upd_same, ?_, ?_⟩
      · rw [List.length_map, List.length_replicate]
        exact small1000 (by omega)
      · show upd _ D (.lst (_ ++ [V.bl (decide (0 ≤ x (0 + i)))])) = _
        rw [decide_eq_true g0, upd_upd, List.replicate_succ', List.map_append]
        rfl
    · rintro H' rfl
      refine ⟨D, List.replicate _ true, rfl, SqL.of upd_same, _, rfl, ?_⟩
      rw [all_rep]
      refine iteF ?_
      have sD := same_new (o := .lst ((List.replicate (dps x 0 n).length true).map V.bl)) hD
      generalize upd H D (.lst ((List.replicate (dps x 0 n).length true).map V.bl)) = H1 at sD
      have ht1 := sD _ _ ht
      refine ⟨_, rfl, fun p dx np nd ne => ?_⟩
      refine ⟨x, n, p, t, dx, rfl, upd_same, by rw [upd_ne (ne_of_none ht1 np), upd_ne (ne_of_none ht1 nd)]; exact ht1, hn, hsh, fun l1 l2 l3 F L A H' ob _ _ _ _ fr => ⟨rfl, ?_⟩⟩
      refine ⟨p, C, dx, _, _, rfl, ob, T.cl, T.n_fair, jf_fair _ _ _, ?_⟩
      exact k _ (sD.trans (Same.made np nd fr))
theorem ok_isShape {f : Addr} {fd : FuncData} (F : Fun K "is_shape" "is_shape" sIsShape f fd) (T : Txt K mg C) : FnOk P w K mg base CX0 4 f fd ["thing"] spTrue := by
  obtain ⟨f1, fd1, m1, F1, b1⟩ := T.hFair
  have G1 : FnOk P w K mg base CX0 3 f1 fd1 ["thing"] spTrue := ok_fair F1 T
  obtain ⟨tk, hM⟩ := T.mMost
  refine F.ok scIsShape (fun vs H Q E h => ?_) (fun cdv A outer s H vs Q E hr h => ?_)
  · obtain ⟨x, n, t, rfl, _⟩ := h
    rfl
  · obtain ⟨x, n, t, rfl, ht, hn, hsh, k⟩ := h
    refine ⟨_, pss_one (ps_ret (pe_and (pe_callB call_isi (by rfl) T.m_isinstance (by decide +kernel) (pa_cons (pv 0) (pa_cons (pe_bltn (v := .ty "tuple") (by rfl) T.m_tuple (by decide +kernel) rfl) pa_nil)))
      (pe_and (pe_cmpR op_lt (pe_callB call_len_seq (by rfl) T.m_len PySem.boot_len (pa_cons (pv 0) pa_nil)) (pe_glob (v := .int 40) rfl hM ⟨_, rfl⟩) (nomark _))
      (pe_one (pe_call G1 hr rfl m1 F1.kp b1 .nil pass0 (pa_cons (pv 0) pa_nil)))))), ?_⟩
    refine ⟨_, rfl, .ref t, .ty "tuple", .type "tuple", .type "tuple", true, rfl, .ty _, .base (.tup ht), kit_ty (by decide +kernel), true, rfl, iteT ?_⟩
    refine ⟨_, rfl, t, _, rfl, .inr (SqT.of ht), _, _, rfl, rfl, _, rfl, ?_⟩
    rw [dps_len, decide_eq_true (by omega : ((n - 0 : Nat) : Int) < 40)]
    refine iteT ?_
    exact ⟨_, rfl, x, n, t, rfl, ht, hn, hsh, k⟩
theorem ok_check {f : Addr} {fd : FuncData} (F : Fun K "check_shape" "check_shape" sCheck f fd) (T : Txt K mg C) : FnOk P w K mg base CX0 5 f fd ["thing"] spCheck := by
  obtain ⟨f1, fd1, m1, F1, b1⟩ := T.hIsShape
  have G1 : FnOk P w K mg base CX0 4 f1 fd1 ["thing"] spTrue := ok_isShape F1 T
  refine F.ok scCheck (fun vs H Q E h => ?_) (fun cdv A outer s H vs Q E hr h => ?_)
  · obtain ⟨x, n, t, rfl, _⟩ := h
    rfl
  · obtain ⟨x, n, t, rfl, ht, hn, hsh, k⟩ := h
    refine ⟨_, pss_one (ps_if (pt_not (pt_val (pe_call G1 hr rfl m1 F1.kp b1 .nil pass0 (pa_cons (pv 0) pa_nil)))) (pss_one ps_never) pss_nil), ?_⟩
    refine ⟨_, rfl, x, n, t, rfl, ht, hn, hsh, fun H' s1 => ⟨true, rfl, ?_⟩⟩
    refine iteF ?_
    exact k _ s1
/-! ### is_step -/
def spIsStep : Sp := fun vs H Q _ => ∃ (x : Nat → Int) (n one other : Nat) (t : Addr), vs = [.ref t, .int (one : Int), .int (other : Int)] ∧ H t = some (ti x n) ∧ n ≤ 39 ∧ Sh x 0 0 n ∧ Par x n one other ∧ ∀ H' : Hp, Same H H' → Q (.bl true) H'
theorem ok_isStep {f : Addr} {fd : FuncData} (F : Fun K "is_step" "is_step" sIsStep f fd) (T : Txt K mg C) : FnOk P w K mg base CX0 4 f fd ["shape", "one", "other"] spIsStep := by
  obtain ⟨f1, fd1, m1, F1, b1⟩ := T.hIndex
  have G1 : FnOk P w K mg base CX0 3 f1 fd1 ["thing", "many"] spIndex := ok_index F1 T
  obtain ⟨f2, fd2, M2, F2, b2⟩ := T.init
  have G2 : FnOk P w K mg base CX0 1 f2 fd2 ["self", "shape"] (spInit C) := ok_init F2 T
  refine F.ok scIsStep (fun vs H Q E h => ?_) (fun cdv A outer s H vs Q E hr h => ?_)
  · obtain ⟨x, n, one, other, t, rfl, _⟩ := h
    rfl
  · obtain ⟨x, n, one, other, t, rfl, ht, hn, hsh, hp, k⟩ := h
    have hr2 : Room 2 _ := hr.mono (by decide)
    have hlt := hp.lt
    have el : (dps x 0 n).length = n := by rw [dps_len]; omega
    refine ⟨_, pss_cons (ps_if (PW.pt (pw_or (pt_not (pt_val (pe_call G1 hr rfl m1 F1.kp b1 .nil pass0 (pa_cons (pv 1) (pa_cons (pe_callB call_len_seq (by rfl) T.m_len PySem.boot_len (pa_cons (pv 0) pa_nil)) pa_nil)))))
          (pw_or1 (pt_not (pt_val (pe_call G1 hr rfl m1 F1.kp b1 .nil pass0 (pa_cons (pv 2) (pa_cons (pe_callB call_len_seq (by rfl) T.m_len PySem.boot_len (pa_cons (pv 0) pa_nil)) pa_nil)))))))) (pss_one (ps_ret pe_bl)) pss_nil)
      (pss_one (ps_ret (pe_cmpR op_eq (pe_ix ix_list (pe_fld (pe_make M2 G2 hr2 rfl T.mgC b2 .nil pass0 (pa_cons (pv 0) pa_nil)) rfl) (pv 2) (fun _ _ => rfl)) (pv 1) (nomark _)))), ?_⟩
    refine ⟨_, rfl, _, rfl, t, _, rfl, .inr (SqT.of ht), _, _, rfl, by omega, by omega, true, rfl, ?_⟩
    refine iteF ?_
    refine ⟨_, rfl, _, rfl, t, _, rfl, .inr (SqT.of ht), _, _, rfl, by omega, by omega, true, rfl, ?_⟩
    refine iteF ?_
    refine ⟨_, rfl, fun p dx np nd ne => ?_⟩
    refine ⟨x, n, p, t, dx, rfl, upd_same, by rw [upd_ne (ne_of_none ht np), upd_ne (ne_of_none ht nd)]; exact ht, hn, hsh, fun l1 l2 l3 F L A H' ob h1 h2 h3 dn fr => ⟨rfl, ?_⟩⟩
    have e := (dn other hlt.2.1).par hsh hp
    refine ⟨p, C, dx, _, _, rfl, ob, T.cl, T.n_above, jf_above _ _ _, _, rfl, l3, _, _, _, rfl, rfl, SqL.of h3, at_of (j := other) rfl (ovs_get hlt.2.1), _, rfl, ?_, ?_⟩
    · rw [e]
      rfl
    · rw [e]
      show Q (V.bl (decide (V.int (one : Int) = V.int (one : Int)))) H'
      rw [decide_eq_true rfl]
      exact k _ (Same.made np nd fr)
/-! ### regrouped_by -/
def spRegBy : Sp := fun vs H Q _ => ∃ (x : Nat → Int) (n one other : Nat) (t : Addr), vs = [.ref t, .int (one : Int), .int (other : Int)] ∧ H t = some (ti x n) ∧ n ≤ 39 ∧ Sh x 0 0 n ∧ Par x n one other ∧
  ∀ (f l : Nat) (r : Addr) (H' : Hp), Span x n one f l → Same H H' → H' r = some (ti (rg x one other f l) n) → Q (.ref r) H'
theorem ok_regBy {f : Addr} {fd : FuncData} (F : Fun K "regrouped_by" "regrouped_by" sRegBy f fd) (T : Txt K mg C) : FnOk P w K mg base CX0 3 f fd ["shape", "one", "other"] spRegBy := by
  obtain ⟨f2, fd2, M2, F2, b2⟩ := T.init
  have G2 : FnOk P w K mg base CX0 1 f2 fd2 ["self", "shape"] (spInit C) := ok_init F2 T
  refine F.ok scRegBy (fun vs H Q E h => ?_) (fun cdv A outer s H vs Q E hr h => ?_)
  · obtain ⟨x, n, one, other, t, rfl, _⟩ := h
    rfl
  · obtain ⟨x, n, one, other, t, rfl, ht, hn, hsh, hp, k⟩ := h
    have hlt := hp.lt
    refine ⟨_, pss_cons (ps_set (i := 3) scRegBy.nd rfl (Or.inl rfl) (pe_make M2 G2 hr rfl T.mgC b2 .nil pass0 (pa_cons (pv 0) pa_nil)))
      (pss_cons (ps_set (i := 4) scRegBy.nd rfl (Or.inl rfl) (pe_callTy call_list_of (by rfl) T.m_list (by decide +kernel) (pa_cons (pv 0) pa_nil)))
      (pss_cons (ps_par (i := 5) (j := 6) (by rfl) scRegBy.nd rfl rfl (by decide) rfl rfl (pa_cons (pe_ix ix_list (pe_fld (pv 3) rfl) (pv 1) (fun _ _ => rfl)) (pa_cons (pe_ix ix_list (pe_fld (pv 3) rfl) (pv 1) (fun _ _ => rfl)) pa_nil)) (by rfl))
      (C8.pss_cut (ps_if (pt_cmpR op_lt (pv 2) (pv 1) (nomark _))
          (pss_cons (ps_set (i := 7) scRegBy.nd rfl (Or.inl rfl) (pe_listRg rfl (by rfl) T.m_list (prg_2 (by rfl) T.m_range (pe_op op_add (pv 1) pe_int) (pv 6))))
          (pss_one (ps_set (i := 8) scRegBy.nd rfl (Or.inl rfl) (pe_listRg rfl (by rfl) T.m_list (prg_2 (by rfl) T.m_range (pv 5) (pv 2))))))
          (pss_cons (ps_set (i := 7) scRegBy.nd rfl (Or.inl rfl) (pe_listRg rfl (by rfl) T.m_list (prg_2 (by rfl) T.m_range (pv 5) (pv 1))))
          (pss_one (ps_set (i := 8) scRegBy.nd rfl (Or.inl rfl) (pe_listRg rfl (by rfl) T.m_list (prg_2 (by rfl) T.m_range (pe_op op_add (pv 2) pe_int) (pv 6)))))))
      (pss_cons (ps_augS (pv 4) (pv 1) get_list pe_int ip_add set_list)
      (pss_cons (ps_augS (pv 4) (pv 2) get_list pe_int ip_sub set_list)
      (pss_cons (ps_for PassesOwn.never rfl (pi_list (pv 7)) (pg_name (i := 9) scRegBy.nd rfl (Or.inl rfl)) (pss_one (ps_augS (pv 4) (pv 9) get_list pe_int ip_add set_list)))
      (pss_cons (ps_for PassesOwn.never rfl (pi_list (pv 8)) (pg_name (i := 9) scRegBy.nd rfl (Or.inl rfl)) (pss_one (ps_augS (pv 4) (pv 9) get_list pe_int ip_sub set_list)))
      (pss_one (ps_ret (pe_callTy call_tuple_of (by rfl) T.m_tuple (by decide +kernel) (pa_cons (pv 4) pa_nil))))))))))), ?_⟩
    -- joinings
    refine ⟨_, rfl, fun p dx np nd ne => ?_⟩
    refine ⟨x, n, p, t, dx, rfl, upd_same, by rw [upd_ne (ne_of_none ht np), upd_ne (ne_of_none ht nd)]; exact ht, hn, hsh, fun l1 l2 l3 F L A H1 ob h1 h2 h3 dn fr => ⟨rfl, ?_⟩⟩
    have s1 : Same H H1 := Same.made np nd fr
    obtain ⟨fo, lo, S, eF, eL, _⟩ := dn one hlt.1
    obtain ⟨of1, ol⟩ := hp.span S
    have S1 := S.fs; have S2 := S.sl; have S3 := S.ln
    -- found
    refine ⟨_, rfl, t, _, rfl, .inr (SqT.of (s1 _ _ ht)), fun fl nfl => ?_⟩
    have s2 := s1.trans (same_new (o := .lst (dps x 0 n)) nfl)
    have s12 := same_new (o := .lst (dps x 0 n)) nfl
    have hf := @upd_same H1 fl (.lst (dps x 0 n))
    have f0 : H fl = none := s1.free nfl
    generalize upd H1 fl (.lst (dps x 0 n)) = H2 at s2 s12 hf
    -- first, last
    refine ⟨_, rfl, p, C, dx, _, _, rfl, s12 _ _ ob, T.cl, T.n_first, jf_first _ _ _, _, rfl, l1, _, _, _, rfl, rfl, SqL.of (s12 _ _ h1), at_of (j := one) rfl (ovs_get hlt.1), ?_⟩
    refine ⟨_, rfl, p, C, dx, _, _, rfl, s12 _ _ ob, T.cl, T.n_last, jf_last _ _ _, _, rfl, l2, _, _, _, rfl, rfl, SqL.of (s12 _ _ h2), at_of (j := one) rfl (ovs_get hlt.1), ?_⟩
    refine ⟨_, _, rfl, ?_⟩
    rw [eF, eL]
    -- the two ranges
    refine ⟨fun σ' H' => ∃ (O I : Addr) (oa ob ia ib : Nat), σ' = [some (.ref t), some (.int one), some (.int other), some (.ref p), some (.ref fl), some (.int fo), some (.int lo), some (.ref O), some (.ref I), none] ∧ Same H H' ∧
      H' fl = some (.lst (dps x 0 n)) ∧ H' O = some (.lst (rgV (oa : Int) (ob : Int))) ∧ H' I = some (.lst (rgV (ia : Int) (ib : Int))) ∧ O ≠ fl ∧ I ≠ fl ∧ ob ≤ n ∧ ib ≤ n ∧
      ((other < one ∧ oa = one + 1 ∧ ob = lo ∧ ia = fo ∧ ib = other) ∨ (one < other ∧ oa = fo ∧ ob = one ∧ ia = other + 1 ∧ ib = lo)), ?_, ?_⟩
    · refine ⟨_, rfl, _, rfl, _, _, rfl, rfl, _, rfl, ?_⟩
      refine ite2 (fun hlo => ?_) (fun hlo => ?_)
      · have hlo := of_decide_eq_true hlo
        refine ⟨_, rfl, _, _, rfl, rfl, _, rfl, _, _, rfl, rfl, RgOk.of_le (by omega) (by omega) (by omega) (by omega), fun O nO => ?_⟩
        have s3 := same_new (o := .lst (rgV ((one : Int) + 1) (lo : Int))) nO
        have hO := @upd_same H2 O (.lst (rgV ((one : Int) + 1) (lo : Int)))
        have nOf : O ≠ fl := (ne_of_none hf nO).symm
        generalize upd H2 O (.lst (rgV ((one : Int) + 1) (lo : Int))) = H3 at s3 hO
        refine ⟨_, rfl, _, rfl, _, _, rfl, rfl, RgOk.of_le (by omega) (by omega) (by omega) (by omega), fun I nI => ?_⟩
        have s4 := same_new (o := .lst (rgV (fo : Int) (other : Int))) nI
        exact ⟨O, I, one + 1, lo, fo, other, rfl, s2.trans (s3.trans s4), s4 _ _ (s3 _ _ hf), s4 _ _ hO, upd_same, nOf, (ne_of_none (s3 _ _ hf) nI).symm, S3, by omega, .inl ⟨by omega, rfl, rfl, rfl, rfl⟩⟩
      · have hlo : ¬ (other : Int) < (one : Int) := fun z => hlo (decide_eq_true z)
        refine ⟨_, rfl, _, rfl, _, _, rfl, rfl, RgOk.of_le (by omega) (by omega) (by omega) (by omega), fun O nO => ?_⟩
        have s3 := same_new (o := .lst (rgV (fo : Int) (one : Int))) nO
        have hO := @upd_same H2 O (.lst (rgV (fo : Int) (one : Int)))
        have nOf : O ≠ fl := (ne_of_none hf nO).symm
        generalize upd H2 O (.lst (rgV (fo : Int) (one : Int))) = H3 at s3 hO
        refine ⟨_, rfl, _, _, rfl, rfl, _, rfl, _, _, rfl, rfl, RgOk.of_le (by omega) (by omega) (by omega) (by omega), fun I nI => ?_⟩
        have s4 := same_new (o := .lst (rgV ((other : Int) + 1) (lo : Int))) nI
        exact ⟨O, I, fo, one, other + 1, lo, rfl, s2.trans (s3.trans s4), s4 _ _ (s3 _ _ hf), s4 _ _ hO, upd_same, nOf, (ne_of_none (s3 _ _ hf) nI).symm, by omega, S3, .inr ⟨by omega, rfl, rfl, rfl, rfl⟩⟩
    rintro σ' H3 ⟨O, I, oa, ob1, ia, ib, rfl, s3, hf, hO, hI, nOf, nIf, hob, hib, hc⟩
    -- found[one] += 1
    refine ⟨_, rfl, _, rfl, fl, _, one, _, rfl, rfl, SqL.of hf, dps_get hlt.1, _, _, rfl, rfl, fl, _, _, one, rfl, rfl, hf, by rw [dps_len]; exact ixN_nat (by omega), ?_⟩
    have s4 : Same H (upd H3 fl (.lst ((dps x 0 n).set one (V.int (x one + 1))))) := same_upd s3 f0
    have hf4 : (upd H3 fl (.lst ((dps x 0 n).set one (V.int (x one + 1))))) fl = some (.lst (dps (fset x one (x one + 1)) 0 n)) := by rw [upd_same, dps_set]
    have hO4 : (upd H3 fl (.lst ((dps x 0 n).set one (V.int (x one + 1))))) O = some (.lst (rgV (oa : Int) (ob1 : Int))) := by rw [upd_ne nOf]; exact hO
    have hI4 : (upd H3 fl (.lst ((dps x 0 n).set one (V.int (x one + 1))))) I = some (.lst (rgV (ia : Int) (ib : Int))) := by rw [upd_ne nIf]; exact hI
    generalize upd H3 fl (.lst ((dps x 0 n).set one (V.int (x one + 1)))) = H4 at s4 hf4 hO4 hI4
    have eo : fset x one (x one + 1) other = x other := by
      unfold fset
      rw [if_neg hlt.2.2.symm]
    -- found[other] -= 1
    refine ⟨_, rfl, _, rfl, fl, _, other, _, rfl, rfl, SqL.of hf4, dps_get hlt.2.1, _, _, rfl, rfl, fl, _, _, other, rfl, rfl, hf4, by rw [dps_len]; exact ixN_nat (by omega), ?_⟩
    rw [eo]
    have s5 : Same H (upd H4 fl (.lst ((dps (fset x one (x one + 1)) 0 n).set other (V.int (x other - 1))))) := same_upd s4 f0
    have hf5 : (upd H4 fl (.lst ((dps (fset x one (x one + 1)) 0 n).set other (V.int (x other - 1))))) fl = some (.lst (dps (fset (fset x one (x one + 1)) other (x other - 1)) 0 n)) := by rw [upd_same, dps_set]
    have hO5 : (upd H4 fl (.lst ((dps (fset x one (x one + 1)) 0 n).set other (V.int (x other - 1))))) O = some (.lst (rgV (oa : Int) (ob1 : Int))) := by rw [upd_ne nOf]; exact hO4
    have hI5 : (upd H4 fl (.lst ((dps (fset x one (x one + 1)) 0 n).set other (V.int (x other - 1))))) I = some (.lst (rgV (ia : Int) (ib : Int))) := by rw [upd_ne nIf]; exact hI4
    generalize upd H4 fl (.lst ((dps (fset x one (x one + 1)) 0 n).set other (V.int (x other - 1)))) = H5 at s5 hf5 hO5 hI5
    have gdef : ∀ j, inc (-1) ia ib (inc 1 oa ob1 (fset (fset x one (x one + 1)) other (x other - 1))) j = rg x one other fo lo j := rg_inc S1 S2 of1 ol hc
    generalize fset (fset x one (x one + 1)) other (x other - 1) = g at hf5 gdef
    -- for seam in outer
    refine ⟨_, rfl, O, rfl, ⟨_, SqL.of hO5⟩, for_list (K := K) (a := O) (xs := rgV (oa : Int) (ob1 : Int)) (fun i σ H' => ∃ v9 : Option V, σ = [some (.ref t), some (.int one), some (.int other), some (.ref p), some (.ref fl), some (.int fo), some (.int lo), some (.ref O), some (.ref I), v9] ∧ Same H H' ∧
        H' fl = some (.lst (dps (inc 1 oa (oa + i) g) 0 n)) ∧ H' O = some (.lst (rgV (oa : Int) (ob1 : Int))) ∧ H' I = some (.lst (rgV (ia : Int) (ib : Int)))) ?_ ?_ ?_ ?_⟩
    · exact ⟨none, rfl, s5, by rw [Nat.add_zero, inc_zero]; exact hf5, hO5, hI5⟩
    · rintro i σ H6 _ ⟨v9, rfl, _, _, hO6, _⟩
      exact SqL.of hO6
    · rintro i v σ H6 hi ⟨v9, rfl, s6, hf6, hO6, hI6⟩
      obtain ⟨rfl, hi⟩ := rgV_get hi
      have ei : ((oa : Int) + (i : Int)) = ((oa + i : Nat) : Int) := by omega
      refine ⟨_, rfl, _, rfl, fl, _, oa + i, _, rfl, congrArg V.int ei, SqL.of hf6, dps_get (by omega), _, _, rfl, rfl, fl, _, _, oa + i, rfl, congrArg V.int ei, hf6, by rw [dps_len]; exact ixN_nat (by omega), ?_⟩
      rw [inc_at]
      refine ⟨_, rfl, same_upd s6 f0, ?_, by rw [upd_ne nOf]; exact hO6, by rw [upd_ne nIf]; exact hI6⟩
      rw [upd_same, dps_set]
      exact congrArg (fun q => some (HO.lst q)) (dps_congr fun j _ => inc_step j)
    · rintro σ H6 ⟨v9, rfl, s6, hf6, hO6, hI6⟩
      have e6 : dps (inc 1 oa (oa + (rgV (oa : Int) (ob1 : Int)).length) g) 0 n = dps (inc 1 oa ob1 g) 0 n := by
        refine dps_congr fun j _ => ?_
        rw [rgV_length]
        unfold inc
        by_cases q : oa ≤ j ∧ j < ob1
        · rw [if_pos (by omega), if_pos q]
        · rw [if_neg (by omega), if_neg q]
      rw [e6] at hf6
      generalize inc 1 oa ob1 g = g2 at hf6 gdef
      -- for seam in inner
      refine ⟨_, rfl, I, rfl, ⟨_, SqL.of hI6⟩, for_list (K := K) (a := I) (xs := rgV (ia : Int) (ib : Int)) (fun i σ H' => ∃ v9 : Option V, σ = [some (.ref t), some (.int one), some (.int other), some (.ref p), some (.ref fl), some (.int fo), some (.int lo), some (.ref O), some (.ref I), v9] ∧ Same H H' ∧
          H' fl = some (.lst (dps (inc (-1) ia (ia + i) g2) 0 n)) ∧ H' I = some (.lst (rgV (ia : Int) (ib : Int)))) ?_ ?_ ?_ ?_⟩
      · exact ⟨v9, rfl, s6, by rw [Nat.add_zero, inc_zero]; exact hf6, hI6⟩
      · rintro i σ H7 _ ⟨v9, rfl, _, _, hI7⟩
        exact SqL.of hI7
      · rintro i v σ H7 hi ⟨v9, rfl, s7, hf7, hI7⟩
        obtain ⟨rfl, hi⟩ := rgV_get hi
        have ei : ((ia : Int) + (i : Int)) = ((ia + i : Nat) : Int) := by omega
        refine ⟨_, rfl, _, rfl, fl, _, ia + i, _, rfl, congrArg V.int ei, SqL.of hf7, dps_get (by omega), _, _, rfl, rfl, fl, _, _, ia + i, rfl, congrArg V.int ei, hf7, by rw [dps_len]; exact ixN_nat (by omega), ?_⟩
        rw [inc_at]
        refine ⟨_, rfl, same_upd s7 f0, ?_, by rw [upd_ne nIf]; exact hI7⟩
        rw [upd_same, dps_set]
        exact congrArg (fun q => some (HO.lst q)) (dps_congr fun j _ => inc_step (c := -1) j)
      · rintro σ H7 ⟨v9, rfl, s7, hf7, hI7⟩
        have e7 : dps (inc (-1) ia (ia + (rgV (ia : Int) (ib : Int)).length) g2) 0 n = dps (rg x one other fo lo) 0 n := by
          refine dps_congr fun j _ => ?_
          rw [← gdef j, rgV_length]
          unfold inc
          by_cases q : ia ≤ j ∧ j < ib
          · rw [if_pos (by omega), if_pos q]
          · rw [if_neg (by omega), if_neg q]
        rw [e7] at hf7
        refine ⟨_, rfl, fl, _, rfl, .inl ⟨SqL.of hf7, fun r nr => ?_⟩⟩
        exact k fo lo r _ S (s7.trans (same_new nr)) upd_same
/-! ### regrouped -/
theorem ok_reg {f : Addr} {fd : FuncData} (F : Fun K "regrouped" "regrouped" sReg f fd) (T : Txt K mg C) : FnOk P w K mg base CX0 6 f fd ["shape", "one", "other"] spRegBy := by
  obtain ⟨f1, fd1, m1, F1, b1⟩ := T.hCheck
  have G1 : FnOk P w K mg base CX0 5 f1 fd1 ["thing"] spCheck := ok_check F1 T
  obtain ⟨f2, fd2, m2, F2, b2⟩ := T.hIsStep
  have G2 : FnOk P w K mg base CX0 4 f2 fd2 ["shape", "one", "other"] spIsStep := ok_isStep F2 T
  obtain ⟨f3, fd3, m3, F3, b3⟩ := T.hRegBy
  have G3 : FnOk P w K mg base CX0 3 f3 fd3 ["shape", "one", "other"] spRegBy := ok_regBy F3 T
  refine F.ok scReg (fun vs H Q E h => ?_) (fun cdv A outer s H vs Q E hr h => ?_)
  · obtain ⟨x, n, one, other, t, rfl, _⟩ := h
    rfl
  · obtain ⟨x, n, one, other, t, rfl, ht, hn, hsh, hp, k⟩ := h
    have hr4 : Room 4 _ := hr.mono (by decide)
    have hr3 : Room 3 _ := hr.mono (by decide)
    refine ⟨_, pss_cons (ps_expr (pe_call G1 hr rfl m1 F1.kp b1 .nil pass0 (pa_cons (pv 0) pa_nil)))
      (pss_cons (ps_if (pt_not (pt_val (pe_call G2 hr4 rfl m2 F2.kp b2 .nil pass0 (pa_cons (pv 0) (pa_cons (pv 1) (pa_cons (pv 2) pa_nil)))))) (pss_one ps_never) pss_nil)
      (pss_one (ps_ret (pe_call G3 hr3 rfl m3 F3.kp b3 .nil pass0 (pa_cons (pv 0) (pa_cons (pv 1) (pa_cons (pv 2) pa_nil))))))), ?_⟩
    refine ⟨_, rfl, x, n, t, rfl, ht, hn, hsh, fun H1 s1 => ?_⟩
    refine ⟨_, rfl, _, rfl, _, rfl, x, n, one, other, t, rfl, s1 _ _ ht, hn, hsh, hp, fun H2 s2 => ⟨true, rfl, ?_⟩⟩
    refine iteF ?_
    refine ⟨_, rfl, _, rfl, _, rfl, x, n, one, other, t, rfl, s2 _ _ (s1 _ _ ht), hn, hsh, hp, fun f l r H3 S s3 h3 => ?_⟩
    exact k f l r H3 S (s1.trans (s2.trans s3)) h3
end
end Hs
namespace Hs
open PySem L2
/-- over enumerate(list) -/
theorem lc_enum {K : PySem.W.Frag} {a : Addr} {xs : List V} {g : TG} {tt : TT} {te : TE} {vs : List Nat} {σ : L2.St} {H1 : Hp} {D : Addr} {Qd : Hp → Prop} (Pv : Nat → Hp → Prop) (h0 : Pv 0 (upd H1 D (.lst []))) (hl : ∀ i H, i ≤ xs.length → Pv i H → SqL K H a xs)
    (hs : ∀ i x T H, xs[i]? = some x → Pv i H → H T = none → g (.ref T) (wipe σ vs) (upd H T (.tup [.int (i : Int), x])) fun σ2 H2 => wipe σ2 vs = wipe σ vs ∧ tt σ2 H2 fun b H3 =>
      if b = true then te σ2 H3 fun y H4 => ∃ acc, H4 D = some (.lst acc) ∧ acc.length < sizeLine ∧ Pv (i + 1) (upd H4 D (.lst (acc ++ [y]))) else Pv (i + 1) H3) (hd : ∀ H, Pv xs.length H → Qd H) :
    ∃ W : Nat → Nat → Hp → Prop, (∃ m, W 0 m (upd H1 D (.lst []))) ∧ ∀ i m H, W i m H →
      ((Ite K a).stop i H ∧ Qd H) ∨ ((Ite K a).go i H ∧ ∃ Nx : Hp → Prop, (∀ H', Nx H' → ∃ m', m' < m ∧ W (i + 1) m' H') ∧ ∀ x H', (Ite K a).yld i H x H' → g x (wipe σ vs) H' fun σ2 H2 => wipe σ2 vs = wipe σ vs ∧ tt σ2 H2 fun b H3 =>
        if b = true then te σ2 H3 fun y H4 => ∃ acc, H4 D = some (.lst acc) ∧ acc.length < sizeLine ∧ Nx (upd H4 D (.lst (acc ++ [y]))) else Nx H3) := by
  refine ⟨fun i m H => m = xs.length - i ∧ i ≤ xs.length ∧ Pv i H, ⟨xs.length, by simp, Nat.zero_le _, h0⟩, ?_⟩
  rintro i m H ⟨rfl, hi, p⟩
  have q := hl i H hi p
  by_cases hlt : i < xs.length
  · refine .inr ⟨⟨xs, xs[i], q, by simp [hlt]⟩, Pv (i + 1), fun H' p' => ⟨xs.length - (i + 1), by omega, rfl, hlt, p'⟩, fun x H' y => ?_⟩
    obtain ⟨Tp, z, e1, nT, e2, e3⟩ := y
    subst e1; subst e2
    exact hs i z Tp H (e3 xs q) p nT
  · have e : i = xs.length := by omega
    subst e
    exact .inl ⟨⟨xs, q, Nat.le_refl _⟩, hd H p⟩
/-- a tuple of two places -/
def PairAt (H : Hp) (v : V) (z : Nat × Nat) : Prop := ∃ t : Addr, v = V.ref t ∧ H t = some (.tup [.int (z.1 : Int), .int (z.2 : Int)])
theorem PairAt.keep {H H' : Hp} {v : V} {z : Nat × Nat} (h : PairAt H v z) (k : TK H H') : PairAt H' v z := by
  obtain ⟨t, e, h⟩ := h
  exact ⟨t, e, k _ _ h⟩
theorem PairAt.uniq {H : Hp} {v : V} {z y : Nat × Nat} (h : PairAt H v z) (h' : PairAt H v y) : z = y := by
  obtain ⟨t, rfl, h⟩ := h
  obtain ⟨t', e, h'⟩ := h'
  cases e
  rw [h] at h'
  injection h' with e
  injection e with e
  injection e with e1 e2
  injection e2 with e2 _
  injection e1 with e1
  injection e2 with e2
  obtain ⟨a, b⟩ := z
  obtain ⟨c, d⟩ := y
  have h1 : a = c := by
    have : (a : Int) = (c : Int) := e1
    omega
  have h2 : b = d := by
    have : (b : Int) = (d : Int) := e2
    omega
  rw [h1, h2]
/-- a list of pairs of seams, all of which are regroupings; and all of these -/
def Pairs (x : Nat → Int) (n : Nat) (H : Hp) (ys : List V) : Prop := (∀ v, v ∈ ys → ∃ z, PairAt H v z ∧ Par x n z.1 z.2) ∧ ∀ p i, Par x n p i → ∃ v, v ∈ ys ∧ PairAt H v (p, i)
section
variable {P : Program} {w : World} {K : PySem.W.Frag} {mg : Str → Option Value} {base : Heap} {C : Addr}
/-! ### steps_of, regroupings -/
def spSteps : Sp := fun vs H Q _ => ∃ (x : Nat → Int) (n : Nat) (t : Addr), vs = [.ref t] ∧ H t = some (ti x n) ∧ n ≤ 39 ∧ Sh x 0 0 n ∧
  ∀ (ys : List V) (r : Addr) (H' : Hp), Same H H' → H' r = some (.lst ys) → Pairs x n H' ys → Q (.ref r) H'
theorem ok_steps {f : Addr} {fd : FuncData} (F : Fun K "steps_of" "steps_of" sSteps f fd) (T : Txt K mg C) : FnOk P w K mg base CX0 3 f fd ["shape"] spSteps := by
  obtain ⟨f2, fd2, M2, F2, b2⟩ := T.init
  have G2 : FnOk P w K mg base CX0 1 f2 fd2 ["self", "shape"] (spInit C) := ok_init F2 T
  refine F.ok scSteps (fun vs H Q E h => ?_) (fun cdv A outer s H vs Q E hr h => ?_)
  · obtain ⟨x, n, t, rfl, _⟩ := h
    rfl
  · obtain ⟨x, n, t, rfl, ht, hn, hsh, k⟩ := h
    refine ⟨_, pss_cons (ps_set (i := 1) scSteps.nd rfl (Or.inl rfl) (pe_fld (pe_make M2 G2 hr rfl T.mgC b2 .nil pass0 (pa_cons (pv 0) pa_nil)) rfl))
      (pss_one (ps_ret (pe_callB cr_sortedP (by rfl) T.m_sorted (by decide +kernel) (pa_cons (pe_lc (own := [("other", 2), ("one", 3)]) (g := gTup K 2 (gCons (gName 2) (gCons (gName 3) gNil))) (by rfl) scSteps.nd
          (pi_enum (by rfl) T.m_enumerate (pa_cons (pv 1) pa_nil))
          (blkOk_by (own := [("other", 2), ("one", 3)]) (N := ["shape", "above", "other", "one"]) (sc := defScope sSteps) (by decide +kernel))
          (fun _ _ _ _ _ => pg_tup (by rfl) (pgs_cons (pg_name (i := 2) scSteps.nd rfl (Or.inl rfl)) (pgs_cons (pg_name (i := 3) scSteps.nd rfl (Or.inl rfl)) pgs_nil)))
          (fun _ _ _ _ _ => pts_one (pt_cmpR op_notN (pv 3) pe_non (nomark _)))
          (fun _ _ _ _ _ => pe_tup (pa_cons (pv 3) (pa_cons (pv 2) pa_nil)))) pa_nil)))), ?_⟩
    refine ⟨_, rfl, fun p dx np nd ne => ?_⟩
    refine ⟨x, n, p, t, dx, rfl, upd_same, by rw [upd_ne (ne_of_none ht np), upd_ne (ne_of_none ht nd)]; exact ht, hn, hsh, fun l1 l2 l3 F L A H1 ob h1 h2 h3 dn fr => ⟨rfl, ?_⟩⟩
    have s1 : Same H H1 := Same.made np nd fr
    refine ⟨p, C, dx, _, _, rfl, ob, T.cl, T.n_above, jf_above _ _ _, ?_⟩
    refine ⟨_, rfl, l3, _, rfl, SqL.of h3, fun D hD => ?_⟩
    have n3D : l3 ≠ D := ne_of_none h3 hD
    refine lc_enum (K := K) (a := l3) (xs := ovs A n) (fun i H' => ∃ ys : List V, Same H1 H' ∧ H' D = some (.lst ys) ∧ ys.length ≤ i ∧ (∀ v, v ∈ ys → ∃ z, PairAt H' v z ∧ A z.2 = some z.1 ∧ z.2 < i) ∧
        (∀ q j, j < i → A j = some q → ∃ v, v ∈ ys ∧ PairAt H' v (q, j))) ?_ ?_ ?_ ?_
    · refine ⟨[], same_new hD, upd_same, Nat.le_refl _, ?_, fun q j hj => by omega⟩
      intro v hv
      cases hv
    · rintro i H' _ ⟨ys, sH, _⟩
      exact SqL.of (sH _ _ h3)
    · rintro i v T1 H' hi ⟨ys, sH, hDs, hlen, hm, hc⟩ nT
      have hin : i < n := by
        have := (List.getElem?_eq_some_iff.mp hi).1
        rw [ovs_len] at this
        exact this
      rw [ovs_get hin] at hi
      cases hi
      have sT := same_new (o := .tup [V.int (i : Int), oV (A i)]) nT
      have hT := @upd_same H' T1 (.tup [V.int (i : Int), oV (A i)])
      generalize upd H' T1 (.tup [V.int (i : Int), oV (A i)]) = H2 at sT hT
      refine ⟨T1, _, rfl, SqT.of hT, rfl, _, _, rfl, _, _, rfl, rfl, ?_⟩
      refine ⟨rfl, ?_⟩
      refine ⟨_, rfl, rfl, _, rfl, ?_⟩
      have hDs2 := sT _ _ hDs
      cases eA : A i with
      | none =>
        refine iteF ?_
        refine ⟨ys, sH.trans sT, hDs2, by omega, fun v hv => ?_, fun q j hj hq => ?_⟩
        · obtain ⟨z, z1, z2, z3⟩ := hm v hv
          exact ⟨z, z1.keep (TK.of sT), z2, by omega⟩
        · have hji : j < i := by
            by_cases e : j = i
            · subst e
              rw [eA] at hq; cases hq
            · omega
          obtain ⟨v, hv, hvp⟩ := hc q j hji hq
          exact ⟨v, hv, hvp.keep (TK.of sT)⟩
      | some q0 =>
        refine iteT ?_
        refine ⟨_, rfl, _, rfl, (by show 2 ≤ sizeLine; decide), fun u nu => ?_⟩
        have su := same_new (o := .tup [oV (some q0), V.int (i : Int)]) nu
        have hu : (upd H2 u (.tup [oV (some q0), V.int (i : Int)])) u = some (.tup [V.int (q0 : Int), V.int (i : Int)]) := upd_same
        generalize upd H2 u (.tup [oV (some q0), V.int (i : Int)]) = H3 at su hu
        have hD3 := su _ _ hDs2
        have hDn1 : H1 D = none := hD
        have tkD : TK H3 (upd H3 D (.lst (ys ++ [V.ref u]))) := TK.wr hD3
        refine ⟨ys, hD3, ?_, ys ++ [V.ref u], same_upd (sH.trans (sT.trans su)) hDn1, upd_same, by rw [List.length_append]; show _ + 1 ≤ _; omega, fun v hv => ?_, fun q j hj hq => ?_⟩
        · exact small1000 (by omega)
        · rcases List.mem_append.mp hv with hv | hv
          · obtain ⟨z, z1, z2, z3⟩ := hm v hv
            exact ⟨z, (z1.keep (TK.of (sT.trans su))).keep tkD, z2, by omega⟩
          · rw [List.mem_singleton] at hv
            subst hv
            exact ⟨(q0, i), ⟨u, rfl, tkD _ _ hu⟩, eA, Nat.lt_succ_self _⟩
        · by_cases e : j = i
          · subst e
            rw [eA] at hq
            cases hq
            exact ⟨V.ref u, List.mem_append_right _ (List.mem_singleton.mpr rfl), u, rfl, tkD _ _ hu⟩
          · obtain ⟨v, hv, hvp⟩ := hc q j (by omega) hq
            exact ⟨v, List.mem_append_left _ hv, (hvp.keep (TK.of (sT.trans su))).keep tkD⟩
    · rintro H' ⟨ys, sH, hDs, hlen, hm, hc⟩
      rw [ovs_len] at hm hc
      refine ⟨D, ys, rfl, SqL.of hDs, fun v hv => ?_, fun zs r pm nr => ?_⟩
      · obtain ⟨z, ⟨u, e, hu⟩, _⟩ := hm v hv
        exact ⟨u, _, _, e, hu⟩
      · have sr := same_new (o := .lst zs) nr
        refine k zs r _ (s1.trans (sH.trans sr)) upd_same ⟨fun v hv => ?_, fun q i hp => ?_⟩
        · obtain ⟨z, z1, z2, z3⟩ := hm v (pm.mem_iff.mp hv)
          refine ⟨z, z1.keep (TK.of sr), ?_⟩
          obtain ⟨_, _, _, _, _, b⟩ := dn z.2 z3
          rcases b with ⟨b1, _⟩ | ⟨q, b1, b2⟩
          · rw [z2] at b1; cases b1
          · rw [z2] at b1
            cases b1
            exact b2
        · obtain ⟨v, hv, hvp⟩ := hc q i hp.lt.2.1 ((dn i hp.lt.2.1).par hsh hp)
          exact ⟨v, pm.mem_iff.mpr hv, hvp.keep (TK.of sr)⟩
theorem ok_regs {f : Addr} {fd : FuncData} (F : Fun K "regroupings" "regroupings" sRegs f fd) (T : Txt K mg C) : FnOk P w K mg base CX0 6 f fd ["shape"] spSteps := by
  obtain ⟨f1, fd1, m1, F1, b1⟩ := T.hCheck
  have G1 : FnOk P w K mg base CX0 5 f1 fd1 ["thing"] spCheck := ok_check F1 T
  obtain ⟨f2, fd2, m2, F2, b2⟩ := T.hSteps
  have G2 : FnOk P w K mg base CX0 3 f2 fd2 ["shape"] spSteps := ok_steps F2 T
  refine F.ok scRegs (fun vs H Q E h => ?_) (fun cdv A outer s H vs Q E hr h => ?_)
  · obtain ⟨x, n, t, rfl, _⟩ := h
    rfl
  · obtain ⟨x, n, t, rfl, ht, hn, hsh, k⟩ := h
    have hr3 : Room 3 _ := hr.mono (by decide)
    refine ⟨_, pss_cons (ps_expr (pe_call G1 hr rfl m1 F1.kp b1 .nil pass0 (pa_cons (pv 0) pa_nil)))
      (pss_one (ps_ret (pe_call G2 hr3 rfl m2 F2.kp b2 .nil pass0 (pa_cons (pv 0) pa_nil)))), ?_⟩
    refine ⟨_, rfl, x, n, t, rfl, ht, hn, hsh, fun H1 s1 => ?_⟩
    refine ⟨_, rfl, x, n, t, rfl, s1 _ _ ht, hn, hsh, fun ys r H2 s2 hr2 hy => ?_⟩
    exact k ys r H2 (s1.trans s2) hr2 hy
end
end Hs
namespace Hs
open PySem L2
def pairD (z : Nat × Nat) : PyData := .tuple ([(z.1 : Int), (z.2 : Int)].map PyData.int)
theorem pairD_sh (z : Nat × Nat) : SeqAt.shaped (pairD z) = true := sht_nums _
theorem pairDs_lay : ∀ zs : List (Nat × Nat), PyData.canLayAll0 (zs.map pairD) = true
  | [] => by simp [PyData.canLayAll0]
  | z :: zs => by simp [PyData.canLayAll0, SeqAt.canLay_of_shaped (pairD_sh z), pairDs_lay zs]
theorem pairD_deep (z : Nat × Nat) : (pairD z).depth = 1 := by simp [pairD, PyData.depth, PyData.depthAll]
theorem pairDs_deep : ∀ zs : List (Nat × Nat), PyData.depthAll (zs.map pairD) ≤ 1
  | [] => by simp [PyData.depthAll]
  | z :: zs => by
    have h1 := pairDs_deep zs
    have h2 := pairD_deep z
    simp only [List.map_cons, PyData.depthAll]
    omega
theorem pairDs_sh (zs : List (Nat × Nat)) : SeqAt.shaped (.list (zs.map pairD)) = true := by
  have h1 := pairDs_deep zs
  have h2 : PyData.depth (.list (zs.map pairD)) ≤ 64 := by
    simp only [PyData.depth]
    omega
  show (PyData.canLay0 (.list (zs.map pairD)) && decide (PyData.depth (.list (zs.map pairD)) ≤ 64)) = true
  rw [Bool.and_eq_true]
  exact ⟨by simp only [PyData.canLay0]; exact pairDs_lay zs, decide_eq_true h2⟩
theorem PairAt.dp {K : PySem.W.Frag} {H : Hp} {v : V} {z : Nat × Nat} (h : PairAt H v z) : Dp K H v (pairD z) := by
  obtain ⟨t, rfl, h⟩ := h
  exact dpt_nums (ns := [(z.1 : Int), (z.2 : Int)]) h
theorem pairs_dp {K : PySem.W.Frag} {H : Hp} : ∀ ys : List V, (∀ v, v ∈ ys → ∃ z, PairAt H v z) → ∃ zs : List (Nat × Nat), DpAll K H ys (zs.map pairD) ∧ ∀ v z, v ∈ ys → PairAt H v z → z ∈ zs
  | [], _ => ⟨[], .nil, fun v z h => by cases h⟩
  | y :: ys, h => by
    obtain ⟨zs, h1, h2⟩ := pairs_dp (K := K) ys fun v hv => h v (List.mem_cons_of_mem _ hv)
    obtain ⟨z, hz⟩ := h y List.mem_cons_self
    refine ⟨z :: zs, .cons hz.dp h1, fun v z' hv hz' => ?_⟩
    rcases List.mem_cons.mp hv with e | hv
    · subst e
      rw [hz.uniq hz']
      exact List.mem_cons_self
    · exact List.mem_cons_of_mem _ (h2 v z' hv hz')
theorem pairs_any {zs : List (Nat × Nat)} {z : Nat × Nat} (h : z ∈ zs) : ((zs.map pairD).any fun y => PyData.eqv y (pairD z)) = true := by
  rw [List.any_eq_true]
  exact ⟨pairD z, List.mem_map.mpr ⟨z, h, rfl⟩, SeqAt.eqv_refl _ (SeqAt.canLay_of_shaped (pairD_sh z))⟩
section
variable {P : Program} {w : World} {K : PySem.W.Frag} {mg : Str → Option Value} {base : Heap} {C : Addr}
/-! ### the law -/
def spLaw (K : PySem.W.Frag) : Sp := fun vs H Q _ => ∃ (a : Addr) (ns : List Int), vs = [.ref a] ∧ SqL K H a (ns.map V.int) ∧ ns.length ≤ 63 ∧ ∀ H', Q (.bl true) H'
theorem ok_law {f : Addr} {fd : FuncData} (F : Fun K "law" "law" sLaw f fd) (T : Txt K mg C) : FnOk P w K mg base CX0 7 f fd ["_law_script"] (spLaw K) := by
  obtain ⟨f1, fd1, m1, F1, b1⟩ := T.hDice
  have G1 : FnOk P w K mg base CX0 1 f1 fd1 ["_law_script"] (spDice K) := ok_dice F1 T
  obtain ⟨f2, fd2, m2, F2, b2⟩ := T.hMany
  have G2 : FnOk P w K mg base CX0 2 f2 fd2 ["_law_dice_here", "_law_most"] spMany := ok_many F2 T
  obtain ⟨f3, fd3, m3, F3, b3⟩ := T.hDrawn
  have G3 : FnOk P w K mg base CX0 2 f3 fd3 ["_law_dice_here", "_law_words"] spDrawn := ok_drawn F3 T
  obtain ⟨f4, fd4, m4, F4, b4⟩ := T.hLOver
  have G4 : FnOk P w K mg base CX0 2 f4 fd4 ["_law_shape_here", "_law_one", "_law_other"] spOver := ok_over F4 T
  obtain ⟨f5, fd5, m5, F5, b5⟩ := T.hRegs
  have G5 : FnOk P w K mg base CX0 6 f5 fd5 ["shape"] spSteps := ok_regs F5 T
  obtain ⟨f6, fd6, m6, F6, b6⟩ := T.hDraw
  have G6 : FnOk P w K mg base CX0 1 f6 fd6 ["_law_dice_here", "_law_sides"] spDraw := ok_draw F6 T
  obtain ⟨f7, fd7, m7, F7, b7⟩ := T.hReg
  have G7 : FnOk P w K mg base CX0 6 f7 fd7 ["shape", "one", "other"] spRegBy := ok_reg F7 T
  obtain ⟨f8, fd8, m8, F8, b8⟩ := T.hLDue
  have G8 : FnOk P w K mg base CX0 2 f8 fd8 ["_law_shape_here", "_law_one", "_law_other"] spDue := ok_due F8 T
  obtain ⟨f9, fd9, m9, F9, b9⟩ := T.hLShape
  have G9 : FnOk P w K mg base CX0 2 f9 fd9 ["_law_thing"] spLShape := ok_lShape F9 T
  obtain ⟨f0, fd0, m0, F0, b0⟩ := T.hLStay
  have G0 : FnOk P w K mg base CX0 4 f0 fd0 ["_law_shape_here", "_law_there", "_law_one", "_law_other"] spLStay := ok_lStay F0 T
  refine F.ok scLaw (fun vs H Q E h => ?_) (fun cdv A outer s H vs Q E hr h => ?_)
  · obtain ⟨a, ns, rfl, _⟩ := h
    rfl
  · obtain ⟨a, ns, rfl, hS, hlen, k⟩ := h
    have hr1 : Room 1 _ := hr.mono (by decide)
    have hr2 : Room 2 _ := hr.mono (by decide)
    have hr4 : Room 4 _ := hr.mono (by decide)
    have hu65 : (A.deeper (PyProof.Rows.envOfC "law" (defScope sLaw) s.heap.objs.size f cdv)).units + 65 < cLine := by
      have := hr.un
      omega
    refine ⟨_, pss_cons (ps_set (i := 1) scLaw.nd rfl (Or.inl rfl) (pe_call G1 hr1 rfl m1 F1.kp b1 .nil pass0 (pa_cons (pv 0) pa_nil)))
      (pss_cons (ps_set (i := 2) scLaw.nd rfl (Or.inr rfl) (pe_call G3 hr2 rfl m3 F3.kp b3 .nil pass0 (pa_cons (pv 1) (pa_cons (pe_op op_add pe_int (pe_op op_modN (pe_callTy call_int1 (by rfl) T.m_int (by decide +kernel)
          (pa_cons (pe_call G2 hr2 rfl m2 F2.kp b2 .nil pass0 (pa_cons (pv 1) (pa_cons pe_int pa_nil))) pa_nil)) pe_int)) pa_nil))))
      (pss_cons (ps_set (i := 3) scLaw.nd rfl (Or.inl rfl) (pe_lst pa_nil))
      (pss_cons (ps_for PassesOwn.never rfl (pi_range1 (by rfl) T.m_range (pa_cons (pe_callB call_len_seq (by rfl) T.m_len PySem.boot_len (pa_cons (pv 2) pa_nil)) pa_nil)) (pg_name (i := 4) scLaw.nd rfl (Or.inr rfl))
        (pss_one (ps_expr (pe_bm PySem.F.plainAttrs_list PySem.F.slot_list_extend PySem.F.type_list_extend mt_extend (pv 3) (pa_cons (pe_lc (own := [("_law_other", 5)]) (g := gName 5) (by rfl) scLaw.nd
            (pi_range1 (by rfl) T.m_range (pa_cons (pe_callB call_len_seq (by rfl) T.m_len PySem.boot_len (pa_cons (pv 2) pa_nil)) pa_nil))
            (blkOk_by (own := [("_law_other", 5)]) (N := ["_law_script", "_law_dice_here", "_law_shape_here", "_law_pairs", "_law_one", "_law_other", "_law_there"]) (sc := defScope sLaw) (by decide +kernel))
            (fun _ _ _ _ _ => pg_name (i := 5) scLaw.nd rfl (Or.inl rfl))
            (fun _ _ _ _ _ => pts_one (PW.pt (pw_and (pt_cmpR op_eq (pe_ix (ix_tupK (K := K) rfl) (pv 2) (pv 5) (fun _ _ => rfl)) (pe_op op_add (pe_ix (ix_tupK (K := K) rfl) (pv 2) (pv 4) (fun _ _ => rfl)) pe_int) (nomark _))
              (pw_and1 (pt_val (pe_call G4 hr2 rfl m4 F4.kp b4 .nil pass0 (pa_cons (pv 2) (pa_cons (pv 4) (pa_cons (pv 5) pa_nil)))))))))
            (fun _ _ _ _ _ => pe_tup (pa_cons (pv 4) (pa_cons (pv 5) pa_nil)))) pa_nil)))))
      (pss_cons (ps_if (pt_cmpR op_eq (pe_callB call_len_seq (by rfl) T.m_len PySem.boot_len (pa_cons (pv 3) pa_nil)) pe_int (nomark _))
          (pss_one (ps_ret (pe_cmpR (op_eqD hr.units) (pe_call G5 hr rfl m5 F5.kp b5 .nil pass0 (pa_cons (pv 2) pa_nil)) (pe_lst pa_nil) (nomark _)))) pss_nil)
      (pss_cons (ps_asg (pe_ix ix_list (pv 3) (pe_call G6 hr1 rfl m6 F6.kp b6 .nil pass0 (pa_cons (pv 1) (pa_cons (pe_callB call_len_seq (by rfl) T.m_len PySem.boot_len (pa_cons (pv 3) pa_nil)) pa_nil))) (fun _ _ => rfl))
          (pg_tup (by rfl) (pgs_cons (pg_name (i := 4) scLaw.nd rfl (Or.inr rfl)) (pgs_cons (pg_name (i := 5) scLaw.nd rfl (Or.inl rfl)) pgs_nil))))
      (pss_cons (ps_set (i := 6) scLaw.nd rfl (Or.inl rfl) (pe_call G7 hr rfl m7 F7.kp b7 .nil pass0 (pa_cons (pv 2) (pa_cons (pv 4) (pa_cons (pv 5) pa_nil)))))
      (pss_cons (ps_if (PW.pt (pw_or (pt_cmpR (op_neD hr.units) (pv 6) (pe_call G8 hr2 rfl m8 F8.kp b8 .nil pass0 (pa_cons (pv 2) (pa_cons (pv 4) (pa_cons (pv 5) pa_nil)))) (nomark _))
          (pw_or1 (pt_not (pt_val (pe_call G9 hr2 rfl m9 F9.kp b9 .nil pass0 (pa_cons (pv 6) pa_nil))))))) (pss_one (ps_ret pe_bl)) pss_nil)
      (pss_cons (ps_if (PW.pt (pw_or (pt_cmpR (op_notInD hu65) (pe_tup (pa_cons (pv 5) (pa_cons (pv 4) pa_nil))) (pe_call G5 hr rfl m5 F5.kp b5 .nil pass0 (pa_cons (pv 6) pa_nil)) (by rfl))
          (pw_or1 (pt_cmpR (op_neD hr.units) (pe_call G7 hr rfl m7 F7.kp b7 .nil pass0 (pa_cons (pv 6) (pa_cons (pv 5) (pa_cons (pv 4) pa_nil)))) (pv 2) (nomark _))))) (pss_one (ps_ret pe_bl)) pss_nil)
      (pss_one (ps_ret (pe_and (pe_call G0 hr4 rfl m0 F0.kp b0 .nil pass0 (pa_cons (pv 2) (pa_cons (pv 6) (pa_cons (pv 4) (pa_cons (pv 5) pa_nil)))))
          (pe_one (pe_cmpR (op_eqD hr.units) (pe_call G7 hr rfl m7 F7.kp b7 .nil pass0 (pa_cons (pv 2) (pa_cons (pv 4) (pa_cons (pv 5) pa_nil)))) (pv 6) (nomark _))))))))))))))
      , ?_⟩
    -- dice
    refine ⟨_, rfl, a, ns, rfl, hS, hlen, fun cs d l H1 D1 s1 _ => ?_⟩
    -- shape
    refine ⟨_, rfl, _, rfl, cs, d, l, 8, rfl, D1, by decide, by decide, fun v H2 D2 fr2 v1 v40 => .inl ⟨_, rfl, _, _, rfl, rfl, (by show (40 : Int) ≠ 0; decide), _, _, rfl, rfl, ?_⟩⟩
    have hv := fm v (j := 40) (by decide)
    obtain ⟨n, en⟩ : ∃ n : Nat, v.fmod 40 = (n : Int) := ⟨(v.fmod 40).toNat, by omega⟩
    have ev : ([V.ref d, V.int (1 + v.fmod 40)] : List V) = [V.ref d, V.int ((n : Int) + 1)] := by
      rw [en, Int.add_comm]
    refine ⟨cs, d, l, n, ev, D2, by omega, fun x t H3 hsh D3 fr3 ht _ => ?_⟩
    have hn : n ≤ 39 := by omega
    have el : (dps x 0 n).length = n := by rw [dps_len]; omega
    -- pairs
    refine ⟨Nat.zero_le _, fun pl npl => ?_⟩
    have s4 := same_new (o := .lst []) npl
    have hpl := @upd_same H3 pl (.lst [])
    generalize upd H3 pl (.lst []) = H4 at s4 hpl
    refine ⟨_, rfl, t, _, rfl, .inr (SqT.of (s4 _ _ ht)), _, rfl, by rw [el]; omega, by rw [el]; omega, for_range (lo := 0) (fun i σ H' => ∃ (ys : List V) (v4 : Option V), σ = [some (.ref a), some (.ref d), some (.ref t), some (.ref pl), v4, none, none] ∧ Same H3 H' ∧
      H' pl = some (.lst ys) ∧ ys.length ≤ i * 40 ∧ (∀ v, v ∈ ys → ∃ z, PairAt H' v z ∧ Par x n z.1 z.2) ∧ (∀ p j, p < i → Par x n p j → ys ≠ [])) ?_ ?_ ?_⟩
    · refine ⟨[], none, rfl, s4, hpl, Nat.zero_le _, ?_, fun p j h => by omega⟩
      intro v hv
      cases hv
    · rintro i σ H5 hi ⟨ys, v4, rfl, s5, hpl5, hys, hm, hc⟩
      rw [el, Int.toNat_natCast] at hi
      rw [Int.zero_add]
      have ht5 := s5 _ _ ht
      refine ⟨_, rfl, .inl ⟨rfl, _, SqL.of hpl5⟩, _, rfl, t, _, rfl, .inr (SqT.of ht5), _, rfl, by rw [el]; omega, by rw [el]; omega, fun D hD => ?_⟩
      refine lc_range (lo := 0) (fun j H' => ∃ zs : List V, Same H5 H' ∧ H' D = some (.lst zs) ∧ zs.length ≤ j ∧ (∀ v, v ∈ zs → ∃ z, PairAt H' v z ∧ Par x n z.1 z.2) ∧ (∀ j', j' < j → Par x n i j' → zs ≠ [])) ?_ ?_ ?_
      · refine ⟨[], same_new hD, upd_same, Nat.zero_le _, ?_, fun j' h => by omega⟩
        intro v hv
        cases hv
      · rintro j H6 hj ⟨zs, s6, hD6, hzs, hm6, hc6⟩
        rw [el, Int.toNat_natCast] at hj
        rw [Int.zero_add]
        have ht6 := s6 _ _ ht5
        refine ⟨rfl, ?_⟩
        refine ⟨_, rfl, _, rfl, t, _, _, _, rfl, rfl, SqT.of ht6, dps_at rfl hj, _, rfl, _, rfl, t, _, _, _, rfl, rfl, SqT.of ht6, dps_at rfl hi, _, _, rfl, rfl, rfl, _, rfl, ?_⟩
        show if decide (V.int (x j) = V.int (x i + 1)) = true then _ else _
        rw [v_eq]
        by_cases hd : x j = x i + 1
        · rw [decide_eq_true hd]
          refine iteT ?_
          refine ⟨_, rfl, _, rfl, _, rfl, x, n, i, j, t, rfl, ht6, hi, by omega, fun fo lo H7 S s7 => ⟨_, rfl, ?_⟩⟩
          refine ite2 (fun ho => ?_) (fun ho => ?_)
          · have ho := of_decide_eq_true ho
            have hP : Par x n i j := (par_iff S).mpr ⟨hd, ho.2⟩
            refine ⟨_, rfl, _, rfl, (by show 2 ≤ sizeLine; decide), fun u nu => ?_⟩
            have s8 := same_new (o := .tup [V.int (i : Int), V.int (j : Int)]) nu
            have hu := @upd_same H7 u (.tup [V.int (i : Int), V.int (j : Int)])
            generalize upd H7 u (.tup [V.int (i : Int), V.int (j : Int)]) = H8 at s8 hu
            have s68 := s7.trans s8
            have hD8 := s68 _ _ hD6
            have tkD : TK H8 (upd H8 D (.lst (zs ++ [V.ref u]))) := TK.wr hD8
            refine ⟨zs, hD8, small1000 (by omega), zs ++ [V.ref u], same_upd (s6.trans s68) hD, upd_same, by rw [List.length_append]; show _ + 1 ≤ _; omega, fun v hv => ?_, fun j' hj' hP' => by simp⟩
            rcases List.mem_append.mp hv with hv | hv
            · obtain ⟨z, z1, z2⟩ := hm6 v hv
              exact ⟨z, (z1.keep (TK.of s68)).keep tkD, z2⟩
            · rw [List.mem_singleton] at hv
              subst hv
              exact ⟨(i, j), ⟨u, rfl, tkD _ _ hu⟩, hP⟩
          · have ho : ¬ (i ≠ j ∧ fo ≤ j ∧ j < lo) := fun z => ho (decide_eq_true z)
            refine ⟨zs, s6.trans s7, s7 _ _ hD6, by omega, fun v hv => ?_, fun j' hj' hP' => ?_⟩
            · obtain ⟨z, z1, z2⟩ := hm6 v hv
              exact ⟨z, z1.keep (TK.of s7), z2⟩
            · by_cases e : j' = j
              · subst e
                exact absurd ⟨hP'.lt.2.2, hP'.span S⟩ ho
              · exact hc6 j' (by omega) hP'
        · rw [decide_eq_false hd]
          refine iteF (iteF ?_)
          refine ⟨zs, s6, hD6, by omega, hm6, fun j' hj' hP' => ?_⟩
          by_cases e : j' = j
          · subst e
            exact absurd hP'.1 hd
          · exact hc6 j' (by omega) hP'
      · rintro H6 ⟨zs, s6, hD6, hzs, hm6, hc6⟩
        rw [el, Int.toNat_natCast] at hzs hc6
        have hpl6 := s6 _ _ hpl5
        have nDp : pl ≠ D := ne_of_none hpl5 hD
        refine ⟨pl, D, _, _, rfl, rfl, hpl6, hD6, Nat.le_trans (by omega : _ ≤ 10000) (by decide), ?_⟩
        have tkp : TK H6 (upd H6 pl (.lst (ys ++ zs))) := TK.wr hpl6
        refine ⟨ys ++ zs, _, rfl, same_upd (s5.trans s6) npl, upd_same, by rw [List.length_append]; omega, fun v hv => ?_, fun p j hp hP => ?_⟩
        · rcases List.mem_append.mp hv with hv | hv
          · obtain ⟨z, z1, z2⟩ := hm v hv
            exact ⟨z, (z1.keep (TK.of s6)).keep tkp, z2⟩
          · obtain ⟨z, z1, z2⟩ := hm6 v hv
            exact ⟨z, z1.keep tkp, z2⟩
        · intro e
          obtain ⟨e1, e2⟩ := List.append_eq_nil_iff.mp e
          by_cases q : p = i
          · subst q
            exact hc6 j hP.lt.2.1 hP e2
          · exact hc p j (by omega) hP e1
    · rintro σ H5 ⟨ys, v4, rfl, s5, hpl5, hys, hm, hc⟩
      rw [el, Int.toNat_natCast] at hys hc
      have ht5 := s5 _ _ ht
      -- len(pairs) == 0
      refine ⟨_, rfl, pl, _, rfl, .inl (SqL.of hpl5), rfl, _, rfl, ?_⟩
      rw [v_eq]
      refine ite2 (fun h0 => ?_) (fun h0 => ?_)
      · have h0 := of_decide_eq_true h0
        have hy0 : ys = [] := List.eq_nil_of_length_eq_zero (by omega)
        refine ⟨_, rfl, x, n, t, rfl, ht5, hn, hsh, fun ys' r H6 s6 hr6 hy6 => ?_⟩
        have e' : ys' = [] := by
          cases ys' with
          | nil => rfl
          | cons v r =>
            exfalso
            obtain ⟨z, _, hP⟩ := hy6.1 v List.mem_cons_self
            exact hc z.1 z.2 hP.lt.1 hP hy0
        subst e'
        refine ⟨Nat.zero_le _, fun q nq => ?_⟩
        have s7 := same_new (o := .lst []) nq
        have h7 := @upd_same H6 q (.lst [])
        generalize upd H6 q (.lst []) = H7 at s7 h7
        refine ⟨_, _, dpl_nums (ns := []) (s7 _ _ hr6), dpl_nums (ns := []) h7, shl_nums _, shl_nums _, ?_⟩
        rw [eqvl_nums]
        exact k _
      · have h0 : ¬ ((ys.length : Int) = 0) := fun z => h0 (decide_eq_true z)
        -- one, other
        have D5 : Dc cs d l H5 := D3.keep fun b o e _ => s5 b o e
        refine ⟨_, rfl, _, rfl, _, rfl, pl, _, rfl, .inl (SqL.of hpl5), cs, d, l, (ys.length : Int), rfl, D5, by omega, by omega, fun pk H6 D6 fr6 pk0 pk1 => ?_⟩
        obtain ⟨kn, rfl⟩ : ∃ kn : Nat, pk = (kn : Int) := ⟨pk.toNat, by omega⟩
        have npd : pl ≠ d := fun e => by
          obtain ⟨zs, hz⟩ := D3.lst
          rw [e, hz] at npl; cases npl
        have hkn : kn < ys.length := by omega
        obtain ⟨xd, hxd⟩ := D5.lst
        obtain ⟨⟨one, other⟩, zp, hP⟩ := hm ys[kn] (List.getElem_mem hkn)
        obtain ⟨u, eu, hu⟩ := zp.keep (TK.fr fr6 hxd)
        refine ⟨pl, _, _, _, rfl, rfl, SqL.of (fr6 _ _ hpl5 npd), at_of (j := kn) rfl (by rw [List.getElem?_eq_getElem hkn]), ?_⟩
        have ht6 : H6 t = some (ti x n) := TK.fr fr6 hxd _ _ ht5
        refine ⟨u, _, eu, SqT.of hu, rfl, _, _, rfl, _, _, rfl, rfl, ?_⟩
        have hP : Par x n one other := hP
        have hlt := hP.lt
        obtain ⟨fo, lo, hS1, _⟩ := hsh.span hlt.1
        have hL := led hsh hP hS1
        -- there
        refine ⟨_, rfl, _, rfl, _, rfl, x, n, one, other, t, rfl, ht6, hn, hsh, hP, fun f' l' r H7 S7 s7 h7 => ?_⟩
        obtain ⟨e1, e2⟩ := hS1.uniq S7
        subst e1; subst e2
        -- there != due(..)
        refine ⟨_, rfl, _, rfl, _, rfl, _, rfl, x, n, one, other, t, rfl, s7 _ _ ht6, by omega, hP, fun f' l' r2 H8 S8 s8 h8 => ?_⟩
        obtain ⟨e1, e2⟩ := hS1.uniq S8
        subst e1; subst e2
        refine ⟨_, _, dpt_nums (s8 _ _ h7), dpt_nums h8, sht_nums _, sht_nums _, _, rfl, ?_⟩
        rw [eqv_nums]
        refine iteF ?_
        refine ⟨_, rfl, rg x one other fo lo, n, r, rfl, s8 _ _ h7, hn, hL.sh, fun H9 s9 => ⟨true, rfl, ?_⟩⟩
        refine iteF ?_
        have hr9 := s9 _ _ (s8 _ _ h7)
        have ht9 := s9 _ _ (s8 _ _ (s7 _ _ ht6))
        -- (other, one) not in regroupings(there)
        refine ⟨_, rfl, _, rfl, (by show 2 ≤ sizeLine; decide), fun q nq => ?_⟩
        have s10 := same_new (o := .tup [V.int (other : Int), V.int (one : Int)]) nq
        have h10 := @upd_same H9 q (.tup [V.int (other : Int), V.int (one : Int)])
        generalize upd H9 q (.tup [V.int (other : Int), V.int (one : Int)]) = H10 at s10 h10
        refine ⟨_, rfl, rg x one other fo lo, n, r, rfl, s10 _ _ hr9, hn, hL.sh, fun ys' r3 H11 s11 hr11 hy11 => ?_⟩
        obtain ⟨zs, hz1, hz2⟩ := pairs_dp (K := K) ys' fun v hv => by
          obtain ⟨z, z1, _⟩ := hy11.1 v hv
          exact ⟨z, z1⟩
        obtain ⟨v, hv, hvp⟩ := hy11.2 other one hL.par
        have hin := hz2 v (other, one) hv hvp
        have hq11 : PairAt H11 (V.ref q) (other, one) := ⟨q, rfl, s11 _ _ h10⟩
        refine ⟨_, _, hq11.dp, .lst (SqL.of hr11) hz1, pairD_sh _, pairDs_sh _, _, rfl, ?_⟩
        rw [pairs_any hin]
        refine iteF ?_
        -- regrouped(there, other, one) != shape
        refine ⟨_, rfl, _, rfl, _, rfl, rg x one other fo lo, n, other, one, r, rfl, s11 _ _ (s10 _ _ hr9), hn, hL.sh, hL.par, fun f' l' r4 H12 S12 s12 h12 => ?_⟩
        obtain ⟨e1, e2⟩ := hL.span.uniq S12
        subst e1; subst e2
        have h12' : H12 r4 = some (ti x n) := by
          rw [h12]
          exact congrArg (fun q => some (HO.tup q)) (dps_congr fun j _ => hL.back j)
        have ht12 := s12 _ _ (s11 _ _ (s10 _ _ ht9))
        have hr12 := s12 _ _ (s11 _ _ (s10 _ _ hr9))
        refine ⟨_, rfl, _, _, dpt_nums h12', dpt_nums ht12, sht_nums _, sht_nums _, _, rfl, ?_⟩
        rw [eqv_nums]
        refine iteF ?_
        -- the others stay
        refine ⟨_, rfl, _, rfl, _, rfl, _, rfl, x, rg x one other fo lo, n, one, other, fo, lo, t, r, rfl, ht12, hr12, by omega, hsh, hP, hS1, hL, fun H13 s13 => ⟨true, rfl, iteT ?_⟩⟩
        refine ⟨_, rfl, _, rfl, _, rfl, x, n, one, other, t, rfl, s13 _ _ ht12, hn, hsh, hP, fun f' l' r5 H14 S14 s14 h14 => ?_⟩
        obtain ⟨e1, e2⟩ := hS1.uniq S14
        subst e1; subst e2
        refine ⟨_, rfl, _, _, dpt_nums h14, dpt_nums (s14 _ _ (s13 _ _ hr12)), sht_nums _, sht_nums _, ?_⟩
        rw [eqv_nums]
        exact k _
end
end Hs
namespace Hs
open PySem L2
/-! ### what the top has left -/
theorem has_mk {K : PySem.W.Frag} {h : Heap} {mg : Str → Option Value} {x qual : Str} {st : Stmt} {ps : List Str} {f : Addr} {oc kV dc pm cd ct : Value} {od an : Option Addr} {sl : Array (Option Value)} (X : K.In h) (G : h.Ns mainGlobals mg)
    (a : PySem.W.nsIn K mainGlobals x = some (some (.ref f)))
    (lk : K.lookup f = some ⟨oc, od, .func (PySem.W.fnOf x qual (defArgs st) (defBody st) (defScope st) .none kV dc pm an cd ct), sl⟩)
    (c : PySem.W.codeIn K cd qual = true) (k : PySem.W.keepIn K (.ref f) = true)
    (b : ∀ (kV doc pm : Value) (an : Option Addr) (cdv ct : Value) (us : List Value), us.length = ps.length → bindArgs (PySem.W.fnOf x qual (defArgs st) (defBody st) (defScope st) .none kV doc pm an cdv ct) ⟨us, []⟩ = pure (ps.zip us)) : Has K mg x qual st ps :=
  ⟨f, _, PySem.W.mg_of X G a, fun_mk lk c k, (fun_mk lk c k).binds b⟩
theorem all_mk {l : PySem.W.OpenLaw} {w : World} {K : PySem.W.Frag} {h : Heap} {mg : Str → Option Value} {fa C f1 f2 f3 f4 f5 f6 f7 f8 f9 f10 f11 f12 f13 f14 f15 f16 f17 f18 f19 f20 f21 f22 f23 fI fW : Addr} {tM : Tok} (X : K.In h) (G : h.Ns mainGlobals mg) (hfa : mg "law" = some (.ref fa))
    {od1 od2 od3 od4 od5 od6 od7 od8 od9 od10 od11 od12 od13 od14 od15 od16 od17 od18 od19 od20 od21 od22 od23 odI odW an1 an2 an3 an4 an5 an6 an7 an8 an9 an10 an11 an12 an13 an14 an15 an16 an17 an18 an19 an20 an21 an22 an23 anI anW : Option Addr} {sl1 sl2 sl3 sl4 sl5 sl6 sl7 sl8 sl9 sl10 sl11 sl12 sl13 sl14 sl15 sl16 sl17 sl18 sl19 sl20 sl21 sl22 sl23 slI slW : Array (Option Value)} {oc1 oc2 oc3 oc4 oc5 oc6 oc7 oc8 oc9 oc10 oc11 oc12 oc13 oc14 oc15 oc16 oc17 oc18 oc19 oc20 oc21 oc22 oc23 ocI ocW kV1 kV2 kV3 kV4 kV5 kV6 kV7 kV8 kV9 kV10 kV11 kV12 kV13 kV14 kV15 kV16 kV17 kV18 kV19 kV20 kV21 kV22 kV23 kVI kVW dc1 dc2 dc3 dc4 dc5 dc6 dc7 dc8 dc9 dc10 dc11 dc12 dc13 dc14 dc15 dc16 dc17 dc18 dc19 dc20 dc21 dc22 dc23 dcI dcW pm1 pm2 pm3 pm4 pm5 pm6 pm7 pm8 pm9 pm10 pm11 pm12 pm13 pm14 pm15 pm16 pm17 pm18 pm19 pm20 pm21 pm22 pm23 pmI pmW cd1 cd2 cd3 cd4 cd5 cd6 cd7 cd8 cd9 cd10 cd11 cd12 cd13 cd14 cd15 cd16 cd17 cd18 cd19 cd20 cd21 cd22 cd23 cdI cdW ct1 ct2 ct3 ct4 ct5 ct6 ct7 ct8 ct9 ct10 ct11 ct12 ct13 ct14 ct15 ct16 ct17 ct18 ct19 ct20 ct21 ct22 ct23 ctI ctW : Value}
    (a1 : PySem.W.nsIn K mainGlobals "is_integer" = some (some (.ref f1)))
    (l1 : K.lookup f1 = some ⟨oc1, od1, .func (PySem.W.fnOf "is_integer" "is_integer" (defArgs sIsInt) (defBody sIsInt) (defScope sIsInt) .none kV1 dc1 pm1 an1 cd1 ct1), sl1⟩) (c1 : PySem.W.codeIn K cd1 "is_integer" = true) (k1 : PySem.W.keepIn K (.ref f1) = true)
    (a2 : PySem.W.nsIn K mainGlobals "is_between" = some (some (.ref f2)))
    (l2 : K.lookup f2 = some ⟨oc2, od2, .func (PySem.W.fnOf "is_between" "is_between" (defArgs sBetween) (defBody sBetween) (defScope sBetween) .none kV2 dc2 pm2 an2 cd2 ct2), sl2⟩) (c2 : PySem.W.codeIn K cd2 "is_between" = true) (k2 : PySem.W.keepIn K (.ref f2) = true)
    (a3 : PySem.W.nsIn K mainGlobals "is_index" = some (some (.ref f3)))
    (l3 : K.lookup f3 = some ⟨oc3, od3, .func (PySem.W.fnOf "is_index" "is_index" (defArgs sIndex) (defBody sIndex) (defScope sIndex) .none kV3 dc3 pm3 an3 cd3 ct3), sl3⟩) (c3 : PySem.W.codeIn K cd3 "is_index" = true) (k3 : PySem.W.keepIn K (.ref f3) = true)
    (a4 : PySem.W.nsIn K mainGlobals "is_fair" = some (some (.ref f4)))
    (l4 : K.lookup f4 = some ⟨oc4, od4, .func (PySem.W.fnOf "is_fair" "is_fair" (defArgs sFair) (defBody sFair) (defScope sFair) .none kV4 dc4 pm4 an4 cd4 ct4), sl4⟩) (c4 : PySem.W.codeIn K cd4 "is_fair" = true) (k4 : PySem.W.keepIn K (.ref f4) = true)
    (a5 : PySem.W.nsIn K mainGlobals "is_shape" = some (some (.ref f5)))
    (l5 : K.lookup f5 = some ⟨oc5, od5, .func (PySem.W.fnOf "is_shape" "is_shape" (defArgs sIsShape) (defBody sIsShape) (defScope sIsShape) .none kV5 dc5 pm5 an5 cd5 ct5), sl5⟩) (c5 : PySem.W.codeIn K cd5 "is_shape" = true) (k5 : PySem.W.keepIn K (.ref f5) = true)
    (a6 : PySem.W.nsIn K mainGlobals "check_shape" = some (some (.ref f6)))
    (l6 : K.lookup f6 = some ⟨oc6, od6, .func (PySem.W.fnOf "check_shape" "check_shape" (defArgs sCheck) (defBody sCheck) (defScope sCheck) .none kV6 dc6 pm6 an6 cd6 ct6), sl6⟩) (c6 : PySem.W.codeIn K cd6 "check_shape" = true) (k6 : PySem.W.keepIn K (.ref f6) = true)
    (a7 : PySem.W.nsIn K mainGlobals "steps_of" = some (some (.ref f7)))
    (l7 : K.lookup f7 = some ⟨oc7, od7, .func (PySem.W.fnOf "steps_of" "steps_of" (defArgs sSteps) (defBody sSteps) (defScope sSteps) .none kV7 dc7 pm7 an7 cd7 ct7), sl7⟩) (c7 : PySem.W.codeIn K cd7 "steps_of" = true) (k7 : PySem.W.keepIn K (.ref f7) = true)
    (a8 : PySem.W.nsIn K mainGlobals "regroupings" = some (some (.ref f8)))
    (l8 : K.lookup f8 = some ⟨oc8, od8, .func (PySem.W.fnOf "regroupings" "regroupings" (defArgs sRegs) (defBody sRegs) (defScope sRegs) .none kV8 dc8 pm8 an8 cd8 ct8), sl8⟩) (c8 : PySem.W.codeIn K cd8 "regroupings" = true) (k8 : PySem.W.keepIn K (.ref f8) = true)
    (a9 : PySem.W.nsIn K mainGlobals "regrouped_by" = some (some (.ref f9)))
    (l9 : K.lookup f9 = some ⟨oc9, od9, .func (PySem.W.fnOf "regrouped_by" "regrouped_by" (defArgs sRegBy) (defBody sRegBy) (defScope sRegBy) .none kV9 dc9 pm9 an9 cd9 ct9), sl9⟩) (c9 : PySem.W.codeIn K cd9 "regrouped_by" = true) (k9 : PySem.W.keepIn K (.ref f9) = true)
    (a10 : PySem.W.nsIn K mainGlobals "is_step" = some (some (.ref f10)))
    (l10 : K.lookup f10 = some ⟨oc10, od10, .func (PySem.W.fnOf "is_step" "is_step" (defArgs sIsStep) (defBody sIsStep) (defScope sIsStep) .none kV10 dc10 pm10 an10 cd10 ct10), sl10⟩) (c10 : PySem.W.codeIn K cd10 "is_step" = true) (k10 : PySem.W.keepIn K (.ref f10) = true)
    (a11 : PySem.W.nsIn K mainGlobals "regrouped" = some (some (.ref f11)))
    (l11 : K.lookup f11 = some ⟨oc11, od11, .func (PySem.W.fnOf "regrouped" "regrouped" (defArgs sReg) (defBody sReg) (defScope sReg) .none kV11 dc11 pm11 an11 cd11 ct11), sl11⟩) (c11 : PySem.W.codeIn K cd11 "regrouped" = true) (k11 : PySem.W.keepIn K (.ref f11) = true)
    (a12 : PySem.W.nsIn K mainGlobals "_law_dice" = some (some (.ref f12)))
    (l12 : K.lookup f12 = some ⟨oc12, od12, .func (PySem.W.fnOf "_law_dice" "_law_dice" (defArgs sDice) (defBody sDice) (defScope sDice) .none kV12 dc12 pm12 an12 cd12 ct12), sl12⟩) (c12 : PySem.W.codeIn K cd12 "_law_dice" = true) (k12 : PySem.W.keepIn K (.ref f12) = true)
    (a13 : PySem.W.nsIn K mainGlobals "_law_draw" = some (some (.ref f13)))
    (l13 : K.lookup f13 = some ⟨oc13, od13, .func (PySem.W.fnOf "_law_draw" "_law_draw" (defArgs sDraw) (defBody sDraw) (defScope sDraw) .none kV13 dc13 pm13 an13 cd13 ct13), sl13⟩) (c13 : PySem.W.codeIn K cd13 "_law_draw" = true) (k13 : PySem.W.keepIn K (.ref f13) = true)
    (a14 : PySem.W.nsIn K mainGlobals "_law_shape" = some (some (.ref f14)))
    (l14 : K.lookup f14 = some ⟨oc14, od14, .func (PySem.W.fnOf "_law_shape" "_law_shape" (defArgs sDrawn) (defBody sDrawn) (defScope sDrawn) .none kV14 dc14 pm14 an14 cd14 ct14), sl14⟩) (c14 : PySem.W.codeIn K cd14 "_law_shape" = true) (k14 : PySem.W.keepIn K (.ref f14) = true)
    (a15 : PySem.W.nsIn K mainGlobals "_law_many" = some (some (.ref f15)))
    (l15 : K.lookup f15 = some ⟨oc15, od15, .func (PySem.W.fnOf "_law_many" "_law_many" (defArgs sMany) (defBody sMany) (defScope sMany) .none kV15 dc15 pm15 an15 cd15 ct15), sl15⟩) (c15 : PySem.W.codeIn K cd15 "_law_many" = true) (k15 : PySem.W.keepIn K (.ref f15) = true)
    (a16 : PySem.W.nsIn K mainGlobals "_law_is_integer" = some (some (.ref f16)))
    (l16 : K.lookup f16 = some ⟨oc16, od16, .func (PySem.W.fnOf "_law_is_integer" "_law_is_integer" (defArgs sLInt) (defBody sLInt) (defScope sLInt) .none kV16 dc16 pm16 an16 cd16 ct16), sl16⟩) (c16 : PySem.W.codeIn K cd16 "_law_is_integer" = true) (k16 : PySem.W.keepIn K (.ref f16) = true)
    (a17 : PySem.W.nsIn K mainGlobals "_law_is_shape" = some (some (.ref f17)))
    (l17 : K.lookup f17 = some ⟨oc17, od17, .func (PySem.W.fnOf "_law_is_shape" "_law_is_shape" (defArgs sLShape) (defBody sLShape) (defScope sLShape) .none kV17 dc17 pm17 an17 cd17 ct17), sl17⟩) (c17 : PySem.W.codeIn K cd17 "_law_is_shape" = true) (k17 : PySem.W.keepIn K (.ref f17) = true)
    (a18 : PySem.W.nsIn K mainGlobals "_law_span" = some (some (.ref f18)))
    (l18 : K.lookup f18 = some ⟨oc18, od18, .func (PySem.W.fnOf "_law_span" "_law_span" (defArgs sLSpan) (defBody sLSpan) (defScope sLSpan) .none kV18 dc18 pm18 an18 cd18 ct18), sl18⟩) (c18 : PySem.W.codeIn K cd18 "_law_span" = true) (k18 : PySem.W.keepIn K (.ref f18) = true)
    (a19 : PySem.W.nsIn K mainGlobals "_law_is_over" = some (some (.ref f19)))
    (l19 : K.lookup f19 = some ⟨oc19, od19, .func (PySem.W.fnOf "_law_is_over" "_law_is_over" (defArgs sLOver) (defBody sLOver) (defScope sLOver) .none kV19 dc19 pm19 an19 cd19 ct19), sl19⟩) (c19 : PySem.W.codeIn K cd19 "_law_is_over" = true) (k19 : PySem.W.keepIn K (.ref f19) = true)
    (a20 : PySem.W.nsIn K mainGlobals "_law_stands" = some (some (.ref f20)))
    (l20 : K.lookup f20 = some ⟨oc20, od20, .func (PySem.W.fnOf "_law_stands" "_law_stands" (defArgs sLStands) (defBody sLStands) (defScope sLStands) .none kV20 dc20 pm20 an20 cd20 ct20), sl20⟩) (c20 : PySem.W.codeIn K cd20 "_law_stands" = true) (k20 : PySem.W.keepIn K (.ref f20) = true)
    (a21 : PySem.W.nsIn K mainGlobals "_law_deeper" = some (some (.ref f21)))
    (l21 : K.lookup f21 = some ⟨oc21, od21, .func (PySem.W.fnOf "_law_deeper" "_law_deeper" (defArgs sLDeeper) (defBody sLDeeper) (defScope sLDeeper) .none kV21 dc21 pm21 an21 cd21 ct21), sl21⟩) (c21 : PySem.W.codeIn K cd21 "_law_deeper" = true) (k21 : PySem.W.keepIn K (.ref f21) = true)
    (a22 : PySem.W.nsIn K mainGlobals "_law_due" = some (some (.ref f22)))
    (l22 : K.lookup f22 = some ⟨oc22, od22, .func (PySem.W.fnOf "_law_due" "_law_due" (defArgs sLDue) (defBody sLDue) (defScope sLDue) .none kV22 dc22 pm22 an22 cd22 ct22), sl22⟩) (c22 : PySem.W.codeIn K cd22 "_law_due" = true) (k22 : PySem.W.keepIn K (.ref f22) = true)
    (a23 : PySem.W.nsIn K mainGlobals "_law_others_stay" = some (some (.ref f23)))
    (l23 : K.lookup f23 = some ⟨oc23, od23, .func (PySem.W.fnOf "_law_others_stay" "_law_others_stay" (defArgs sLStay) (defBody sLStay) (defScope sLStay) .none kV23 dc23 pm23 an23 cd23 ct23), sl23⟩) (c23 : PySem.W.codeIn K cd23 "_law_others_stay" = true) (k23 : PySem.W.keepIn K (.ref f23) = true)
    (aI : PySem.W.findIn K (.ref C) "__init__" = some (some (.ref fI))) (iI : PySem.W.isFn K (.ref fI) = true)
    (lI : K.lookup fI = some ⟨ocI, odI, .func (PySem.W.fnOf "__init__" "Joinings.__init__" (defArgs sInit) (defBody sInit) (defScope sInit) .none kVI dcI pmI anI cdI ctI), slI⟩) (cI : PySem.W.codeIn K cdI "Joinings.__init__" = true) (kI : PySem.W.keepIn K (.ref fI) = true)
    (aW : PySem.W.nsIn K mainGlobals "law" = some (some (.ref fW)))
    (lW : K.lookup fW = some ⟨ocW, odW, .func (PySem.W.fnOf "law" "law" (defArgs sLaw) (defBody sLaw) (defScope sLaw) .none kVW dcW pmW anW cdW ctW), slW⟩) (cW : PySem.W.codeIn K cdW "law" = true) (kW : PySem.W.keepIn K (.ref fW) = true)
    (z_isinstance : PySem.W.nsIn K mainGlobals "isinstance" = some none)
    (z_int : PySem.W.nsIn K mainGlobals "int" = some none)
    (z_bool : PySem.W.nsIn K mainGlobals "bool" = some none)
    (z_len : PySem.W.nsIn K mainGlobals "len" = some none)
    (z_range : PySem.W.nsIn K mainGlobals "range" = some none)
    (z_tuple : PySem.W.nsIn K mainGlobals "tuple" = some none)
    (z_all : PySem.W.nsIn K mainGlobals "all" = some none)
    (z_sorted : PySem.W.nsIn K mainGlobals "sorted" = some none)
    (z_enumerate : PySem.W.nsIn K mainGlobals "enumerate" = some none)
    (z_list : PySem.W.nsIn K mainGlobals "list" = some none)
    (z_min : PySem.W.nsIn K mainGlobals "min" = some none)
    (z_max : PySem.W.nsIn K mainGlobals "max" = some none)
    (z_abs : PySem.W.nsIn K mainGlobals "abs" = some none)
    (n_first : PySem.W.findIn K (.ref C) "first" = some none)
    (n_last : PySem.W.findIn K (.ref C) "last" = some none)
    (n_above : PySem.W.findIn K (.ref C) "above" = some none)
    (n_fair : PySem.W.findIn K (.ref C) "fair" = some none)
    (aM : PySem.W.nsIn K mainGlobals "MOST_WORDS" = some (some (.int 40 tM)))
    (aC : PySem.W.nsIn K mainGlobals "Joinings" = some (some (.ref C)))
    (pg : PySem.W.plainGet K C Str.empty = true) (hd : PySem.W.hasDictIn K C = true) (po : PySem.W.plainOver K C = true) (sa : PySem.W.findIn K (.ref C) "__setattr__" = some (some (.builtin "object.__setattr__"))) (mk : PySem.W.makesIn K C = true) (kc : PySem.W.keepIn K (.ref C) = true) :
    ∃ fd : FuncData, (∀ (s : Shared) (v : Value), BindsTo s fd ⟨[v], []⟩ [("_law_script", v)]) ∧ ∀ base : Heap, K.In base → base.Ns mainGlobals mg → FnOk l.prog w K mg base CX0 7 fa fd ["_law_script"] (spLaw K) := by
  have e := hfa.symm.trans (PySem.W.mg_of X G aW)
  cases e
  have T : Txt K mg C := {
    m_isinstance := PySem.W.mg_none_of X G z_isinstance
    m_int := PySem.W.mg_none_of X G z_int
    m_bool := PySem.W.mg_none_of X G z_bool
    m_len := PySem.W.mg_none_of X G z_len
    m_range := PySem.W.mg_none_of X G z_range
    m_tuple := PySem.W.mg_none_of X G z_tuple
    m_all := PySem.W.mg_none_of X G z_all
    m_sorted := PySem.W.mg_none_of X G z_sorted
    m_enumerate := PySem.W.mg_none_of X G z_enumerate
    m_list := PySem.W.mg_none_of X G z_list
    m_min := PySem.W.mg_none_of X G z_min
    m_max := PySem.W.mg_none_of X G z_max
    m_abs := PySem.W.mg_none_of X G z_abs
    mMost := ⟨tM, PySem.W.mg_of X G aM⟩
    cl := ⟨pg, hd, po, sa⟩
    n_first := n_first
    n_last := n_last
    n_above := n_above
    n_fair := n_fair
    mgC := PySem.W.mg_of X G aC
    init := ⟨fI, _, ⟨mk, aI, iI, kc⟩, fun_mk (st := sInit) lI cI kI, (fun_mk (st := sInit) lI cI kI).binds (ps := ["self", "shape"]) (fun _ _ _ _ _ _ us hl => match us, hl with | [_, _], _ => rfl)⟩
    hIsInt := has_mk (st := sIsInt) X G a1 l1 c1 k1 (fun _ _ _ _ _ _ us hl => match us, hl with | [_], _ => rfl)
    hBetween := has_mk (st := sBetween) X G a2 l2 c2 k2 (fun _ _ _ _ _ _ us hl => match us, hl with | [_, _, _], _ => rfl)
    hIndex := has_mk (st := sIndex) X G a3 l3 c3 k3 (fun _ _ _ _ _ _ us hl => match us, hl with | [_, _], _ => rfl)
    hFair := has_mk (st := sFair) X G a4 l4 c4 k4 (fun _ _ _ _ _ _ us hl => match us, hl with | [_], _ => rfl)
    hIsShape := has_mk (st := sIsShape) X G a5 l5 c5 k5 (fun _ _ _ _ _ _ us hl => match us, hl with | [_], _ => rfl)
    hCheck := has_mk (st := sCheck) X G a6 l6 c6 k6 (fun _ _ _ _ _ _ us hl => match us, hl with | [_], _ => rfl)
    hSteps := has_mk (st := sSteps) X G a7 l7 c7 k7 (fun _ _ _ _ _ _ us hl => match us, hl with | [_], _ => rfl)
    hRegs := has_mk (st := sRegs) X G a8 l8 c8 k8 (fun _ _ _ _ _ _ us hl => match us, hl with | [_], _ => rfl)
    hRegBy := has_mk (st := sRegBy) X G a9 l9 c9 k9 (fun _ _ _ _ _ _ us hl => match us, hl with | [_, _, _], _ => rfl)
    hIsStep := has_mk (st := sIsStep) X G a10 l10 c10 k10 (fun _ _ _ _ _ _ us hl => match us, hl with | [_, _, _], _ => rfl)
    hReg := has_mk (st := sReg) X G a11 l11 c11 k11 (fun _ _ _ _ _ _ us hl => match us, hl with | [_, _, _], _ => rfl)
    hDice := has_mk (st := sDice) X G a12 l12 c12 k12 (fun _ _ _ _ _ _ us hl => match us, hl with | [_], _ => rfl)
    hDraw := has_mk (st := sDraw) X G a13 l13 c13 k13 (fun _ _ _ _ _ _ us hl => match us, hl with | [_, _], _ => rfl)
    hDrawn := has_mk (st := sDrawn) X G a14 l14 c14 k14 (fun _ _ _ _ _ _ us hl => match us, hl with | [_, _], _ => rfl)
    hMany := has_mk (st := sMany) X G a15 l15 c15 k15 (fun _ _ _ _ _ _ us hl => match us, hl with | [_, _], _ => rfl)
    hLInt := has_mk (st := sLInt) X G a16 l16 c16 k16 (fun _ _ _ _ _ _ us hl => match us, hl with | [_], _ => rfl)
    hLShape := has_mk (st := sLShape) X G a17 l17 c17 k17 (fun _ _ _ _ _ _ us hl => match us, hl with | [_], _ => rfl)
    hLSpan := has_mk (st := sLSpan) X G a18 l18 c18 k18 (fun _ _ _ _ _ _ us hl => match us, hl with | [_, _], _ => rfl)
    hLOver := has_mk (st := sLOver) X G a19 l19 c19 k19 (fun _ _ _ _ _ _ us hl => match us, hl with | [_, _, _], _ => rfl)
    hLStands := has_mk (st := sLStands) X G a20 l20 c20 k20 (fun _ _ _ _ _ _ us hl => match us, hl with | [_, _, _], _ => rfl)
    hLDeeper := has_mk (st := sLDeeper) X G a21 l21 c21 k21 (fun _ _ _ _ _ _ us hl => match us, hl with | [_, _], _ => rfl)
    hLDue := has_mk (st := sLDue) X G a22 l22 c22 k22 (fun _ _ _ _ _ _ us hl => match us, hl with | [_, _, _], _ => rfl)
    hLStay := has_mk (st := sLStay) X G a23 l23 c23 k23 (fun _ _ _ _ _ _ us hl => match us, hl with | [_, _, _, _], _ => rfl)
  }
  exact ⟨PySem.W.fnOf "law" "law" (defArgs sLaw) (defBody sLaw) (defScope sLaw) .none kVW dcW pmW anW cdW ctW, fun s v => .of_eq rfl, fun base _ _ => ok_law (fun_mk (st := sLaw) lW cW kW) T⟩
theorem walk {l : PySem.W.OpenLaw} {q : Program} {loose : List Str} {XP : (Str → Option Value) → Heap → Prop} {YP : World → Heap → Prop} {d : DefRec} {K : Params → PySem.W.Frag} (hn : l.most = some 63) (hdf : d.params.defaults = [])
    (hY : ∀ (w : World) (h : Heap), YP w h → (K w.params).In h)
    (F : ∀ (w : World) (mg : Str → Option Value) (fa : Addr) (h : Heap), (K w.params).In h → h.Ns mainGlobals mg → mg d.name = some (.ref fa) →
      ∃ fd : FuncData, (∀ (s : Shared) (u : Value), BindsTo s fd ⟨[u], []⟩ [("_law_script", u)]) ∧ ∀ base : Heap, (K w.params).In base → base.Ns mainGlobals mg → FnOk l.prog w (K w.params) mg base CX0 7 fa fd ["_law_script"] (spLaw (K w.params))) :
    PySem.W.WalkO q loose XP YP l.row.toRowW d [] (fun f vs => PySem.call f vs) :=
  L2.walk_of (n := 63) (k := 7) (x := "_law_script") (CX := fun _ => CX0) (sp := fun w => spLaw (K w.params)) hn (by decide) hdf ⟨rfl, by decide, by decide⟩ hY F (fun _ _ a ns hl _ hS => ⟨a, ns, rfl, hS, hl, fun _ => rfl⟩) fun _ _ _ _ _ z => z
end Hs

open PySem PySem.W PyProof.Rows in
set_option maxRecDepth 100000 in
set_option maxHeartbeats 0 in
theorem PySem.Challenge.cw_heardseams_k10_whole_shapes_regrouped_holds : PySem.Challenge.rw_heardseams_k10_whole_shapes_regrouped.Holds := by
  w_on; o_law; k_head; (case hw => w_witness2)
  k_fill
  refine Hs.walk (l := PySem.Challenge.rw_heardseams_k10_whole_shapes_regrouped) rfl rfl (fun w h Y => PySem.W.kIn_of Y) ?F
  case F =>
    intro w mg fa h KX G hmg
    refine' Hs.all_mk KX G hmg ?a1 ?l1 ?c1 ?k1 ?a2 ?l2 ?c2 ?k2 ?a3 ?l3 ?c3 ?k3 ?a4 ?l4 ?c4 ?k4 ?a5 ?l5 ?c5 ?k5 ?a6 ?l6 ?c6 ?k6 ?a7 ?l7 ?c7 ?k7 ?a8 ?l8 ?c8 ?k8 ?a9 ?l9 ?c9 ?k9 ?a10 ?l10 ?c10 ?k10 ?a11 ?l11 ?c11 ?k11 ?a12 ?l12 ?c12 ?k12 ?a13 ?l13 ?c13 ?k13 ?a14 ?l14 ?c14 ?k14 ?a15 ?l15 ?c15 ?k15 ?a16 ?l16 ?c16 ?k16 ?a17 ?l17 ?c17 ?k17 ?a18 ?l18 ?c18 ?k18 ?a19 ?l19 ?c19 ?k19 ?a20 ?l20 ?c20 ?k20 ?a21 ?l21 ?c21 ?k21 ?a22 ?l22 ?c22 ?k22 ?a23 ?l23 ?c23 ?k23 ?aI ?iI ?lI ?cI ?kI ?aW ?lW ?cW ?kW ?z_isinstance ?z_int ?z_bool ?z_len ?z_range ?z_tuple ?z_all ?z_sorted ?z_enumerate ?z_list ?z_min ?z_max ?z_abs ?n_first ?n_last ?n_above ?n_fair ?aM ?aC ?pg ?hd ?po ?sa ?mk ?kc
    (case aC => k_is)
    (case a1 => k_is)
    (case l1 => k_is)
    (case c1 => k_is)
    (case k1 => k_is)
    (case a2 => k_is)
    (case l2 => k_is)
    (case c2 => k_is)
    (case k2 => k_is)
    (case a3 => k_is)
    (case l3 => k_is)
    (case c3 => k_is)
    (case k3 => k_is)
    (case a4 => k_is)
    (case l4 => k_is)
    (case c4 => k_is)
    (case k4 => k_is)
    (case a5 => k_is)
    (case l5 => k_is)
    (case c5 => k_is)
    (case k5 => k_is)
    (case a6 => k_is)
    (case l6 => k_is)
    (case c6 => k_is)
    (case k6 => k_is)
    (case a7 => k_is)
    (case l7 => k_is)
    (case c7 => k_is)
    (case k7 => k_is)
    (case a8 => k_is)
    (case l8 => k_is)
    (case c8 => k_is)
    (case k8 => k_is)
    (case a9 => k_is)
    (case l9 => k_is)
    (case c9 => k_is)
    (case k9 => k_is)
    (case a10 => k_is)
    (case l10 => k_is)
    (case c10 => k_is)
    (case k10 => k_is)
    (case a11 => k_is)
    (case l11 => k_is)
    (case c11 => k_is)
    (case k11 => k_is)
    (case a12 => k_is)
    (case l12 => k_is)
    (case c12 => k_is)
    (case k12 => k_is)
    (case a13 => k_is)
    (case l13 => k_is)
    (case c13 => k_is)
    (case k13 => k_is)
    (case a14 => k_is)
    (case l14 => k_is)
    (case c14 => k_is)
    (case k14 => k_is)
    (case a15 => k_is)
    (case l15 => k_is)
    (case c15 => k_is)
    (case k15 => k_is)
    (case a16 => k_is)
    (case l16 => k_is)
    (case c16 => k_is)
    (case k16 => k_is)
    (case a17 => k_is)
    (case l17 => k_is)
    (case c17 => k_is)
    (case k17 => k_is)
    (case a18 => k_is)
    (case l18 => k_is)
    (case c18 => k_is)
    (case k18 => k_is)
    (case a19 => k_is)
    (case l19 => k_is)
    (case c19 => k_is)
    (case k19 => k_is)
    (case a20 => k_is)
    (case l20 => k_is)
    (case c20 => k_is)
    (case k20 => k_is)
    (case a21 => k_is)
    (case l21 => k_is)
    (case c21 => k_is)
    (case k21 => k_is)
    (case a22 => k_is)
    (case l22 => k_is)
    (case c22 => k_is)
    (case k22 => k_is)
    (case a23 => k_is)
    (case l23 => k_is)
    (case c23 => k_is)
    (case k23 => k_is)
    (case aI => k_is)
    (case iI => k_is)
    (case lI => k_is)
    (case cI => k_is)
    (case kI => k_is)
    (case aW => k_is)
    (case lW => k_is)
    (case cW => k_is)
    (case kW => k_is)
    (case z_isinstance => k_is)
    (case z_int => k_is)
    (case z_bool => k_is)
    (case z_len => k_is)
    (case z_range => k_is)
    (case z_tuple => k_is)
    (case z_all => k_is)
    (case z_sorted => k_is)
    (case z_enumerate => k_is)
    (case z_list => k_is)
    (case z_min => k_is)
    (case z_max => k_is)
    (case z_abs => k_is)
    (case n_first => k_is)
    (case n_last => k_is)
    (case n_above => k_is)
    (case n_fair => k_is)
    (case aM => k_is)
    (case pg => k_is)
    (case hd => k_is)
    (case po => k_is)
    (case sa => k_is)
    (case mk => k_is)
    (case kc => k_is)
