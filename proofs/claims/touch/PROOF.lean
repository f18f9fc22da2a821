import PyProof.Rows.All
import Wide.All
import OpenK.AllK
import Wide.FinOn
import Open.SpecLaws
import KE.OsGo
import HandS.ForSpec
import HandS.ForMost
import PySem.Challenge.RW_threadrow_s01_touch
set_option Elab.async false
set_option linter.all false
set_option maxRecDepth 100000
set_option maxHeartbeats 4000000
namespace TR
/-! ## lists -/
theorem getD_of {α : Type} {l : List α} {i : Nat} {x d : α} (h : l[i]? = some x) : l.getD i d = x := by
  rw [List.getD_eq_getElem?_getD, h]; rfl
theorem take_more {α : Type} {l : List α} {i : Nat} {x : α} (h : l[i]? = some x) : l.take (i + 1) = l.take i ++ [x] := by
  rw [List.take_add_one, h]; rfl
theorem drop_at {α : Type} {l : List α} {i : Nat} {x : α} (h : l[i]? = some x) : l.drop i = x :: l.drop (i + 1) := by
  obtain ⟨hi, e⟩ := List.getElem?_eq_some_iff.mp h
  rw [List.drop_eq_getElem_cons hi, e]
theorem getD_map {α β : Type} (f : α → β) (l : List α) {i : Nat} {d : α} {d' : β} (h : i < l.length) : (l.map f).getD i d' = f (l.getD i d) := by
  rw [List.getD_eq_getElem?_getD, List.getD_eq_getElem?_getD, List.getElem?_map, List.getElem?_eq_getElem h]; rfl

/-! ## bits -/
theorem and_eq_iff (a d : Nat) : (a &&& d == a) = true ↔ ∀ i, a.testBit i = true → d.testBit i = true := by
  rw [beq_iff_eq]
  constructor
  · intro h i hi
    have e := congrArg (fun n => n.testBit i) h
    simp only [Nat.testBit_and, hi, Bool.true_and] at e
    exact e
  · intro h
    apply Nat.eq_of_testBit_eq
    intro i
    rw [Nat.testBit_and]
    cases e : a.testBit i with
    | false => rfl
    | true => rw [h i e]; rfl
theorem testBit_lt {a j i : Nat} (h : a < 2 ^ j) (hi : a.testBit i = true) : i < j := by
  by_cases c : i < j
  · exact c
  · have : a < 2 ^ i := Nat.lt_of_lt_of_le h (Nat.pow_le_pow_right (by decide) (by omega))
    rw [Nat.testBit_lt_two_pow this] at hi
    cases hi
theorem testBit_add_pow {d j i : Nat} (h : d.testBit j = false) : (d + 2 ^ j).testBit i = (d.testBit i || decide (i = j)) := by
  have hr : d % 2 ^ (j + 1) < 2 ^ j := by
    apply Nat.lt_pow_two_of_testBit
    intro k hk
    rw [Nat.testBit_mod_two_pow]
    by_cases c : k < j + 1
    · have : k = j := by omega
      subst this
      simp [h]
    · simp [c]
  have e : d + 2 ^ j = 2 ^ (j + 1) * (d / 2 ^ (j + 1)) + (d % 2 ^ (j + 1) + 2 ^ j) := by
    have := Nat.div_add_mod d (2 ^ (j + 1))
    omega
  have hlt : d % 2 ^ (j + 1) + 2 ^ j < 2 ^ (j + 1) := by
    have e4 : 2 ^ (j + 1) = 2 ^ j + 2 ^ j := by rw [Nat.pow_succ]; omega
    rw [e4] at hr ⊢
    exact Nat.add_lt_add_right hr _
  have e2 : d = 2 ^ (j + 1) * (d / 2 ^ (j + 1)) + d % 2 ^ (j + 1) := (Nat.div_add_mod d (2 ^ (j + 1))).symm
  rw [e, Nat.testBit_two_pow_mul_add _ hlt]
  have e3 : d.testBit i = if i < j + 1 then (d % 2 ^ (j + 1)).testBit i else (d / 2 ^ (j + 1)).testBit (i - (j + 1)) := by
    rw [← Nat.testBit_two_pow_mul_add _ (Nat.mod_lt _ (Nat.two_pow_pos _)), ← e2]
  rw [e3]
  by_cases c : i < j + 1
  · rw [if_pos c, if_pos c, ← Nat.or_two_pow_eq_add_of_lt hr, Nat.testBit_or, Nat.testBit_two_pow]
    congr 1
    exact decide_eq_decide.mpr ⟨Eq.symm, Eq.symm⟩
  · rw [if_neg c, if_neg c]
    have : decide (i = j) = false := decide_eq_false (by omega)
    rw [this, Bool.or_false]
end TR
namespace TR
open Eb
/-! ## two stitches: the boxes and the sides say what the specification says -/
def spansMeet (a b c d : Int) : Bool := decide (max a b ≥ min c d) && decide (max c d ≥ min a b)
def boxesMeet (s t : Stitch) : Bool := spansMeet s.1.x s.2.x t.1.x t.2.x && spansMeet s.1.y s.2.y t.1.y t.2.y
def notBeside (s t : Stitch) : Bool := if side s.1 s.2 t.1 > 0 ∧ side s.1 s.2 t.2 > 0 then false else !(decide (side s.1 s.2 t.1 < 0) && decide (side s.1 s.2 t.2 < 0))
def meets (s t : Stitch) : Bool := if boxesMeet s t = true then notBeside s t && notBeside t s else false

/-- c between a and b -/
def Btw (a b c : Int) : Prop := (a ≤ c ∧ c ≤ b) ∨ (b ≤ c ∧ c ≤ a)
theorem between_iff {a b c : Int} : between_ a b c = true ↔ Btw a b c := by
  unfold between_ Btw
  rw [Bool.and_eq_true, decide_eq_true_iff, decide_eq_true_iff]
  omega
theorem spans_iff {a b c d : Int} : spansMeet a b c d = true ↔ (Btw a b c ∨ Btw a b d ∨ Btw c d a ∨ Btw c d b) := by
  unfold spansMeet Btw
  rw [Bool.and_eq_true, decide_eq_true_iff, decide_eq_true_iff]
  omega
theorem mul_neg_of {a b : Int} (ha : 0 < a) (hb : b < 0) : a * b < 0 := Int.mul_neg_of_pos_of_neg ha hb
theorem pos_of_mul {a b : Int} (ha : 0 < a) (h : 0 < a * b) : 0 < b := by
  rcases Int.lt_trichotomy b 0 with c | c | c
  · have := Int.mul_neg_of_pos_of_neg ha c; omega
  · subst c; simp at h
  · exact c
theorem nn_of_mul {a b : Int} (ha : 0 < a) (h : 0 ≤ a * b) : 0 ≤ b := by
  rcases Int.lt_trichotomy b 0 with c | c | c
  · have := Int.mul_neg_of_pos_of_neg ha c; omega
  · omega
  · omega
theorem np_of_mul {a b : Int} (ha : 0 < a) (h : a * b ≤ 0) : b ≤ 0 := by
  rcases Int.lt_trichotomy b 0 with c | c | c
  · omega
  · omega
  · have := Int.mul_pos ha c; omega
theorem zero_of_mul {a b : Int} (ha : a ≠ 0) (h : a * b = 0) : b = 0 := by
  rcases Int.mul_eq_zero.mp h with c | c
  · exact absurd c ha
  · exact c
/-- a proper crossing: in one axis the spans meet -/
theorem conv_meet {A B C D a b p q : Int} (hA : 0 < A) (hB : 0 < B) (hC : 0 < C) (hD : 0 < D) (e : A + B = C + D) (h : A * b + B * a = D * p + C * q) : Btw a b p ∨ Btw a b q ∨ Btw p q a ∨ Btw p q b := by
  unfold Btw
  apply Classical.byContradiction
  intro c
  have c2 : (a < p ∧ a < q ∧ b < p ∧ b < q) ∨ (p < a ∧ p < b ∧ q < a ∧ q < b) := by omega
  have key : ∀ {A B C D a b p q : Int}, 0 < A → 0 < B → 0 < C → 0 < D → A + B = C + D → A * b + B * a = D * p + C * q → a < p → a < q → b < p → b < q → False := by
    intro A B C D a b p q hA hB hC hD e h h1 h2 h3 h4
    have hm : ∃ m : Int, m ≤ p ∧ m ≤ q ∧ a < m ∧ b < m := ⟨min p q, by omega, by omega, by omega, by omega⟩
    obtain ⟨m, m1, m2, m3, m4⟩ := hm
    have k1 : A * b < A * m := Int.mul_lt_mul_of_pos_left m4 hA
    have k2 : B * a < B * m := Int.mul_lt_mul_of_pos_left m3 hB
    have k3 : D * m ≤ D * p := Int.mul_le_mul_of_nonneg_left m1 (Int.le_of_lt hD)
    have k4 : C * m ≤ C * q := Int.mul_le_mul_of_nonneg_left m2 (Int.le_of_lt hC)
    have k5 : A * m + B * m = C * m + D * m := by rw [← Int.add_mul, ← Int.add_mul, e]
    omega
  rcases c2 with ⟨h1, h2, h3, h4⟩ | ⟨h1, h2, h3, h4⟩
  · exact key hA hB hC hD e h h1 h2 h3 h4
  · exact key (A := D) (B := C) (C := B) (D := A) (a := q) (b := p) (p := b) (q := a) hD hC hB hA (by omega) (by omega) h4 h3 h2 h1
/-- the weights' identity, in one axis -/
theorem id_x (p q a b : Place) : side p q a * b.x - side p q b * a.x = side a b q * p.x - side a b p * q.x := by
  unfold side cross minus
  dsimp only
  grind
theorem id_y (p q a b : Place) : side p q a * b.y - side p q b * a.y = side a b q * p.y - side a b p * q.y := by
  unfold side cross minus
  dsimp only
  grind
theorem id_sum (p q a b : Place) : side p q a + side a b p = side p q b + side a b q := by
  unfold side cross minus
  dsimp only
  grind
theorem side_swap (p q a : Place) : side q p a = -side p q a := by
  unfold side cross minus
  dsimp only
  grind
theorem side_deg (p a : Place) : side p p a = 0 := by
  unfold side cross minus
  dsimp only
  grind
def BtwP (p q a : Place) : Prop := Btw p.x q.x a.x ∧ Btw p.y q.y a.y
theorem btw_swap {a b c : Int} : Btw a b c ↔ Btw b a c := by unfold Btw; omega
theorem onStitch_iff (s : Stitch) (p : Place) : onStitch s p = true ↔ side s.1 s.2 p = 0 ∧ BtwP s.1 s.2 p := by
  unfold onStitch BtwP
  rw [Bool.and_eq_true, Bool.and_eq_true, between_iff, between_iff, beq_iff_eq]
/-- not both on the same side, strictly -/
def NB (x y : Int) : Prop := ¬ (0 < x ∧ 0 < y) ∧ ¬ (x < 0 ∧ y < 0)
theorem notBeside_iff (s t : Stitch) : notBeside s t = true ↔ NB (side s.1 s.2 t.1) (side s.1 s.2 t.2) := by
  unfold notBeside NB
  by_cases c : side s.1 s.2 t.1 > 0 ∧ side s.1 s.2 t.2 > 0
  · rw [if_pos c]
    constructor
    · intro h; cases h
    · intro h; exact absurd c h.1
  · rw [if_neg c, Bool.not_eq_true', ← Bool.not_eq_true, Bool.and_eq_true, decide_eq_true_iff, decide_eq_true_iff]
    exact ⟨fun h => ⟨c, h⟩, fun h => h.2⟩
theorem boxesMeet_iff (s t : Stitch) : boxesMeet s t = true ↔ (Btw s.1.x s.2.x t.1.x ∨ Btw s.1.x s.2.x t.2.x ∨ Btw t.1.x t.2.x s.1.x ∨ Btw t.1.x t.2.x s.2.x) ∧ (Btw s.1.y s.2.y t.1.y ∨ Btw s.1.y s.2.y t.2.y ∨ Btw t.1.y t.2.y s.1.y ∨ Btw t.1.y t.2.y s.2.y) := by
  unfold boxesMeet
  rw [Bool.and_eq_true, spans_iff, spans_iff]
theorem opposite_iff {x y : Int} : opposite x y = true ↔ (x < 0 ∧ 0 < y) ∨ (y < 0 ∧ 0 < x) := by
  unfold opposite
  rw [Bool.or_eq_true, Bool.and_eq_true, Bool.and_eq_true, decide_eq_true_iff, decide_eq_true_iff, decide_eq_true_iff, decide_eq_true_iff]
/-- D u = C v, C and D of the same strict sign, u and v not: both are 0 -/
theorem both_zero {C D u v : Int} (hs : (0 < C ∧ 0 < D) ∨ (C < 0 ∧ D < 0)) (e : D * u = C * v) (h : (u ≤ 0 ∧ 0 ≤ v) ∨ (v ≤ 0 ∧ 0 ≤ u)) : u = 0 ∧ v = 0 := by
  have key : ∀ {C D u v : Int}, 0 < C → 0 < D → D * u = C * v → u ≤ 0 → 0 ≤ v → u = 0 ∧ v = 0 := by
    intro C D u v hC hD e h1 h2
    have k1 : D * u ≤ 0 := Int.mul_nonpos_of_nonneg_of_nonpos (Int.le_of_lt hD) h1
    have k2 : 0 ≤ C * v := Int.mul_nonneg (Int.le_of_lt hC) h2
    have k3 : D * u = 0 := by omega
    have k4 : C * v = 0 := by omega
    exact ⟨zero_of_mul (by omega) k3, zero_of_mul (by omega) k4⟩
  rcases hs with ⟨h1, h2⟩ | ⟨h1, h2⟩
  · rcases h with ⟨h3, h4⟩ | ⟨h3, h4⟩
    · exact key h1 h2 e h3 h4
    · have := key (C := D) (D := C) (u := v) (v := u) h2 h1 e.symm h3 h4
      exact ⟨this.2, this.1⟩
  · have e' : (-D) * u = (-C) * v := by rw [Int.neg_mul, Int.neg_mul, e]
    rcases h with ⟨h3, h4⟩ | ⟨h3, h4⟩
    · exact key (C := -C) (D := -D) (by omega) (by omega) e' h3 h4
    · have := key (C := -D) (D := -C) (u := v) (v := u) (by omega) (by omega) e'.symm h3 h4
      exact ⟨this.2, this.1⟩
/-- a on the stitch pq: then p, q are not both on the same side of ab -/
theorem nb_of_on {p q a b : Place} (h0 : side p q a = 0) (hb : BtwP p q a) : NB (side a b p) (side a b q) := by
  have ex := id_x p q a b
  have ey := id_y p q a b
  have es := id_sum p q a b
  rw [h0] at ex ey es
  have cx : side a b q * (p.x - a.x) = side a b p * (q.x - a.x) := by
    rw [Int.mul_sub, Int.mul_sub]
    have : side p q b = side a b p - side a b q := by omega
    rw [this, Int.sub_mul] at ex
    omega
  have cy : side a b q * (p.y - a.y) = side a b p * (q.y - a.y) := by
    rw [Int.mul_sub, Int.mul_sub]
    have : side p q b = side a b p - side a b q := by omega
    rw [this, Int.sub_mul] at ey
    omega
  have fin : ¬ ((0 < side a b p ∧ 0 < side a b q) ∨ (side a b p < 0 ∧ side a b q < 0)) := by
    intro hs
    obtain ⟨hbx, hby⟩ := hb
    unfold Btw at hbx hby
    have zx := both_zero hs cx (by omega)
    have zy := both_zero hs cy (by omega)
    have : a = p := by
      cases a; cases p
      simp only [Place.mk.injEq] at *
      omega
    subst this
    have z : side a b a = 0 := by
      unfold side cross minus
      dsimp only
      grind
    omega
  unfold NB
  exact ⟨fun h => fin (.inl h), fun h => fin (.inr h)⟩
/-- .. and in the box of both -/
theorem btw_end (a b : Int) : Btw a b a ∧ Btw a b b := by unfold Btw; omega
theorem meets_of_on1 {s t : Stitch} (h : onStitch s t.1 = true) : boxesMeet s t = true ∧ notBeside s t = true ∧ notBeside t s = true := by
  obtain ⟨h0, hb⟩ := (onStitch_iff _ _).mp h
  refine ⟨(boxesMeet_iff _ _).mpr ⟨.inl hb.1, .inl hb.2⟩, (notBeside_iff _ _).mpr ?_, (notBeside_iff _ _).mpr (nb_of_on h0 hb)⟩
  unfold NB
  omega
theorem flip_t (s : Stitch) (a b : Place) : boxesMeet s (a, b) = boxesMeet s (b, a) ∧ notBeside s (a, b) = notBeside s (b, a) ∧ notBeside (a, b) s = notBeside (b, a) s := by
  refine ⟨?_, ?_, ?_⟩
  · rw [Bool.eq_iff_iff, boxesMeet_iff, boxesMeet_iff]
    dsimp only
    rw [btw_swap (a := a.x) (b := b.x) (c := s.1.x), btw_swap (a := a.x) (b := b.x) (c := s.2.x), btw_swap (a := a.y) (b := b.y) (c := s.1.y), btw_swap (a := a.y) (b := b.y) (c := s.2.y)]
    grind
  · rw [Bool.eq_iff_iff, notBeside_iff, notBeside_iff]
    dsimp only
    unfold NB
    grind
  · rw [Bool.eq_iff_iff, notBeside_iff, notBeside_iff]
    dsimp only
    rw [side_swap a b, side_swap a b]
    unfold NB
    omega
theorem flip_st (s t : Stitch) : boxesMeet s t = boxesMeet t s := by
  rw [Bool.eq_iff_iff, boxesMeet_iff, boxesMeet_iff]
  grind
theorem meets_of_on2 {s t : Stitch} (h : onStitch s t.2 = true) : boxesMeet s t = true ∧ notBeside s t = true ∧ notBeside t s = true := by
  obtain ⟨e1, e2, e3⟩ := flip_t s t.1 t.2
  have := meets_of_on1 (s := s) (t := (t.2, t.1)) h
  rw [← e1, ← e2, ← e3] at this
  exact this
theorem proper_meet {s t : Stitch} (h1 : opposite (side s.1 s.2 t.1) (side s.1 s.2 t.2) = true) (h2 : opposite (side t.1 t.2 s.1) (side t.1 t.2 s.2) = true) : boxesMeet s t = true ∧ notBeside s t = true ∧ notBeside t s = true := by
  rw [opposite_iff] at h1 h2
  refine ⟨?_, ?_, ?_⟩
  · rw [flip_st, boxesMeet_iff]
    have ex := id_x s.1 s.2 t.1 t.2
    have ey := id_y s.1 s.2 t.1 t.2
    have es := id_sum s.1 s.2 t.1 t.2
    generalize side s.1 s.2 t.1 = A at *
    generalize side s.1 s.2 t.2 = B at *
    generalize side t.1 t.2 s.1 = C at *
    generalize side t.1 t.2 s.2 = D at *
    rcases h1 with ⟨h1, h1'⟩ | ⟨h1, h1'⟩ <;> rcases h2 with ⟨h2, h2'⟩ | ⟨h2, h2'⟩
    · exfalso; omega
    · have hx := conv_meet (A := -A) (B := B) (C := C) (D := -D) (a := t.1.x) (b := t.2.x) (p := s.1.x) (q := s.2.x) (by omega) (by omega) (by omega) (by omega) (by omega) (by rw [Int.neg_mul, Int.neg_mul]; omega)
      have hy := conv_meet (A := -A) (B := B) (C := C) (D := -D) (a := t.1.y) (b := t.2.y) (p := s.1.y) (q := s.2.y) (by omega) (by omega) (by omega) (by omega) (by omega) (by rw [Int.neg_mul, Int.neg_mul]; omega)
      exact ⟨hx, hy⟩
    · have hx := conv_meet (A := A) (B := -B) (C := -C) (D := D) (a := t.1.x) (b := t.2.x) (p := s.1.x) (q := s.2.x) (by omega) (by omega) (by omega) (by omega) (by omega) (by rw [Int.neg_mul, Int.neg_mul]; omega)
      have hy := conv_meet (A := A) (B := -B) (C := -C) (D := D) (a := t.1.y) (b := t.2.y) (p := s.1.y) (q := s.2.y) (by omega) (by omega) (by omega) (by omega) (by omega) (by rw [Int.neg_mul, Int.neg_mul]; omega)
      exact ⟨hx, hy⟩
    · exfalso; omega
  · rw [notBeside_iff]; unfold NB; omega
  · rw [notBeside_iff]; unfold NB; omega
/-- one end on the other's line, the other not: it is on the other stitch -/
theorem btw_of_weights {C D u v : Int} (hn : NB C D) (hd : ¬ (C = 0 ∧ D = 0)) (e : D * u = C * v) : (u ≤ 0 ∧ 0 ≤ v) ∨ (v ≤ 0 ∧ 0 ≤ u) := by
  have key : ∀ {C D u v : Int}, 0 ≤ C → D ≤ 0 → ¬ (C = 0 ∧ D = 0) → D * u = C * v → (u ≤ 0 ∧ 0 ≤ v) ∨ (v ≤ 0 ∧ 0 ≤ u) := by
    intro C D u v h1 h2 h3 e
    by_cases c : C = 0
    · subst c
      rw [Int.zero_mul] at e
      have := zero_of_mul (a := D) (b := u) (by omega) e
      omega
    · have hC : 0 < C := by omega
      rcases Int.lt_trichotomy u 0 with hu | hu | hu
      · have : 0 ≤ D * u := Int.mul_nonneg_of_nonpos_of_nonpos h2 (Int.le_of_lt hu)
        have := nn_of_mul hC (show 0 ≤ C * v by omega)
        omega
      · subst hu
        rw [Int.mul_zero] at e
        have := zero_of_mul (a := C) (b := v) (by omega) e.symm
        omega
      · have : D * u ≤ 0 := Int.mul_nonpos_of_nonpos_of_nonneg h2 (Int.le_of_lt hu)
        have := np_of_mul hC (show C * v ≤ 0 by omega)
        omega
  unfold NB at hn
  by_cases c : 0 ≤ C ∧ D ≤ 0
  · exact key c.1 c.2 hd e
  · have := key (C := -C) (D := -D) (u := u) (v := v) (by omega) (by omega) (by omega) (by rw [Int.neg_mul, Int.neg_mul, e])
    exact this
theorem on_of_line {p q a b : Place} (h0 : side p q a = 0) (hb : side p q b ≠ 0) (hn : NB (side a b p) (side a b q)) : BtwP p q a := by
  have ex := id_x p q a b
  have ey := id_y p q a b
  have es := id_sum p q a b
  rw [h0] at ex ey es
  have eb : side p q b = side a b p - side a b q := by omega
  rw [eb, Int.sub_mul] at ex ey
  have cx : side a b q * (p.x - a.x) = side a b p * (q.x - a.x) := by
    rw [Int.mul_sub, Int.mul_sub]
    omega
  have cy : side a b q * (p.y - a.y) = side a b p * (q.y - a.y) := by
    rw [Int.mul_sub, Int.mul_sub]
    omega
  have hd : ¬ (side a b p = 0 ∧ side a b q = 0) := by omega
  have hx := btw_of_weights hn hd cx
  have hy := btw_of_weights hn hd cy
  unfold BtwP Btw
  omega
/-- on one line: between in x is between in y -/
theorem mono_line {dx dy w u : Int} (hd : dx ≠ 0) (e : dx * u = dy * w) (hw : (0 ≤ w ∧ w ≤ dx) ∨ (dx ≤ w ∧ w ≤ 0)) : (0 ≤ u ∧ u ≤ dy) ∨ (dy ≤ u ∧ u ≤ 0) := by
  have key : ∀ {dx dy w u : Int}, 0 < dx → dx * u = dy * w → 0 ≤ w → w ≤ dx → (0 ≤ u ∧ u ≤ dy) ∨ (dy ≤ u ∧ u ≤ 0) := by
    intro dx dy w u hd e h1 h2
    have e2 : dx * (dy - u) = dy * (dx - w) := by
      rw [Int.mul_sub, Int.mul_sub, e, Int.mul_comm dx dy]
    by_cases c : 0 ≤ dy
    · left
      have k1 : 0 ≤ dx * u := by rw [e]; exact Int.mul_nonneg c h1
      have k2 : 0 ≤ dx * (dy - u) := by rw [e2]; exact Int.mul_nonneg c (by omega)
      have := nn_of_mul hd k1
      have := nn_of_mul hd k2
      omega
    · right
      have k1 : dx * u ≤ 0 := by rw [e]; exact Int.mul_nonpos_of_nonpos_of_nonneg (by omega) h1
      have k2 : dx * (dy - u) ≤ 0 := by rw [e2]; exact Int.mul_nonpos_of_nonpos_of_nonneg (by omega) (by omega)
      have := np_of_mul hd k1
      have := np_of_mul hd k2
      omega
  rcases hw with ⟨h1, h2⟩ | ⟨h1, h2⟩
  · by_cases c : 0 < dx
    · exact key c e h1 h2
    · have : w = 0 := by omega
      subst this
      rw [Int.mul_zero] at e
      have := zero_of_mul hd e
      omega
  · by_cases c : dx < 0
    · have := key (dx := -dx) (dy := -dy) (w := -w) (u := -u) (by omega) (by rw [Int.neg_mul_neg, Int.neg_mul_neg, e]) (by omega) (by omega)
      omega
    · have : w = 0 := by omega
      subst this
      rw [Int.mul_zero] at e
      have := zero_of_mul hd e
      omega
theorem side_eq (p q a : Place) : side p q a = (q.x - p.x) * (a.y - p.y) - (q.y - p.y) * (a.x - p.x) := rfl
/-- on the line of pq, q.x not p.x, a between in x: a is on pq -/
theorem btwP_x {p q a : Place} (hd : q.x - p.x ≠ 0) (h0 : side p q a = 0) (h : Btw p.x q.x a.x) : BtwP p q a := by
  rw [side_eq] at h0
  have := mono_line (dx := q.x - p.x) (dy := q.y - p.y) (w := a.x - p.x) (u := a.y - p.y) hd (by omega) (by unfold Btw at h; omega)
  unfold BtwP Btw at *
  omega
theorem btwP_y {p q a : Place} (hd : q.y - p.y ≠ 0) (h0 : side p q a = 0) (h : Btw p.y q.y a.y) : BtwP p q a := by
  rw [side_eq] at h0
  have := mono_line (dx := q.y - p.y) (dy := q.x - p.x) (w := a.y - p.y) (u := a.x - p.x) hd (by omega) (by unfold Btw at h; omega)
  unfold BtwP Btw at *
  omega
/-- all on one line, the boxes meet: an end is on the other -/
theorem on_of_all {p q a b : Place} (hA : side p q a = 0) (hB : side p q b = 0) (hC : side a b p = 0) (hD : side a b q = 0)
    (hx : Btw p.x q.x a.x ∨ Btw p.x q.x b.x ∨ Btw a.x b.x p.x ∨ Btw a.x b.x q.x) (hy : Btw p.y q.y a.y ∨ Btw p.y q.y b.y ∨ Btw a.y b.y p.y ∨ Btw a.y b.y q.y) :
    BtwP p q a ∨ BtwP p q b ∨ BtwP a b p ∨ BtwP a b q := by
  by_cases d1 : q.x - p.x = 0
  · by_cases d2 : b.x - a.x = 0
    · -- both upright: all x alike
      have ex : a.x = p.x := by unfold Btw at hx; omega
      unfold BtwP
      unfold Btw at *
      omega
    · -- pq upright (or a point), ab not: pq is a point
      rw [side_eq] at hC hD
      have k : (b.x - a.x) * (q.y - p.y) = 0 := by
        have e1 : q.x = p.x := by omega
        rw [e1] at hD
        have : (b.x - a.x) * (q.y - p.y) = ((b.x - a.x) * (q.y - a.y) - (b.y - a.y) * (p.x - a.x)) - ((b.x - a.x) * (p.y - a.y) - (b.y - a.y) * (p.x - a.x)) := by grind
        omega
      have k2 := zero_of_mul d2 k
      right; right; left
      exact btwP_x d2 (by rw [side_eq]; exact hC) (by unfold Btw at *; omega)
  · by_cases d2 : b.x - a.x = 0
    · rw [side_eq] at hA hB
      have k : (q.x - p.x) * (b.y - a.y) = 0 := by
        have e1 : b.x = a.x := by omega
        rw [e1] at hB
        have : (q.x - p.x) * (b.y - a.y) = ((q.x - p.x) * (b.y - p.y) - (q.y - p.y) * (a.x - p.x)) - ((q.x - p.x) * (a.y - p.y) - (q.y - p.y) * (a.x - p.x)) := by grind
        omega
      have k2 := zero_of_mul d1 k
      left
      exact btwP_x d1 (by rw [side_eq]; exact hA) (by unfold Btw at *; omega)
    · rcases hx with h | h | h | h
      · exact .inl (btwP_x d1 hA h)
      · exact .inr (.inl (btwP_x d1 hB h))
      · exact .inr (.inr (.inl (btwP_x d2 hC h)))
      · exact .inr (.inr (.inr (btwP_x d2 hD h)))
theorem meets_is (s t : Stitch) : meets s t = stitchesTouch s t := by
  rw [Bool.eq_iff_iff]
  unfold meets stitchesTouch
  constructor
  · intro h
    by_cases c : boxesMeet s t = true
    · rw [if_pos c, Bool.and_eq_true] at h
      obtain ⟨n1, n2⟩ := h
      rw [notBeside_iff] at n1 n2
      obtain ⟨bx, bY⟩ := (boxesMeet_iff s t).mp c
      rw [Bool.or_eq_true, Bool.and_eq_true, Bool.or_eq_true, Bool.or_eq_true, Bool.or_eq_true, opposite_iff, opposite_iff, onStitch_iff, onStitch_iff, onStitch_iff, onStitch_iff]
      have es := id_sum s.1 s.2 t.1 t.2
      by_cases a0 : side s.1 s.2 t.1 = 0
      · right
        by_cases b0 : side s.1 s.2 t.2 = 0
        · have cd : side t.1 t.2 s.1 = 0 ∧ side t.1 t.2 s.2 = 0 := by
            unfold NB at n2
            omega
          rcases on_of_all a0 b0 cd.1 cd.2 bx bY with h | h | h | h
          · exact .inl ⟨a0, h⟩
          · exact .inr (.inl ⟨b0, h⟩)
          · exact .inr (.inr (.inl ⟨cd.1, h⟩))
          · exact .inr (.inr (.inr ⟨cd.2, h⟩))
        · exact .inl ⟨a0, on_of_line a0 b0 n2⟩
      · by_cases b0 : side s.1 s.2 t.2 = 0
        · right; right; left
          refine ⟨b0, on_of_line (b := t.1) b0 a0 ?_⟩
          rw [side_swap t.1 t.2, side_swap t.1 t.2]
          unfold NB at *
          omega
        · by_cases c0 : side t.1 t.2 s.1 = 0
          · right; right; right; left
            refine ⟨c0, on_of_line (b := s.2) c0 (by unfold NB at n1; omega) n1⟩
          · by_cases d0 : side t.1 t.2 s.2 = 0
            · right; right; right; right
              refine ⟨d0, ?_⟩
              have := on_of_line (p := t.1) (q := t.2) (a := s.2) (b := s.1) d0 c0 (by
                rw [side_swap s.1 s.2, side_swap s.1 s.2]
                unfold NB at *
                omega)
              exact this
            · left
              unfold NB at n1 n2
              omega
    · rw [if_neg c] at h
      cases h
  · intro h
    have fin : boxesMeet s t = true ∧ notBeside s t = true ∧ notBeside t s = true := by
      rw [Bool.or_eq_true, Bool.and_eq_true, Bool.or_eq_true, Bool.or_eq_true, Bool.or_eq_true] at h
      rcases h with ⟨h1, h2⟩ | h | h | h | h
      · exact proper_meet h1 h2
      · exact meets_of_on1 h
      · exact meets_of_on2 h
      · obtain ⟨k1, k2, k3⟩ := meets_of_on1 (s := t) (t := s) h
        rw [flip_st] at k1
        exact ⟨k1, k3, k2⟩
      · obtain ⟨k1, k2, k3⟩ := meets_of_on2 (s := t) (t := s) h
        rw [flip_st] at k1
        exact ⟨k1, k3, k2⟩
    rw [if_pos fin.1, fin.2.1, fin.2.2]
    rfl
end TR
namespace TR
open Eb
/-! ## rows of holes, their numbers, their stitches -/
def flat : List Place → List Int
  | [] => []
  | p :: r => p.x :: p.y :: flat r
theorem flat_len : ∀ l : List Place, (flat l).length = 2 * l.length
  | [] => rfl
  | p :: r => by
    unfold flat
    rw [List.length_cons, List.length_cons, flat_len r, List.length_cons]
    omega
theorem flat_get : ∀ {l : List Place} {i : Nat} {p : Place}, l[i]? = some p → (flat l)[2 * i]? = some p.x ∧ (flat l)[2 * i + 1]? = some p.y
  | [], i, p, h => by simp at h
  | a :: r, 0, p, h => by
    have e : a = p := Option.some.inj h
    subst e
    exact ⟨rfl, rfl⟩
  | a :: r, i + 1, p, h => by
    have ih := flat_get (l := r) (i := i) (p := p) h
    have e : 2 * (i + 1) = 2 * i + 1 + 1 := by omega
    rw [e]
    exact ih
theorem places_flat : ∀ l : List Place, YqstfaNeutral.places? (flat l) = some l
  | [] => rfl
  | p :: r => by
    show (YqstfaNeutral.places? (flat r)).map _ = _
    rw [places_flat r]
    rfl
theorem flat_of : ∀ (n : Nat) {x : List Int} {l : List Place}, x.length ≤ n → YqstfaNeutral.places? x = some l → x = flat l
  | _, [], l, _, h => by
    have e : [] = l := Option.some.inj h
    subst e
    rfl
  | _, [_], l, _, h => by
    have : (none : Option (List Place)) = some l := h
    cases this
  | 0, a :: b :: r, l, hn, _ => by
    rw [List.length_cons] at hn
    omega
  | n + 1, a :: b :: r, l, hn, h => by
    have h' : (YqstfaNeutral.places? r).map (fun l => (⟨a, b⟩ : Place) :: l) = some l := h
    cases e : YqstfaNeutral.places? r with
    | none => rw [e] at h'; cases h'
    | some l2 =>
      rw [e] at h'
      have e2 : (⟨a, b⟩ : Place) :: l2 = l := Option.some.inj h'
      subst e2
      have ih := flat_of n (x := r) (l := l2) (by rw [List.length_cons, List.length_cons] at hn; omega) e
      rw [ih]
      rfl
theorem pairs_len : ∀ l : List Place, (pairsOf l).length = l.length - 1
  | [] => rfl
  | [_] => rfl
  | p :: q :: r => by
    have := pairs_len (q :: r)
    show (pairsOf (q :: r)).length + 1 = _
    rw [this]
    simp
theorem pairs_get : ∀ {l : List Place} {i : Nat} {p q : Place}, l[i]? = some p → l[i + 1]? = some q → (pairsOf l)[i]? = some (p, q)
  | [], i, p, q, h, _ => by simp at h
  | [_], i, p, q, _, h => by simp at h
  | a :: b :: r, 0, p, q, h, h2 => by
    have e : a = p := Option.some.inj h
    have e2 : b = q := Option.some.inj h2
    subst e e2
    rfl
  | a :: b :: r, i + 1, p, q, h, h2 => pairs_get (l := b :: r) (i := i) h h2
theorem stitches_one {l : List Place} {p : Place} (h : l.length = 1) (h0 : l[0]? = some p) : stitchesOf l = [(p, p)] := by
  match l, h, h0 with
  | [a], _, h0 =>
    have e : a = p := Option.some.inj h0
    subst e
    rfl
theorem stitches_more {l : List Place} (h : l.length ≠ 1) : stitchesOf l = pairsOf l := by
  match l, h with
  | [], _ => rfl
  | _ :: _ :: _, _ => rfl
def rowAllowed (l : List Place) : Bool := if l.length = 0 then false else l.all Place.ok
def shortRow (l : List Place) : Bool := rowAllowed l && decide (l.length ≤ 60)
theorem rowOk_is (l : List Place) : Yqstfa.rowOk l = shortRow l := by
  unfold Yqstfa.rowOk shortRow rowAllowed Yqstfa.HOLES
  by_cases c : l.length = 0
  · rw [if_pos c, decide_eq_false (by omega), Bool.false_and, Bool.false_and]
  · rw [if_neg c, decide_eq_true (show 1 ≤ l.length by omega), Bool.true_and, Bool.and_comm]
theorem rowAllowed_ok {l : List Place} (h : rowAllowed l = true) : 0 < l.length ∧ ∀ p ∈ l, p.ok = true := by
  unfold rowAllowed at h
  by_cases c : l.length = 0
  · rw [if_pos c] at h; cases h
  · rw [if_neg c, List.all_eq_true] at h
    exact ⟨by omega, h⟩
/-- both ends of a stitch within the bounds -/
def SOk (s : Stitch) : Prop := s.1.ok = true ∧ s.2.ok = true
theorem pairs_ok : ∀ {l : List Place}, (∀ p ∈ l, p.ok = true) → ∀ s ∈ pairsOf l, SOk s
  | [], _, s, hs => by cases hs
  | [_], _, s, hs => by cases hs
  | p :: q :: r, h, s, hs => by
    have hs' : s ∈ (p, q) :: pairsOf (q :: r) := hs
    rcases List.mem_cons.mp hs' with e | e
    · subst e
      exact ⟨h p (List.mem_cons_self ..), h q (List.mem_cons_of_mem _ (List.mem_cons_self ..))⟩
    · exact pairs_ok (l := q :: r) (fun x hx => h x (List.mem_cons_of_mem _ hx)) s e
theorem stitches_ok {l : List Place} (h : ∀ p ∈ l, p.ok = true) : ∀ s ∈ stitchesOf l, SOk s := by
  match l, h with
  | [], _ => intro s hs; cases hs
  | [p], h =>
    intro s hs
    have e : s = (p, p) := List.mem_singleton.mp hs
    subst e
    exact ⟨h p (List.mem_cons_self ..), h p (List.mem_cons_self ..)⟩
  | p :: q :: r, h => exact pairs_ok (l := p :: q :: r) h
theorem ok_bounds {p : Place} (h : p.ok = true) : -30000 ≤ p.x ∧ p.x ≤ 30000 ∧ -30000 ≤ p.y ∧ p.y ≤ 30000 := by
  unfold Place.ok within EDGE at h
  rw [Bool.and_eq_true, Bool.and_eq_true, Bool.and_eq_true, decide_eq_true_iff, decide_eq_true_iff, decide_eq_true_iff, decide_eq_true_iff] at h
  omega
def anyMeet (a b : List Stitch) : Bool := a.any fun s => b.any fun t => meets s t
theorem anyMeet_rows (a b : Way) : anyMeet (stitchesOf a) (stitchesOf b) = rowsTouch a b := by
  unfold anyMeet rowsTouch
  congr 1
  funext s
  congr 1
  funext t
  exact meets_is s t
def touchM (a b : List Place) : List Int := if shortRow a = true then (if shortRow b = true then (if anyMeet (stitchesOf a) (stitchesOf b) = true then [1] else [0]) else [-1]) else [-1]
theorem touch_is (a b : List Place) : PyYqstfa.touch (flat a) (flat b) = touchM a b := by
  show YqstfaNeutral.f [[1], flat a, flat b] = _
  have e : YqstfaNeutral.callOf [[1], flat a, flat b] = some (.touch a b) := by
    show (YqstfaNeutral.places? (flat a)).bind (fun x => (YqstfaNeutral.places? (flat b)).map fun y => Yqstfa.Call.touch x y) = _
    rw [places_flat, places_flat]
    rfl
  unfold YqstfaNeutral.f
  rw [e]
  show YqstfaNeutral.told (if (Yqstfa.rowOk a && Yqstfa.rowOk b) = true then .count (if rowsTouch a b = true then 1 else 0) else .no (-1)) = _
  unfold touchM
  rw [rowOk_is, rowOk_is, anyMeet_rows]
  by_cases c1 : shortRow a = true
  · by_cases c2 : shortRow b = true
    · rw [if_pos c1, if_pos c2, c1, c2, if_pos (show (true && true) = true from rfl)]
      by_cases c3 : rowsTouch a b = true
      · rw [if_pos c3, if_pos c3]; rfl
      · rw [if_neg c3, if_neg c3]; rfl
    · rw [if_pos c1, if_neg c2, if_neg (by rw [Bool.and_eq_true]; exact fun h => c2 h.2)]; rfl
  · rw [if_neg c1, if_neg (by rw [Bool.and_eq_true]; exact fun h => c1 h.1)]; rfl
theorem touch_asked {x y : List Int} (h : PyYqstfa.touch_asked x y = true) : ∃ a b, x = flat a ∧ y = flat b := by
  have h' : (YqstfaNeutral.callOf [[1], x, y]).isSome = true := h
  have e : YqstfaNeutral.callOf [[1], x, y] = (YqstfaNeutral.places? x).bind (fun a => (YqstfaNeutral.places? y).map fun b => Yqstfa.Call.touch a b) := rfl
  rw [e] at h'
  cases ex : YqstfaNeutral.places? x with
  | none => rw [ex] at h'; cases h'
  | some a =>
    cases ey : YqstfaNeutral.places? y with
    | none => rw [ex, ey] at h'; cases h'
    | some b => exact ⟨a, b, flat_of _ (Nat.le_refl _) ex, flat_of _ (Nat.le_refl _) ey⟩
end TR
namespace TR
open PySem PySem.Spec PyProof.Rows L2
/-! ## a def that is called, by its name -/
structure CallOk (P : Program) (w : World) (K : PySem.W.Frag) (mg : Str → Option Value) (base : Heap) (k : Nat) (x : Str) (ps : List Str) (sp : Sp) : Prop where
  ex : ∃ f fd, FnOk P w K mg base CX0 k f fd ps sp ∧ mg x = some (.ref f) ∧ PySem.W.keepIn K (.ref f) = true ∧ Binds K fd ps []
section
variable {X : Cx} {k : Nat} {x : Str} {ps : List Str} {sp : Sp} {p pos : Pos} {e : Expr} {es : List Expr} {t : TA}
theorem pe_cf (C : CallOk X.prog X.w X.K X.mg X.base k x ps sp) (hr : Room k X.A) (ha : PA X (e :: es) t) (hg : Gl X x := by rfl) (hdb : (x == ("__debug__" : Str)) = false := by decide)
    (he : starEach (e :: es) X.env = (false, eval e X.env) :: starEach es X.env := by rfl) (hpl : (backTo pos (starEach es X.env)).any (·.1) = false := by rfl) :
    PE X (.Call (.Name x p) (e :: es) [] pos) (tCall sp [] E0 t) := by
  obtain ⟨f, fd, F, hm, hk, hb⟩ := C
  exact pe_call F hr hg hm hk hb .nil pass0 ha hdb he hpl
end
/-- a constant of the top, an int -/
theorem pe_gi {X : Cx} {x : Str} {pos : Pos} {i : Int} (hm : ∃ t, X.mg x = some (.int i t)) (hg : Gl X x := by rfl) (hd : (x == ("__debug__" : Str)) = false := by decide) : PE X (.Name x pos) (tC (.int i)) := by
  obtain ⟨t, e⟩ := hm
  exact pe_glob hg e ⟨_, rfl⟩ hd
/-! ## values -/
abbrev iv (n : Nat) : V := .int (n : Int)
theorem iv_get {l : List Nat} {i : Nat} {x : Nat} (h : l[i]? = some x) : (l.map iv)[i]? = some (iv x) := by
  rw [List.getElem?_map, h]; rfl
theorem iv_at {l : List Nat} {i : Nat} {x : Nat} (h : l[i]? = some x) : atI (l.map iv) (i : Int) = some (iv x) := atI_nat (iv_get h)
theorem iv_of {l : List Nat} {i : Nat} {v : V} (h : (l.map iv)[i]? = some v) : ∃ x, l[i]? = some x ∧ v = iv x := by
  rw [List.getElem?_map] at h
  cases e : l[i]? with
  | none => rw [e] at h; cases h
  | some x => rw [e] at h; exact ⟨x, rfl, (Option.some.inj h).symm⟩
theorem get_of_lt {α : Type} {l : List α} {i : Nat} (h : i < l.length) : ∃ x, l[i]? = some x := ⟨l[i], List.getElem?_eq_getElem h⟩
theorem vint_iff {a b : Int} : decide (V.int a = V.int b) = true ↔ a = b := by
  rw [decide_eq_true_iff]
  exact ⟨V.int.inj, fun h => by rw [h]⟩
theorem vint_ne {a b : Int} : (!decide (V.int a = V.int b)) = true ↔ a ≠ b := by
  rw [Bool.not_eq_true', ← Bool.not_eq_true, vint_iff]
theorem sizeLine_big : 1000000 ≤ sizeLine := by decide
/-! ## heaps -/
theorem Same.fresh {H : Hp} {p : Addr} {o : HO} (h : H p = none) : Same H (upd H p o) := fun b x e => by
  rw [upd_ne (ne_of_none e h)]
  exact e
/-- a change at an address that was free at the start -/
theorem Same.over {H H' : Hp} {p : Addr} {o : HO} (s : Same H H') (h : H p = none) : Same H (upd H' p o) := fun b x e => by
  rw [upd_ne (ne_of_none e h)]
  exact s b x e
theorem Same.seqT {K : PySem.W.Frag} {H H' : Hp} {a : Addr} {xs : List V} (e : Same H H') (h : SqT K H a xs) : SqT K H' a xs := by
  rcases h with (h | ⟨o, h⟩) | h
  · exact .inl (.inl (e _ _ h))
  · exact .inl (.inr ⟨o, e _ _ h⟩)
  · exact .inr h
/-! ## loops over range(n), by naturals -/
theorem for_rng0 {m : Int} {n : Nat} (hm : m = (n : Int)) {g : TG} {tb : TS} {D : Ends} {σ : L2.St} {H : Hp} (Pv : Nat → L2.St → Hp → Prop) (h0 : Pv 0 σ H)
    (hs : ∀ i σ H, i < n → Pv i σ H → g (iv i) σ H fun σ2 H2 => tb { D with nx := Pv (i + 1), ct := Pv (i + 1), bk := D.nx } σ2 H2) (hd : ∀ σ H, Pv n σ H → D.nx σ H) :
    ∃ W : Nat → Nat → L2.St → Hp → Prop, (∃ m, W 0 m σ H) ∧ ∀ i k σ H, W i k σ H →
      ((Itr 0 m.toNat).stop i H ∧ D.nx σ H) ∨ ((Itr 0 m.toNat).go i H ∧ ∃ N : L2.St → Hp → Prop, (∀ σ' H', N σ' H' → ∃ m', m' < k ∧ W (i + 1) m' σ' H') ∧ ∀ x H', (Itr 0 m.toNat).yld i H x H' → g x σ H' fun σ2 H2 => tb { D with nx := N, ct := N, bk := D.nx } σ2 H2) := by
  subst hm
  rw [Int.toNat_natCast]
  refine for_range (lo := 0) (n := n) Pv h0 (fun i σ H hi p => ?_) hd
  rw [Int.zero_add]
  exact hs i σ H hi p
/-- range(1, n) -/
theorem for_rng1 {a m : Int} {n : Nat} (ha : a = 1) (hm : m = (n : Int)) {g : TG} {tb : TS} {D : Ends} {σ : L2.St} {H : Hp} (Pv : Nat → L2.St → Hp → Prop) (h0 : Pv 0 σ H)
    (hs : ∀ i σ H, i + 1 < n → Pv i σ H → g (iv (i + 1)) σ H fun σ2 H2 => tb { D with nx := Pv (i + 1), ct := Pv (i + 1), bk := D.nx } σ2 H2) (hd : ∀ σ H, Pv (n - 1) σ H → D.nx σ H) :
    ∃ W : Nat → Nat → L2.St → Hp → Prop, (∃ m, W 0 m σ H) ∧ ∀ i k σ H, W i k σ H →
      ((Itr a (m - a).toNat).stop i H ∧ D.nx σ H) ∨ ((Itr a (m - a).toNat).go i H ∧ ∃ N : L2.St → Hp → Prop, (∀ σ' H', N σ' H' → ∃ m', m' < k ∧ W (i + 1) m' σ' H') ∧ ∀ x H', (Itr a (m - a).toNat).yld i H x H' → g x σ H' fun σ2 H2 => tb { D with nx := N, ct := N, bk := D.nx } σ2 H2) := by
  subst ha hm
  have e : ((n : Int) - 1).toNat = n - 1 := by omega
  rw [e]
  refine for_range (lo := 1) (n := n - 1) Pv h0 (fun i σ H hi p => ?_) hd
  have e2 : (1 : Int) + (i : Int) = ((i + 1 : Nat) : Int) := by omega
  rw [e2]
  exact hs i σ H (by omega) p
end TR
namespace TR
open PySem PySem.Spec PyProof.Rows L2
open Eb (Stitch)
/-! ## lists that go with lists -/
def All2 {α β : Type} (R : α → β → Prop) (xs : List α) (ys : List β) : Prop := xs.length = ys.length ∧ ∀ (i : Nat) x y, xs[i]? = some x → ys[i]? = some y → R x y
theorem All2.nil {α β : Type} {R : α → β → Prop} : All2 R [] [] := ⟨rfl, fun i x y h => by simp at h⟩
theorem All2.one {α β : Type} {R : α → β → Prop} {x : α} {y : β} (h : R x y) : All2 R [x] [y] := ⟨rfl, fun i a b h1 h2 => by
  cases i with
  | zero =>
    have e1 : x = a := Option.some.inj h1
    have e2 : y = b := Option.some.inj h2
    subst e1 e2
    exact h
  | succ i => simp at h1⟩
theorem All2.imp {α β : Type} {R S : α → β → Prop} {xs : List α} {ys : List β} (h : All2 R xs ys) (f : ∀ x y, R x y → S x y) : All2 S xs ys := ⟨h.1, fun i x y h1 h2 => f x y (h.2 i x y h1 h2)⟩
theorem All2.append {α β : Type} {R : α → β → Prop} {xs xs' : List α} {ys ys' : List β} (h : All2 R xs ys) (h' : All2 R xs' ys') : All2 R (xs ++ xs') (ys ++ ys') := by
  refine ⟨by rw [List.length_append, List.length_append, h.1, h'.1], fun i x y h1 h2 => ?_⟩
  by_cases c : i < xs.length
  · rw [List.getElem?_append_left c] at h1
    rw [List.getElem?_append_left (by rw [← h.1]; exact c)] at h2
    exact h.2 i x y h1 h2
  · rw [List.getElem?_append_right (by omega)] at h1
    rw [List.getElem?_append_right (by rw [← h.1]; omega), ← h.1] at h2
    exact h'.2 _ x y h1 h2
theorem All2.get {α β : Type} {R : α → β → Prop} {xs : List α} {ys : List β} {i : Nat} {x : α} (h : All2 R xs ys) (hx : xs[i]? = some x) : ∃ y, ys[i]? = some y ∧ R x y := by
  have hi : i < ys.length := by
    rw [← h.1]
    exact (List.getElem?_eq_some_iff.mp hx).1
  exact ⟨ys[i], List.getElem?_eq_getElem hi, h.2 i x _ hx (List.getElem?_eq_getElem hi)⟩
theorem All2.get' {α β : Type} {R : α → β → Prop} {xs : List α} {ys : List β} {i : Nat} {y : β} (h : All2 R xs ys) (hy : ys[i]? = some y) : ∃ x, xs[i]? = some x ∧ R x y := by
  have hi : i < xs.length := by
    rw [h.1]
    exact (List.getElem?_eq_some_iff.mp hy).1
  exact ⟨xs[i], List.getElem?_eq_getElem hi, h.2 i _ y (List.getElem?_eq_getElem hi) hy⟩
/-! ## tuples stand -/
def TM (K : PySem.W.Frag) (H H' : Hp) : Prop := ∀ a xs, SqT K H a xs → SqT K H' a xs
theorem TM.refl {K : PySem.W.Frag} {H : Hp} : TM K H H := fun _ _ h => h
theorem TM.trans {K : PySem.W.Frag} {H H1 H2 : Hp} (a : TM K H H1) (b : TM K H1 H2) : TM K H H2 := fun c xs h => b c xs (a c xs h)
theorem TM.same {K : PySem.W.Frag} {H H' : Hp} (s : Same H H') : TM K H H' := fun a xs h => Same.seqT s h
/-- a list changes, no tuple does -/
theorem TM.lst {K : PySem.W.Frag} {H : Hp} {o : Addr} {l : List V} {x : HO} (h : H o = some (.lst l)) : TM K H (upd H o x) := fun a xs q => by
  rcases q with (q | ⟨u, q⟩) | q
  · exact .inl (.inl (by rw [upd_ne (ne_of q h (by intro e; cases e))]; exact q))
  · exact .inl (.inr ⟨u, by rw [upd_ne (ne_of q h (by intro e; cases e))]; exact q⟩)
  · exact .inr q
/-! ## a hole, a stitch, as they stand in the heap -/
def PlAt (K : PySem.W.Frag) (H : Hp) (v : V) (p : Eb.Place) : Prop := ∃ a, v = .ref a ∧ SqT K H a [.int p.x, .int p.y]
def StAt (K : PySem.W.Frag) (H : Hp) (v : V) (s : Stitch) : Prop := ∃ a x y, v = .ref a ∧ SqT K H a [x, y] ∧ PlAt K H x s.1 ∧ PlAt K H y s.2
theorem PlAt.mono {K : PySem.W.Frag} {H H' : Hp} {v : V} {p : Eb.Place} (t : TM K H H') (h : PlAt K H v p) : PlAt K H' v p := by
  obtain ⟨a, e, q⟩ := h
  exact ⟨a, e, t _ _ q⟩
theorem StAt.mono {K : PySem.W.Frag} {H H' : Hp} {v : V} {p : Stitch} (t : TM K H H') (h : StAt K H v p) : StAt K H' v p := by
  obtain ⟨a, x, y, e, q, q1, q2⟩ := h
  exact ⟨a, x, y, e, t _ _ q, q1.mono t, q2.mono t⟩
/-- a list of holes, of stitches -/
def RowAt (K : PySem.W.Frag) (H : Hp) (v : V) (ps : List Eb.Place) : Prop := ∃ a vs, v = .ref a ∧ SqL K H a vs ∧ All2 (PlAt K H) vs ps
def StsAt (K : PySem.W.Frag) (H : Hp) (v : V) (ss : List Stitch) : Prop := ∃ a vs, v = .ref a ∧ SqL K H a vs ∧ All2 (StAt K H) vs ss
theorem RowAt.mono {K : PySem.W.Frag} {H H' : Hp} {v : V} {ps : List Eb.Place} (s : Same H H') (h : RowAt K H v ps) : RowAt K H' v ps := by
  obtain ⟨a, vs, e, q, r⟩ := h
  exact ⟨a, vs, e, s.seq q, r.imp fun x y z => z.mono (TM.same s)⟩
theorem StsAt.mono {K : PySem.W.Frag} {H H' : Hp} {v : V} {ps : List Stitch} (s : Same H H') (h : StsAt K H v ps) : StsAt K H' v ps := by
  obtain ⟨a, vs, e, q, r⟩ := h
  exact ⟨a, vs, e, s.seq q, r.imp fun x y z => z.mono (TM.same s)⟩
/-! ## range(s, s + 2 n - 1, 2) -/
theorem range2 {s n : Nat} {j : Int} (hs : s + 2 * n ≤ 1000000) (hj : j = ((s + 2 * n : Nat) : Int) - 1) : RgC (s : Int) j 2 n := by
  have e : Builtin.Range.rangeSize (s : Int) j 2 = (n : Int) := by
    unfold Builtin.Range.rangeSize
    rw [if_pos (by decide)]
    by_cases c : (s : Int) < j
    · rw [if_pos c]
      omega
    · rw [if_neg c]
      omega
  refine ⟨by decide, by decide, ?_, e⟩
  unfold Builtin.Range.small
  rw [e]
  simp only [Builtin.Range.rangeFitsLong, Bool.and_eq_true, Bool.or_eq_true, decide_eq_true_eq, beq_iff_eq, show ((2 : Int) > 0) by decide, if_true]
  omega
theorem max_if (a b : Int) : (if b > a then b else a) = max a b := by
  by_cases c : b > a
  · rw [if_pos c]; omega
  · rw [if_neg c]; omega
theorem min_if (a b : Int) : (if b < a then b else a) = min a b := by
  by_cases c : b < a
  · rw [if_pos c]; omega
  · rw [if_neg c]; omega
end TR
namespace TR
open PySem PySem.Spec PyProof.Rows L2
open Eb (Stitch)
/-! ## the text -/
def topS (i : Nat) : Stmt := PySem.Challenge.pw_threadrow_s01_touch.main.body.getD i (.Pass ⟨0, 0, 0, 0⟩)
abbrev s_holes_of : Stmt := topS 3
theorem sc_holes_of : FnScope ["spots", "start", "holes", "k"] ["spots", "start"] (defScope s_holes_of) := ⟨rfl, rfl, rfl, by decide +kernel, rfl, by decide +kernel, by decide +kernel⟩
abbrev s_within : Stmt := topS 4
theorem sc_within : FnScope ["number"] ["number"] (defScope s_within) := ⟨rfl, rfl, rfl, by decide +kernel, rfl, by decide +kernel, by decide +kernel⟩
abbrev s_row_allowed : Stmt := topS 5
theorem sc_row_allowed : FnScope ["holes", "x", "y"] ["holes"] (defScope s_row_allowed) := ⟨rfl, rfl, rfl, by decide +kernel, rfl, by decide +kernel, by decide +kernel⟩
abbrev s_side : Stmt := topS 9
theorem sc_side : FnScope ["a", "b", "c", "ax", "ay", "bx", "by", "cx", "cy"] ["a", "b", "c"] (defScope s_side) := ⟨rfl, rfl, rfl, by decide +kernel, rfl, by decide +kernel, by decide +kernel⟩
abbrev s_spans_meet : Stmt := topS 10
theorem sc_spans_meet : FnScope ["a", "b", "c", "d"] ["a", "b", "c", "d"] (defScope s_spans_meet) := ⟨rfl, rfl, rfl, by decide +kernel, rfl, by decide +kernel, by decide +kernel⟩
abbrev s_boxes_meet : Stmt := topS 11
theorem sc_boxes_meet : FnScope ["one", "other", "a", "b", "c", "d"] ["one", "other"] (defScope s_boxes_meet) := ⟨rfl, rfl, rfl, by decide +kernel, rfl, by decide +kernel, by decide +kernel⟩
abbrev s_not_beside : Stmt := topS 12
theorem sc_not_beside : FnScope ["one", "other", "a", "b", "c", "d", "left", "right"] ["one", "other"] (defScope s_not_beside) := ⟨rfl, rfl, rfl, by decide +kernel, rfl, by decide +kernel, by decide +kernel⟩
abbrev s_stitches_meet : Stmt := topS 13
theorem sc_stitches_meet : FnScope ["one", "other"] ["one", "other"] (defScope s_stitches_meet) := ⟨rfl, rfl, rfl, by decide +kernel, rfl, by decide +kernel, by decide +kernel⟩
abbrev s_any_meet : Stmt := topS 14
theorem sc_any_meet : FnScope ["ways", "others", "one", "other"] ["ways", "others"] (defScope s_any_meet) := ⟨rfl, rfl, rfl, by decide +kernel, rfl, by decide +kernel, by decide +kernel⟩
abbrev s_stitches_of : Stmt := topS 16
theorem sc_stitches_of : FnScope ["holes", "ways", "k"] ["holes"] (defScope s_stitches_of) := ⟨rfl, rfl, rfl, by decide +kernel, rfl, by decide +kernel, by decide +kernel⟩
abbrev s_short_row : Stmt := topS 18
theorem sc_short_row : FnScope ["holes"] ["holes"] (defScope s_short_row) := ⟨rfl, rfl, rfl, by decide +kernel, rfl, by decide +kernel, by decide +kernel⟩
abbrev s_touch : Stmt := topS 19
theorem sc_touch : FnScope ["one", "other", "first", "second"] ["one", "other"] (defScope s_touch) := ⟨rfl, rfl, rfl, by decide +kernel, rfl, by decide +kernel, by decide +kernel⟩
/-- what the top has of built-ins and constants -/
structure Txt (mg : Str → Option Value) : Prop where
  len : mg "len" = none
  range : mg "range" = none
  max : mg "max" = none
  min : mg "min" = none
  list : mg "list" = none
  LOWEST : ∃ t, mg "LOWEST" = some (.int (-30000) t)
  HIGHEST : ∃ t, mg "HIGHEST" = some (.int 30000 t)
  HOLES_OF_A_ROW : ∃ t, mg "HOLES_OF_A_ROW" = some (.int 60 t)
  REFUSED : ∃ t, mg "REFUSED" = some (.int (-1) t)
/-! ## the promises: holes, rows, stitches -/
def inB (z : Int) : Bool := Eb.within (-Eb.EDGE) Eb.EDGE z
def spHoles (K : PySem.W.Frag) : Sp := fun vs H Q _ => ∃ (a : Addr) (xs : List Int) (s : Nat) (ps : List Eb.Place), vs = [.ref a, iv s] ∧ SqL K H a (xs.map V.int) ∧ xs.drop s = flat ps ∧ s ≤ xs.length ∧ xs.length ≤ 1000 ∧
  ∀ (H' : Hp) (r : Addr) (us : List V), Same H H' → H r = none → H' r = some (.lst us) → All2 (PlAt K H') us ps → Q (.ref r) H'
def spWithin : Sp := fun vs H Q _ => ∃ z : Int, vs = [.int z] ∧ Q (.bl (inB z)) H
def spRow (K : PySem.W.Frag) : Sp := fun vs H Q _ => ∃ (v : V) (ps : List Eb.Place), vs = [v] ∧ RowAt K H v ps ∧ Q (.bl (rowAllowed ps)) H
def spSide (K : PySem.W.Frag) : Sp := fun vs H Q _ => ∃ (u v x : V) (a b c : Eb.Place), vs = [u, v, x] ∧ PlAt K H u a ∧ PlAt K H v b ∧ PlAt K H x c ∧ a.ok = true ∧ b.ok = true ∧ c.ok = true ∧ Q (.int (Eb.side a b c)) H
def spSpans : Sp := fun vs H Q _ => ∃ a b c d : Int, vs = [.int a, .int b, .int c, .int d] ∧ Q (.bl (spansMeet a b c d)) H
def spBoxes (K : PySem.W.Frag) : Sp := fun vs H Q _ => ∃ (u v : V) (s t : Stitch), vs = [u, v] ∧ StAt K H u s ∧ StAt K H v t ∧ Q (.bl (boxesMeet s t)) H
def spBeside (K : PySem.W.Frag) : Sp := fun vs H Q _ => ∃ (u v : V) (s t : Stitch), vs = [u, v] ∧ StAt K H u s ∧ StAt K H v t ∧ SOk s ∧ SOk t ∧ Q (.bl (notBeside s t)) H
def spMeets (K : PySem.W.Frag) : Sp := fun vs H Q _ => ∃ (u v : V) (s t : Stitch), vs = [u, v] ∧ StAt K H u s ∧ StAt K H v t ∧ SOk s ∧ SOk t ∧ Q (.bl (meets s t)) H
def spAny (K : PySem.W.Frag) : Sp := fun vs H Q _ => ∃ (u v : V) (a b : List Stitch), vs = [u, v] ∧ StsAt K H u a ∧ StsAt K H v b ∧ (∀ s ∈ a, SOk s) ∧ (∀ s ∈ b, SOk s) ∧ Q (.bl (anyMeet a b)) H
def spStitches (K : PySem.W.Frag) : Sp := fun vs H Q _ => ∃ (v : V) (ps : List Eb.Place), vs = [v] ∧ RowAt K H v ps ∧ 0 < ps.length ∧ ps.length ≤ 1000 ∧
  ∀ (H' : Hp) (r : Addr) (us : List V), Same H H' → H r = none → H' r = some (.lst us) → All2 (StAt K H') us (Eb.stitchesOf ps) → Q (.ref r) H'
section
variable {P : Program} {w : World} {K : PySem.W.Frag} {mg : Str → Option Value} {base : Heap} {f : Addr} {fd : FuncData}
theorem ok_holes_of (F : Fun K "holes_of" "holes_of" s_holes_of f fd) (T : Txt mg) : FnOk P w K mg base CX0 1 f fd ["spots", "start"] (spHoles K) := by
  refine F.ok sc_holes_of (fun vs H Q E h => ?_) (fun cdv A outer s H vs Q E hr h => ?_)
  · obtain ⟨a, xs, s, ps, rfl, _⟩ := h
    rfl
  · obtain ⟨a, xs, st, ps, rfl, hA, hd, hs, hx, q⟩ := h
    refine ⟨_, (pss_cons (ps_set (i := 2) sc_holes_of.nd rfl (Or.inl rfl) (pe_lst pa_nil))
      (pss_cons (ps_for PassesOwn.never rfl (pi_range3 (by rfl) T.range (pa_cons (pv 1) (pa_cons (pe_op op_sub (pe_callB call_len_seq (by rfl) T.len PySem.boot_len (pa_cons (pv 0) pa_nil)) pe_int) (pa_cons pe_int pa_nil)))) (pg_name (i := 3) sc_holes_of.nd rfl (Or.inl rfl))
        (pss_one (ps_expr (pe_bm PySem.F.plainAttrs_list PySem.F.slot_list_append PySem.F.type_list_append mt_append (pv 2) (pa_cons (pe_tup (pa_cons (pe_ix ix_list (pv 0) (pv 3) (fun _ _ => rfl)) (pa_cons (pe_ix ix_list (pv 0) (pe_op op_add (pv 3) pe_int) (fun _ _ => rfl)) pa_nil))) pa_nil)))))
      (pss_one (ps_ret (pv 2))))), ?_⟩
    have hlen : xs.length = st + 2 * ps.length := by
      have := congrArg List.length hd
      rw [List.length_drop, flat_len] at this
      omega
    refine ⟨by decide, fun o ho => ?_⟩
    have s1 : Same H (upd H o (.lst [])) := Same.fresh ho
    refine ⟨_, rfl, _, rfl, a, _, rfl, .inl (s1.seq hA), _, _, rfl, rfl, _, _, _, ps.length, rfl, range2 (s := st) (n := ps.length) (by omega) (by rw [List.length_map, hlen]),
      for_rangeC (n := ps.length) (fun i σ H' => ∃ (us : List V) (v : Option V), σ = [some (.ref a), some (iv st), some (.ref o), v] ∧ Same H H' ∧ H' o = some (.lst us) ∧ All2 (PlAt K H') us (ps.take i))
      ⟨[], none, rfl, s1, upd_same, All2.nil⟩ ?_ ?_⟩
    · rintro i σ H' hi ⟨us, v, rfl, sm, eo, al⟩
      obtain ⟨p, hp⟩ := get_of_lt hi
      obtain ⟨gx, gy⟩ := flat_get hp
      rw [← hd, List.getElem?_drop] at gx gy
      have hA' : SqL K H' a (xs.map V.int) := sm.seq hA
      have gx' : (xs.map V.int)[st + 2 * i]? = some (.int p.x) := by rw [List.getElem?_map, gx]; rfl
      have gy' : (xs.map V.int)[st + (2 * i + 1)]? = some (.int p.y) := by rw [List.getElem?_map, gy]; rfl
      have ax : atI (xs.map V.int) ((st : Int) + (i : Nat) * 2) = some (.int p.x) := at_of (by omega) gx'
      have ay : atI (xs.map V.int) ((st : Int) + (i : Nat) * 2 + 1) = some (.int p.y) := at_of (by omega) gy'
      refine ⟨_, rfl, .inl ⟨rfl, _, SqL.of eo⟩, _, rfl, _, rfl, a, _, _, _, rfl, rfl, hA', ax, _, rfl, _, rfl, _, _, rfl, rfl, a, _, _, _, rfl, rfl, hA', ay, by show 2 ≤ sizeLine; decide, fun t ht => ?_⟩
      have nto : o ≠ t := ne_of_none eo ht
      have eo2 : (upd H' t (.tup [.int p.x, .int p.y])) o = some (.lst us) := by
        rw [upd_ne nto]
        exact eo
      have tm : TM K H' (upd (upd H' t (.tup [.int p.x, .int p.y])) o (.lst (us ++ [.ref t]))) := (TM.same (Same.fresh ht)).trans (TM.lst eo2)
      have hul : us.length = i := by
        rw [al.1, List.length_take]
        omega
      refine ⟨o, us, _, rfl, rfl, eo2, Nat.lt_of_lt_of_le (show us.length < 1000000 by omega) sizeLine_big, us ++ [.ref t], _, rfl, Same.over (sm.trans (Same.fresh ht)) ho, upd_same, ?_⟩
      rw [take_more hp]
      refine (al.imp fun x y z => z.mono tm).append (All2.one ⟨t, rfl, SqT.of ?_⟩)
      rw [upd_ne nto.symm, upd_same]
    · rintro σ H' ⟨us, v, rfl, sm, eo, al⟩
      rw [List.take_length] at al
      exact ⟨_, rfl, q _ o us sm ho eo al⟩
theorem ok_within (F : Fun K "within" "within" s_within f fd) (T : Txt mg) : FnOk P w K mg base CX0 1 f fd ["number"] spWithin := by
  refine F.ok sc_within (fun vs H Q E h => ?_) (fun cdv A outer s H vs Q E hr h => ?_)
  · obtain ⟨z, rfl, _⟩ := h
    rfl
  · obtain ⟨z, rfl, q⟩ := h
    refine ⟨_, (pss_one (ps_ret (pe_and (pe_cmpR op_ge (pv 0) (pe_gi T.LOWEST) (nomark _)) (pe_one (pe_cmpR op_le (pv 0) (pe_gi T.HIGHEST) (nomark _)))))), ?_⟩
    have e : inB z = (decide (-30000 ≤ z) && decide (z ≤ 30000)) := rfl
    rw [e] at q
    refine ⟨_, rfl, _, _, rfl, rfl, _, rfl, ite2 (fun c => ?_) (fun c => ?_)⟩
    · rw [c, Bool.true_and] at q
      exact ⟨_, rfl, _, _, rfl, rfl, q⟩
    · rw [Bool.eq_false_iff.mpr c, Bool.false_and] at q
      exact q
theorem ok_row_allowed (F : Fun K "row_allowed" "row_allowed" s_row_allowed f fd) (T : Txt mg) (C_within : CallOk P w K mg base 1 "within" ["number"] spWithin) : FnOk P w K mg base CX0 2 f fd ["holes"] (spRow K) := by
  refine F.ok sc_row_allowed (fun vs H Q E h => ?_) (fun cdv A outer s H vs Q E hr h => ?_)
  · obtain ⟨v, ps, rfl, _⟩ := h
    rfl
  · obtain ⟨v, ps, rfl, ⟨a, us, rfl, hA, al⟩, q⟩ := h
    refine ⟨_, (pss_cons (ps_if (pt_cmpR op_eq (pe_callB call_len_seq (by rfl) T.len PySem.boot_len (pa_cons (pv 0) pa_nil)) pe_int (nomark _)) (pss_one (ps_ret pe_bl)) pss_nil)
      (pss_cons (ps_for PassesOwn.never rfl (pi_list (pv 0)) (pg_tup rfl (pgs_cons (pg_name (i := 1) sc_row_allowed.nd rfl (Or.inl rfl)) (pgs_cons (pg_name (i := 2) sc_row_allowed.nd rfl (Or.inl rfl)) pgs_nil)))
        (pss_one (ps_if (PW.pt (pw_or (pt_not (pt_val (pe_cf C_within (hr.mono (by decide)) (pa_cons (pv 1) pa_nil)))) (pw_or1 (pt_not (pt_val (pe_cf C_within (hr.mono (by decide)) (pa_cons (pv 2) pa_nil))))))) (pss_one (ps_ret pe_bl)) pss_nil)))
      (pss_one (ps_ret pe_bl)))), ?_⟩
    refine ⟨_, rfl, a, _, rfl, .inl hA, rfl, _, rfl, ite2 (fun c => ?_) (fun c => ?_)⟩
    · have c1 : ps.length = 0 := by
        have := vint_iff.mp c
        rw [al.1] at this
        omega
      have e : rowAllowed ps = false := if_pos c1
      rw [e] at q
      exact q
    have c1 : ps.length ≠ 0 := fun z => c (vint_iff.mpr (by rw [al.1]; omega))
    have e : rowAllowed ps = ps.all Eb.Place.ok := if_neg c1
    rw [e] at q
    refine ⟨_, rfl, a, rfl, ⟨_, hA⟩, for_list (K := K) (a := a) (xs := us)
      (fun i σ H' => ∃ (v v' : Option V), σ = [some (.ref a), v, v'] ∧ H' = H ∧ ps.all Eb.Place.ok = (ps.drop i).all Eb.Place.ok) ⟨none, none, rfl, rfl, rfl⟩ (fun i σ H' _ ⟨_, _, _, e, _⟩ => e ▸ hA) ?_ ?_⟩
    · rintro i y σ H' hy ⟨v, v', rfl, rfl, er⟩
      obtain ⟨p, hp, t, rfl, hT⟩ := al.get hy
      rw [drop_at hp, List.all_cons] at er
      have eok : p.ok = (inB p.x && inB p.y) := rfl
      refine ⟨t, _, rfl, hT, rfl, _, _, rfl, _, _, rfl, rfl, ?_⟩
      refine ⟨_, rfl, _, rfl, _, rfl, ite2 (fun c => iteT ?_) (fun c => ⟨_, rfl, _, rfl, _, rfl, ite2 (fun c2 => ?_) (fun c2 => ?_)⟩)⟩
      · rw [Bool.not_eq_true'] at c
        rw [er, eok, c, Bool.false_and, Bool.false_and] at q
        exact q
      · rw [Bool.not_eq_true'] at c2
        rw [er, eok, c2, Bool.and_false, Bool.false_and] at q
        exact q
      · have k1 : inB p.x = true := by
          cases z : inB p.x with
          | true => rfl
          | false => rw [z] at c; exact absurd rfl c
        have k2 : inB p.y = true := by
          cases z : inB p.y with
          | true => rfl
          | false => rw [z] at c2; exact absurd rfl c2
        refine ⟨_, _, rfl, rfl, ?_⟩
        rw [er, eok, k1, k2]
        rfl
    · rintro σ H' ⟨v, v', rfl, rfl, er⟩
      rw [al.1, List.drop_length] at er
      rw [er] at q
      exact q
theorem ok_side (F : Fun K "side" "side" s_side f fd) : FnOk P w K mg base CX0 1 f fd ["a", "b", "c"] (spSide K) := by
  refine F.ok sc_side (fun vs H Q E h => ?_) (fun cdv A outer s H vs Q E hr h => ?_)
  · obtain ⟨u, v, x, a, b, c, rfl, _⟩ := h
    rfl
  · obtain ⟨u, v, x, a, b, c, rfl, ⟨ta, rfl, hA⟩, ⟨tb, rfl, hB⟩, ⟨tc, rfl, hC⟩, oa, ob, oc, q⟩ := h
    refine ⟨_, (pss_cons (ps_asg (pv 0) (pg_tup rfl (pgs_cons (pg_name (i := 3) sc_side.nd rfl (Or.inl rfl)) (pgs_cons (pg_name (i := 4) sc_side.nd rfl (Or.inl rfl)) pgs_nil))))
      (pss_cons (ps_asg (pv 1) (pg_tup rfl (pgs_cons (pg_name (i := 5) sc_side.nd rfl (Or.inl rfl)) (pgs_cons (pg_name (i := 6) sc_side.nd rfl (Or.inl rfl)) pgs_nil))))
      (pss_cons (ps_asg (pv 2) (pg_tup rfl (pgs_cons (pg_name (i := 7) sc_side.nd rfl (Or.inl rfl)) (pgs_cons (pg_name (i := 8) sc_side.nd rfl (Or.inl rfl)) pgs_nil))))
      (pss_one (ps_ret (pe_op op_sub (pe_op op_mul (pe_op op_sub (pv 5) (pv 3)) (pe_op op_sub (pv 8) (pv 4))) (pe_op op_mul (pe_op op_sub (pv 6) (pv 4)) (pe_op op_sub (pv 7) (pv 3))))))))), ?_⟩
    have ba := ok_bounds oa
    have bb := ok_bounds ob
    have bc := ok_bounds oc
    refine ⟨_, rfl, ta, _, rfl, hA, rfl, _, _, rfl, _, _, rfl, rfl, ?_⟩
    refine ⟨_, rfl, tb, _, rfl, hB, rfl, _, _, rfl, _, _, rfl, rfl, ?_⟩
    refine ⟨_, rfl, tc, _, rfl, hC, rfl, _, _, rfl, _, _, rfl, rfl, ?_⟩
    refine ⟨_, rfl, _, rfl, _, _, rfl, rfl, _, rfl, _, rfl, _, _, rfl, rfl, _, _, rfl, rfl, .inl ⟨by omega, by omega⟩,
      _, rfl, _, rfl, _, _, rfl, rfl, _, rfl, _, rfl, _, _, rfl, rfl, _, _, rfl, rfl, .inl ⟨by omega, by omega⟩, _, _, rfl, rfl, ?_⟩
    exact q
theorem ok_spans_meet (F : Fun K "spans_meet" "spans_meet" s_spans_meet f fd) (T : Txt mg) : FnOk P w K mg base CX0 1 f fd ["a", "b", "c", "d"] spSpans := by
  refine F.ok sc_spans_meet (fun vs H Q E h => ?_) (fun cdv A outer s H vs Q E hr h => ?_)
  · obtain ⟨a, b, c, d, rfl, _⟩ := h
    rfl
  · obtain ⟨a, b, c, d, rfl, q⟩ := h
    refine ⟨_, (pss_one (ps_ret (pe_and (pe_cmpR op_ge (pe_callB (call_max2 rfl) (by rfl) T.max (by decide +kernel) (pa_cons (pv 0) (pa_cons (pv 1) pa_nil))) (pe_callB (call_min2 rfl) (by rfl) T.min (by decide +kernel) (pa_cons (pv 2) (pa_cons (pv 3) pa_nil))) (nomark _)) (pe_one (pe_cmpR op_ge (pe_callB (call_max2 rfl) (by rfl) T.max (by decide +kernel) (pa_cons (pv 2) (pa_cons (pv 3) pa_nil))) (pe_callB (call_min2 rfl) (by rfl) T.min (by decide +kernel) (pa_cons (pv 0) (pa_cons (pv 1) pa_nil))) (nomark _)))))), ?_⟩
    have e : spansMeet a b c d = (decide ((if d < c then d else c) ≤ (if b > a then b else a)) && decide ((if b < a then b else a) ≤ (if d > c then d else c))) := by
      rw [max_if, min_if, max_if, min_if]
      rfl
    rw [e] at q
    refine ⟨_, rfl, _, rfl, _, _, rfl, _, rfl, _, rfl, _, _, rfl, _, _, rfl, rfl, _, rfl, ite2 (fun c1 => ?_) (fun c1 => ?_)⟩
    · rw [c1, Bool.true_and] at q
      exact ⟨_, rfl, _, rfl, _, _, rfl, _, rfl, _, rfl, _, _, rfl, _, _, rfl, rfl, q⟩
    · rw [Bool.eq_false_iff.mpr c1, Bool.false_and] at q
      exact q
theorem ok_boxes_meet (F : Fun K "boxes_meet" "boxes_meet" s_boxes_meet f fd) (C_spans_meet : CallOk P w K mg base 1 "spans_meet" ["a", "b", "c", "d"] spSpans) : FnOk P w K mg base CX0 2 f fd ["one", "other"] (spBoxes K) := by
  refine F.ok sc_boxes_meet (fun vs H Q E h => ?_) (fun cdv A outer s H vs Q E hr h => ?_)
  · obtain ⟨u, v, s, t, rfl, _⟩ := h
    rfl
  · obtain ⟨u, v, s, t, rfl, ⟨ta, _, _, rfl, hA, ⟨pa, rfl, hpa⟩, ⟨pb, rfl, hpb⟩⟩, ⟨tb, _, _, rfl, hB, ⟨pc, rfl, hpc⟩, ⟨pd, rfl, hpd⟩⟩, q⟩ := h
    refine ⟨_, (pss_cons (ps_asg (pv 0) (pg_tup rfl (pgs_cons (pg_name (i := 2) sc_boxes_meet.nd rfl (Or.inl rfl)) (pgs_cons (pg_name (i := 3) sc_boxes_meet.nd rfl (Or.inl rfl)) pgs_nil))))
      (pss_cons (ps_asg (pv 1) (pg_tup rfl (pgs_cons (pg_name (i := 4) sc_boxes_meet.nd rfl (Or.inl rfl)) (pgs_cons (pg_name (i := 5) sc_boxes_meet.nd rfl (Or.inl rfl)) pgs_nil))))
      (pss_one (ps_ret (pe_and (pe_cf C_spans_meet (hr.mono (by decide)) (pa_cons (pe_ix ix_tup (pv 2) pe_int (fun _ _ => rfl)) (pa_cons (pe_ix ix_tup (pv 3) pe_int (fun _ _ => rfl)) (pa_cons (pe_ix ix_tup (pv 4) pe_int (fun _ _ => rfl)) (pa_cons (pe_ix ix_tup (pv 5) pe_int (fun _ _ => rfl)) pa_nil))))) (pe_one (pe_cf C_spans_meet (hr.mono (by decide)) (pa_cons (pe_ix ix_tup (pv 2) pe_int (fun _ _ => rfl)) (pa_cons (pe_ix ix_tup (pv 3) pe_int (fun _ _ => rfl)) (pa_cons (pe_ix ix_tup (pv 4) pe_int (fun _ _ => rfl)) (pa_cons (pe_ix ix_tup (pv 5) pe_int (fun _ _ => rfl)) pa_nil))))))))))), ?_⟩
    refine ⟨_, rfl, ta, _, rfl, hA, rfl, _, _, rfl, _, _, rfl, rfl, ?_⟩
    refine ⟨_, rfl, tb, _, rfl, hB, rfl, _, _, rfl, _, _, rfl, rfl, ?_⟩
    refine ⟨_, rfl, pa, _, _, _, rfl, rfl, hpa, atI_nat (j := 0) rfl, _, rfl, pb, _, _, _, rfl, rfl, hpb, atI_nat (j := 0) rfl, _, rfl, pc, _, _, _, rfl, rfl, hpc, atI_nat (j := 0) rfl, _, rfl, pd, _, _, _, rfl, rfl, hpd, atI_nat (j := 0) rfl,
      _, _, _, _, rfl, _, rfl, ite2 (fun c => ?_) (fun c => ?_)⟩
    · refine ⟨_, rfl, pa, _, _, _, rfl, rfl, hpa, atI_nat (j := 1) rfl, _, rfl, pb, _, _, _, rfl, rfl, hpb, atI_nat (j := 1) rfl, _, rfl, pc, _, _, _, rfl, rfl, hpc, atI_nat (j := 1) rfl, _, rfl, pd, _, _, _, rfl, rfl, hpd, atI_nat (j := 1) rfl,
        _, _, _, _, rfl, ?_⟩
      have e : boxesMeet s t = spansMeet s.1.y s.2.y t.1.y t.2.y := by
        unfold boxesMeet
        rw [c, Bool.true_and]
      rw [e] at q
      exact q
    · have e : boxesMeet s t = false := by
        unfold boxesMeet
        rw [Bool.eq_false_iff.mpr c, Bool.false_and]
      rw [e] at q
      exact q
theorem ok_not_beside (F : Fun K "not_beside" "not_beside" s_not_beside f fd) (C_side : CallOk P w K mg base 1 "side" ["a", "b", "c"] (spSide K)) : FnOk P w K mg base CX0 2 f fd ["one", "other"] (spBeside K) := by
  refine F.ok sc_not_beside (fun vs H Q E h => ?_) (fun cdv A outer s H vs Q E hr h => ?_)
  · obtain ⟨u, v, s, t, rfl, _⟩ := h
    rfl
  · obtain ⟨u, v, s, t, rfl, ⟨ta, xa, xb, rfl, hA, hpa, hpb⟩, ⟨tb, xc, xd, rfl, hB, hpc, hpd⟩, so, to, q⟩ := h
    refine ⟨_, (pss_cons (ps_asg (pv 0) (pg_tup rfl (pgs_cons (pg_name (i := 2) sc_not_beside.nd rfl (Or.inl rfl)) (pgs_cons (pg_name (i := 3) sc_not_beside.nd rfl (Or.inl rfl)) pgs_nil))))
      (pss_cons (ps_asg (pv 1) (pg_tup rfl (pgs_cons (pg_name (i := 4) sc_not_beside.nd rfl (Or.inl rfl)) (pgs_cons (pg_name (i := 5) sc_not_beside.nd rfl (Or.inl rfl)) pgs_nil))))
      (pss_cons (ps_set (i := 6) sc_not_beside.nd rfl (Or.inl rfl) (pe_cf C_side (hr.mono (by decide)) (pa_cons (pv 2) (pa_cons (pv 3) (pa_cons (pv 4) pa_nil)))))
      (pss_cons (ps_set (i := 7) sc_not_beside.nd rfl (Or.inl rfl) (pe_cf C_side (hr.mono (by decide)) (pa_cons (pv 2) (pa_cons (pv 3) (pa_cons (pv 5) pa_nil)))))
      (pss_cons (ps_if (PW.pt (pw_and (pt_cmpR op_gt (pv 6) pe_int (nomark _)) (pw_and1 (pt_cmpR op_gt (pv 7) pe_int (nomark _))))) (pss_one (ps_ret pe_bl)) pss_nil)
      (pss_one (ps_ret (pe_not (pe_and (pe_cmpR op_lt (pv 6) pe_int (nomark _)) (pe_one (pe_cmpR op_lt (pv 7) pe_int (nomark _)))))))))))), ?_⟩
    refine ⟨_, rfl, ta, _, rfl, hA, rfl, _, _, rfl, _, _, rfl, rfl, ?_⟩
    refine ⟨_, rfl, tb, _, rfl, hB, rfl, _, _, rfl, _, _, rfl, rfl, ?_⟩
    refine ⟨_, rfl, _, rfl, _, rfl, _, _, _, s.1, s.2, t.1, rfl, hpa, hpb, hpc, so.1, so.2, to.1, ?_⟩
    refine ⟨_, rfl, _, rfl, _, rfl, _, _, _, s.1, s.2, t.2, rfl, hpa, hpb, hpd, so.1, so.2, to.2, ?_⟩
    have tail : ¬ (Eb.side s.1 s.2 t.1 > 0 ∧ Eb.side s.1 s.2 t.2 > 0) → notBeside s t = !(decide (Eb.side s.1 s.2 t.1 < 0) && decide (Eb.side s.1 s.2 t.2 < 0)) := fun c => if_neg c
    have last : (!(decide (Eb.side s.1 s.2 t.1 < 0) && decide (Eb.side s.1 s.2 t.2 < 0))) = notBeside s t → ∃ v, some (V.int (Eb.side s.1 s.2 t.1)) = some v ∧ True := fun _ => ⟨_, rfl, trivial⟩
    refine ⟨_, rfl, _, _, rfl, rfl, _, rfl, ite2 (fun c => ⟨_, rfl, _, _, rfl, rfl, _, rfl, ite2 (fun c2 => ?_) (fun c2 => ?_)⟩) (fun c => iteF ?_)⟩
    · have e : notBeside s t = false := if_pos ⟨of_decide_eq_true c, of_decide_eq_true c2⟩
      rw [e] at q
      exact q
    · rw [tail (fun h => c2 (decide_eq_true h.2))] at q
      refine ⟨_, rfl, _, _, rfl, rfl, _, rfl, ite2 (fun c3 => ⟨_, rfl, _, _, rfl, rfl, _, rfl, ?_⟩) (fun c3 => ⟨_, rfl, ?_⟩)⟩
      · rw [c3, Bool.true_and] at q
        exact q
      · rw [Bool.eq_false_iff.mpr c3, Bool.false_and] at q
        exact q
    · rw [tail (fun h => c (decide_eq_true h.1))] at q
      refine ⟨_, rfl, _, _, rfl, rfl, _, rfl, ite2 (fun c3 => ⟨_, rfl, _, _, rfl, rfl, _, rfl, ?_⟩) (fun c3 => ⟨_, rfl, ?_⟩)⟩
      · rw [c3, Bool.true_and] at q
        exact q
      · rw [Bool.eq_false_iff.mpr c3, Bool.false_and] at q
        exact q
theorem ok_stitches_meet (F : Fun K "stitches_meet" "stitches_meet" s_stitches_meet f fd) (C_boxes_meet : CallOk P w K mg base 2 "boxes_meet" ["one", "other"] (spBoxes K)) (C_not_beside : CallOk P w K mg base 2 "not_beside" ["one", "other"] (spBeside K)) : FnOk P w K mg base CX0 3 f fd ["one", "other"] (spMeets K) := by
  refine F.ok sc_stitches_meet (fun vs H Q E h => ?_) (fun cdv A outer s H vs Q E hr h => ?_)
  · obtain ⟨u, v, s, t, rfl, _⟩ := h
    rfl
  · obtain ⟨u, v, s, t, rfl, hu, hv, so, to, q⟩ := h
    refine ⟨_, (pss_cons (ps_if (pt_not (pt_val (pe_cf C_boxes_meet (hr.mono (by decide)) (pa_cons (pv 0) (pa_cons (pv 1) pa_nil))))) (pss_one (ps_ret pe_bl)) pss_nil)
      (pss_one (ps_ret (pe_and (pe_cf C_not_beside (hr.mono (by decide)) (pa_cons (pv 0) (pa_cons (pv 1) pa_nil))) (pe_one (pe_cf C_not_beside (hr.mono (by decide)) (pa_cons (pv 1) (pa_cons (pv 0) pa_nil)))))))), ?_⟩
    refine ⟨_, rfl, _, rfl, _, _, s, t, rfl, hu, hv, _, rfl, ite2 (fun c => ?_) (fun c => ?_)⟩
    · rw [Bool.not_eq_true'] at c
      have e : meets s t = false := if_neg (by rw [c]; exact Bool.false_ne_true)
      rw [e] at q
      exact q
    have c1 : boxesMeet s t = true := by
      cases z : boxesMeet s t with
      | true => rfl
      | false => rw [z] at c; exact absurd rfl c
    have e : meets s t = (notBeside s t && notBeside t s) := if_pos c1
    rw [e] at q
    refine ⟨_, rfl, _, rfl, _, _, s, t, rfl, hu, hv, so, to, _, rfl, ite2 (fun c2 => ?_) (fun c2 => ?_)⟩
    · rw [c2, Bool.true_and] at q
      exact ⟨_, rfl, _, rfl, _, _, t, s, rfl, hv, hu, to, so, q⟩
    · rw [Bool.eq_false_iff.mpr c2, Bool.false_and] at q
      exact q
theorem ok_any_meet (F : Fun K "any_meet" "any_meet" s_any_meet f fd) (C_stitches_meet : CallOk P w K mg base 3 "stitches_meet" ["one", "other"] (spMeets K)) : FnOk P w K mg base CX0 4 f fd ["ways", "others"] (spAny K) := by
  refine F.ok sc_any_meet (fun vs H Q E h => ?_) (fun cdv A outer s H vs Q E hr h => ?_)
  · obtain ⟨u, v, a, b, rfl, _⟩ := h
    rfl
  · obtain ⟨u, v, a, b, rfl, ⟨aa, us, rfl, hA, al⟩, ⟨ba, ws, rfl, hB, bl⟩, oa, ob, q⟩ := h
    refine ⟨_, (pss_cons (ps_for PassesOwn.never rfl (pi_list (pv 0)) (pg_name (i := 2) sc_any_meet.nd rfl (Or.inl rfl))
        (pss_one (ps_for PassesOwn.never rfl (pi_list (pv 1)) (pg_name (i := 3) sc_any_meet.nd rfl (Or.inl rfl))
          (pss_one (ps_if (pt_val (pe_cf C_stitches_meet (hr.mono (by decide)) (pa_cons (pv 2) (pa_cons (pv 3) pa_nil)))) (pss_one (ps_ret pe_bl)) pss_nil)))))
      (pss_one (ps_ret pe_bl))), ?_⟩
    refine ⟨_, rfl, aa, rfl, ⟨_, hA⟩, for_list (K := K) (a := aa) (xs := us)
      (fun i σ H' => ∃ (v v' : Option V), σ = [some (.ref aa), some (.ref ba), v, v'] ∧ H' = H ∧ anyMeet a b = anyMeet (a.drop i) b) ⟨none, none, rfl, rfl, rfl⟩ (fun i σ H' _ ⟨_, _, _, e, _⟩ => e ▸ hA) ?_ ?_⟩
    · rintro i y σ H' hy ⟨v, v', rfl, rfl, er⟩
      obtain ⟨s, hs, hst⟩ := al.get hy
      have os := oa s (List.mem_of_getElem? hs)
      have er2 : anyMeet a b = ((b.any fun t => meets s t) || anyMeet (a.drop (i + 1)) b) := by
        rw [er, drop_at hs]
        rfl
      refine ⟨_, rfl, ba, rfl, ⟨_, hB⟩, for_list (K := K) (a := ba) (xs := ws)
        (fun k σ H2 => ∃ (v' : Option V), σ = [some (.ref aa), some (.ref ba), some y, v'] ∧ H2 = H' ∧ (b.any fun t => meets s t) = ((b.drop k).any fun t => meets s t)) ⟨v', rfl, rfl, rfl⟩ (fun i σ H2 _ ⟨_, _, e, _⟩ => e ▸ hB) ?_ ?_⟩
      · rintro k z σ H2 hz ⟨v', rfl, rfl, ek⟩
        obtain ⟨t, ht, htt⟩ := bl.get hz
        have ot := ob t (List.mem_of_getElem? ht)
        rw [drop_at ht, List.any_cons] at ek
        refine ⟨_, rfl, _, rfl, _, _, s, t, rfl, hst, htt, os, ot, _, rfl, ite2 (fun c => ?_) (fun c => ?_)⟩
        · rw [c, Bool.true_or] at ek
          rw [er2, ek, Bool.true_or] at q
          exact q
        · rw [Bool.eq_false_iff.mpr c, Bool.false_or] at ek
          exact ⟨some z, rfl, rfl, ek⟩
      · rintro σ H2 ⟨v', rfl, rfl, ek⟩
        rw [bl.1, List.drop_length] at ek
        refine ⟨some y, v', rfl, rfl, ?_⟩
        rw [er2, ek]
        rfl
    · rintro σ H' ⟨v, v', rfl, rfl, er⟩
      rw [al.1, List.drop_length] at er
      rw [er] at q
      exact q
theorem ok_stitches_of (F : Fun K "stitches_of" "stitches_of" s_stitches_of f fd) (T : Txt mg) : FnOk P w K mg base CX0 1 f fd ["holes"] (spStitches K) := by
  refine F.ok sc_stitches_of (fun vs H Q E h => ?_) (fun cdv A outer s H vs Q E hr h => ?_)
  · obtain ⟨v, ps, rfl, _⟩ := h
    rfl
  · obtain ⟨v, ps, rfl, ⟨a, us, rfl, hA, al⟩, hp, hl, q⟩ := h
    refine ⟨_, (pss_cons (ps_if (pt_cmpR op_eq (pe_callB call_len_seq (by rfl) T.len PySem.boot_len (pa_cons (pv 0) pa_nil)) pe_int (nomark _)) (pss_one (ps_ret (pe_lst (pa_cons (pe_tup (pa_cons (pe_ix ix_list (pv 0) pe_int (fun _ _ => rfl)) (pa_cons (pe_ix ix_list (pv 0) pe_int (fun _ _ => rfl)) pa_nil))) pa_nil)))) pss_nil)
      (pss_cons (ps_set (i := 1) sc_stitches_of.nd rfl (Or.inl rfl) (pe_lst pa_nil))
      (pss_cons (ps_for PassesOwn.never rfl (pi_range1 (by rfl) T.range (pa_cons (pe_op op_sub (pe_callB call_len_seq (by rfl) T.len PySem.boot_len (pa_cons (pv 0) pa_nil)) pe_int) pa_nil)) (pg_name (i := 2) sc_stitches_of.nd rfl (Or.inl rfl))
        (pss_one (ps_expr (pe_bm PySem.F.plainAttrs_list PySem.F.slot_list_append PySem.F.type_list_append mt_append (pv 1) (pa_cons (pe_tup (pa_cons (pe_ix ix_list (pv 0) (pv 2) (fun _ _ => rfl)) (pa_cons (pe_ix ix_list (pv 0) (pe_op op_add (pv 2) pe_int) (fun _ _ => rfl)) pa_nil))) pa_nil)))))
      (pss_one (ps_ret (pv 1)))))), ?_⟩
    refine ⟨_, rfl, a, _, rfl, .inl hA, rfl, _, rfl, ite2 (fun c => ?_) (fun c => ?_)⟩
    · have c1 : ps.length = 1 := by
        have := vint_iff.mp c
        rw [al.1] at this
        omega
      obtain ⟨p, hp0⟩ := get_of_lt hp
      obtain ⟨x, hx, hpl⟩ := al.get' hp0
      have ax : atI us 0 = some x := atI_nat (j := 0) hx
      refine ⟨_, rfl, a, _, _, _, rfl, rfl, hA, ax, _, rfl, a, _, _, _, rfl, rfl, hA, ax, by show 2 ≤ sizeLine; decide, fun t ht => ⟨by show 1 ≤ sizeLine; decide, fun r hr2 => ?_⟩⟩
      have s1 : Same H (upd H t (.tup [x, x])) := Same.fresh ht
      have s2 : Same H (upd (upd H t (.tup [x, x])) r (.lst [.ref t])) := s1.trans (Same.fresh hr2)
      have ntr : t ≠ r := fun z => by
        rw [← z, upd_same] at hr2
        cases hr2
      refine q _ r [.ref t] s2 (s1.free hr2) upd_same ?_
      rw [stitches_one c1 hp0]
      refine All2.one ⟨t, x, x, rfl, SqT.of ?_, hpl.mono (TM.same s2), hpl.mono (TM.same s2)⟩
      rw [upd_ne ntr, upd_same]
    have c1 : ps.length ≠ 1 := fun z => c (vint_iff.mpr (by rw [al.1]; omega))
    refine ⟨by decide, fun o ho => ?_⟩
    have s1 : Same H (upd H o (.lst [])) := Same.fresh ho
    refine ⟨_, rfl, a, _, rfl, .inl (s1.seq hA), _, _, rfl, rfl, _, rfl, by rw [al.1]; omega, by rw [al.1]; omega, for_rng0 (n := ps.length - 1) (by rw [al.1]; omega)
      (fun i σ H' => ∃ (ws : List V) (v : Option V), σ = [some (.ref a), some (.ref o), v] ∧ Same H H' ∧ H' o = some (.lst ws) ∧ All2 (StAt K H') ws ((Eb.pairsOf ps).take i)) ⟨[], none, rfl, s1, upd_same, All2.nil⟩ ?_ ?_⟩
    · rintro i σ H' hi ⟨ws, v, rfl, sm, eo, wl⟩
      obtain ⟨p, hp1⟩ := get_of_lt (show i < ps.length by omega)
      obtain ⟨p', hp2⟩ := get_of_lt (show i + 1 < ps.length by omega)
      obtain ⟨x, hx, hpx⟩ := al.get' hp1
      obtain ⟨y, hy, hpy⟩ := al.get' hp2
      have hA' : SqL K H' a us := sm.seq hA
      have ax : atI us (i : Int) = some x := atI_nat hx
      have ay : atI us ((i : Int) + 1) = some y := at_of (by omega) hy
      refine ⟨_, rfl, .inl ⟨rfl, _, SqL.of eo⟩, _, rfl, _, rfl, a, _, _, _, rfl, rfl, hA', ax, _, rfl, _, rfl, _, _, rfl, rfl, a, _, _, _, rfl, rfl, hA', ay, by show 2 ≤ sizeLine; decide, fun t ht => ?_⟩
      have nto : o ≠ t := ne_of_none eo ht
      have eo2 : (upd H' t (.tup [x, y])) o = some (.lst ws) := by
        rw [upd_ne nto]
        exact eo
      have tm : TM K H' (upd (upd H' t (.tup [x, y])) o (.lst (ws ++ [.ref t]))) := (TM.same (Same.fresh ht)).trans (TM.lst eo2)
      have hul : ws.length ≤ i := by
        rw [wl.1, List.length_take]
        omega
      have tm0 : TM K H (upd (upd H' t (.tup [x, y])) o (.lst (ws ++ [.ref t]))) := (TM.same sm).trans tm
      refine ⟨o, ws, _, rfl, rfl, eo2, Nat.lt_of_lt_of_le (show ws.length < 1000000 by omega) sizeLine_big, ws ++ [.ref t], _, rfl, Same.over (sm.trans (Same.fresh ht)) ho, upd_same, ?_⟩
      rw [take_more (pairs_get hp1 hp2)]
      refine (wl.imp fun x y z => z.mono tm).append (All2.one ⟨t, x, y, rfl, SqT.of ?_, hpx.mono tm0, hpy.mono tm0⟩)
      rw [upd_ne nto.symm, upd_same]
    · rintro σ H' ⟨ws, v, rfl, sm, eo, wl⟩
      rw [List.take_of_length_le (by rw [pairs_len]; exact Nat.le_refl _), ← stitches_more c1] at wl
      exact ⟨_, rfl, q _ o ws sm ho eo wl⟩
end
end TR
namespace TR
open PySem PySem.Spec PyProof.Rows L2
open Eb (Stitch)
def spShort (K : PySem.W.Frag) : Sp := fun vs H Q _ => ∃ (v : V) (ps : List Eb.Place), vs = [v] ∧ RowAt K H v ps ∧ Q (.bl (shortRow ps)) H
def spTouch (K : PySem.W.Frag) : Sp := fun vs H Q _ => ∃ (a b : Addr) (ps qs : List Eb.Place), vs = [.ref a, .ref b] ∧ SqL K H a ((flat ps).map V.int) ∧ SqL K H b ((flat qs).map V.int) ∧ (flat ps).length ≤ 200 ∧ (flat qs).length ≤ 200 ∧
  ∀ (H' : Hp) (p : Addr), H' p = some (.lst ((touchM ps qs).map V.int)) → Q (.ref p) H'
section
variable {P : Program} {w : World} {K : PySem.W.Frag} {mg : Str → Option Value} {base : Heap} {f : Addr} {fd : FuncData}
theorem ok_short_row (F : Fun K "short_row" "short_row" s_short_row f fd) (T : Txt mg) (C_row_allowed : CallOk P w K mg base 2 "row_allowed" ["holes"] (spRow K)) : FnOk P w K mg base CX0 3 f fd ["holes"] (spShort K) := by
  refine F.ok sc_short_row (fun vs H Q E h => ?_) (fun cdv A outer s H vs Q E hr h => ?_)
  · obtain ⟨v, ps, rfl, _⟩ := h
    rfl
  · obtain ⟨v, ps, rfl, hR, q⟩ := h
    refine ⟨_, (pss_one (ps_ret (pe_and (pe_cf C_row_allowed (hr.mono (by decide)) (pa_cons (pv 0) pa_nil)) (pe_one (pe_cmpR op_le (pe_callB call_len_seq (by rfl) T.len PySem.boot_len (pa_cons (pv 0) pa_nil)) (pe_gi T.HOLES_OF_A_ROW) (nomark _)))))), ?_⟩
    refine ⟨_, rfl, _, ps, rfl, hR, _, rfl, ite2 (fun c => ?_) (fun c => ?_)⟩
    · obtain ⟨a, us, rfl, hA, al⟩ := hR
      refine ⟨_, rfl, a, _, rfl, .inl hA, _, _, rfl, rfl, ?_⟩
      have e : shortRow ps = decide ((us.length : Int) ≤ 60) := by
        unfold shortRow
        rw [c, Bool.true_and, al.1]
        exact decide_eq_decide.mpr ⟨fun h => by omega, fun h => by omega⟩
      rw [e] at q
      exact q
    · have e : shortRow ps = false := by
        unfold shortRow
        rw [Bool.eq_false_iff.mpr c, Bool.false_and]
      rw [e] at q
      exact q
theorem ok_touch (F : Fun K "touch" "touch" s_touch f fd) (T : Txt mg) (C_holes_of : CallOk P w K mg base 1 "holes_of" ["spots", "start"] (spHoles K)) (C_short_row : CallOk P w K mg base 3 "short_row" ["holes"] (spShort K))
    (C_stitches_of : CallOk P w K mg base 1 "stitches_of" ["holes"] (spStitches K)) (C_any_meet : CallOk P w K mg base 4 "any_meet" ["ways", "others"] (spAny K)) : FnOk P w K mg base CX0 5 f fd ["one", "other"] (spTouch K) := by
  refine F.ok sc_touch (fun vs H Q E h => ?_) (fun cdv A outer s H vs Q E hr h => ?_)
  · obtain ⟨a, b, ps, qs, rfl, _⟩ := h
    rfl
  · obtain ⟨a, b, ps, qs, rfl, hA, hB, la, lb, q⟩ := h
    refine ⟨_, (pss_cons (ps_set (i := 2) sc_touch.nd rfl (Or.inl rfl) (pe_cf C_holes_of (hr.mono (by decide)) (pa_cons (pe_callTy call_list_of (by rfl) T.list (by decide +kernel) (pa_cons (pv 0) pa_nil)) (pa_cons pe_int pa_nil))))
      (pss_cons (ps_set (i := 3) sc_touch.nd rfl (Or.inl rfl) (pe_cf C_holes_of (hr.mono (by decide)) (pa_cons (pe_callTy call_list_of (by rfl) T.list (by decide +kernel) (pa_cons (pv 1) pa_nil)) (pa_cons pe_int pa_nil))))
      (pss_cons (ps_if (PW.pt (pw_or (pt_not (pt_val (pe_cf C_short_row (hr.mono (by decide)) (pa_cons (pv 2) pa_nil)))) (pw_or1 (pt_not (pt_val (pe_cf C_short_row (hr.mono (by decide)) (pa_cons (pv 3) pa_nil))))))) (pss_one (ps_ret (pe_lst (pa_cons (pe_gi T.REFUSED) pa_nil)))) pss_nil)
      (pss_cons (ps_if (pt_val (pe_cf C_any_meet (hr.mono (by decide)) (pa_cons (pe_cf C_stitches_of (hr.mono (by decide)) (pa_cons (pv 2) pa_nil)) (pa_cons (pe_cf C_stitches_of (hr.mono (by decide)) (pa_cons (pv 3) pa_nil)) pa_nil)))) (pss_one (ps_ret (pe_lst (pa_cons pe_int pa_nil)))) pss_nil)
      (pss_one (ps_ret (pe_lst (pa_cons pe_int pa_nil)))))))), ?_⟩
    refine ⟨_, rfl, a, _, rfl, .inl hA, fun l hl => ⟨l, flat ps, 0, ps, rfl, SqL.of upd_same, rfl, Nat.zero_le _, by omega, fun H1 r1 us sm1 _ er1 al1 => ?_⟩⟩
    have s1 : Same H H1 := (Same.fresh hl).trans sm1
    refine ⟨_, rfl, b, _, rfl, .inl (s1.seq hB), fun l2 hl2 => ⟨l2, flat qs, 0, qs, rfl, SqL.of upd_same, rfl, Nat.zero_le _, by omega, fun H2 r2 ws sm2 _ er2 al2 => ?_⟩⟩
    have s2 : Same H1 H2 := (Same.fresh hl2).trans sm2
    have R1 : RowAt K H2 (.ref r1) ps := RowAt.mono s2 ⟨r1, us, rfl, SqL.of er1, al1⟩
    have R2 : RowAt K H2 (.ref r2) qs := ⟨r2, ws, rfl, SqL.of er2, al2⟩
    have bad : ∀ (H' : Hp) (p : Addr), touchM ps qs = [-1] → H' p = some (.lst [V.int (-1)]) → Q (.ref p) H' := fun H' p e h => q H' p (by rw [e]; exact h)
    refine ⟨_, rfl, _, ps, rfl, R1, _, rfl, ite2 (fun c => iteT ?_) (fun c => ⟨_, rfl, _, qs, rfl, R2, _, rfl, ite2 (fun c2 => ?_) (fun c2 => ?_)⟩)⟩
    · rw [Bool.not_eq_true'] at c
      refine ⟨by decide, fun p hp => bad _ p ?_ upd_same⟩
      unfold touchM
      rw [if_neg (by rw [c]; exact Bool.false_ne_true)]
    · rw [Bool.not_eq_true'] at c2
      refine ⟨by decide, fun p hp => bad _ p ?_ upd_same⟩
      unfold touchM
      rw [if_neg (show ¬ shortRow qs = true by rw [c2]; exact Bool.false_ne_true)]
      split <;> rfl
    have k1 : shortRow ps = true := by
      cases z : shortRow ps with
      | true => rfl
      | false => rw [z] at c; exact absurd rfl c
    have k2 : shortRow qs = true := by
      cases z : shortRow qs with
      | true => rfl
      | false => rw [z] at c2; exact absurd rfl c2
    have o1 := rowAllowed_ok (Bool.and_eq_true_iff.mp k1).1
    have o2 := rowAllowed_ok (Bool.and_eq_true_iff.mp k2).1
    have l1 : ps.length ≤ 1000 := by
      rw [flat_len] at la
      omega
    have l2 : qs.length ≤ 1000 := by
      rw [flat_len] at lb
      omega
    refine ⟨_, rfl, _, ps, rfl, R1, o1.1, l1, fun H3 r3 us3 sm3 _ er3 al3 => ?_⟩
    refine ⟨_, rfl, _, qs, rfl, RowAt.mono sm3 R2, o2.1, l2, fun H4 r4 us4 sm4 _ er4 al4 => ?_⟩
    have e : touchM ps qs = if anyMeet (Eb.stitchesOf ps) (Eb.stitchesOf qs) = true then [1] else [0] := by
      unfold touchM
      rw [if_pos k1, if_pos k2]
    refine ⟨_, _, _, _, rfl, StsAt.mono sm4 ⟨r3, us3, rfl, SqL.of er3, al3⟩, ⟨r4, us4, rfl, SqL.of er4, al4⟩, stitches_ok o1.2, stitches_ok o2.2, _, rfl, ite2 (fun c3 => ?_) (fun c3 => ?_)⟩
    · rw [if_pos c3] at e
      exact ⟨by show 1 ≤ sizeLine; decide, fun p hp => q _ p (by rw [e]; exact upd_same)⟩
    · rw [if_neg c3] at e
      exact ⟨by show 1 ≤ sizeLine; decide, fun p hp => q _ p (by rw [e]; exact upd_same)⟩
end
end TR
namespace TR
open PySem PySem.Spec PyProof.Rows L2
/-! ## what the top has written -/
theorem all_mk {P : Program} {w : World} {K : PySem.W.Frag} {h : Heap} {mg : Str → Option Value} {fa : Addr} (X : K.In h) (G : h.Ns mainGlobals mg) (hfa : mg "touch" = some (.ref fa))
    {f_holes_of f_within f_row_allowed f_side f_spans_meet f_boxes_meet f_not_beside f_stitches_meet f_any_meet f_stitches_of f_short_row f_touch : Addr} {od_holes_of an_holes_of od_within an_within od_row_allowed an_row_allowed od_side an_side od_spans_meet an_spans_meet od_boxes_meet an_boxes_meet od_not_beside an_not_beside od_stitches_meet an_stitches_meet od_any_meet an_any_meet od_stitches_of an_stitches_of od_short_row an_short_row od_touch an_touch : Option Addr} {sl_holes_of sl_within sl_row_allowed sl_side sl_spans_meet sl_boxes_meet sl_not_beside sl_stitches_meet sl_any_meet sl_stitches_of sl_short_row sl_touch : Array (Option Value)} {oc_holes_of kV_holes_of dc_holes_of pm_holes_of cd_holes_of ct_holes_of oc_within kV_within dc_within pm_within cd_within ct_within oc_row_allowed kV_row_allowed dc_row_allowed pm_row_allowed cd_row_allowed ct_row_allowed oc_side kV_side dc_side pm_side cd_side ct_side oc_spans_meet kV_spans_meet dc_spans_meet pm_spans_meet cd_spans_meet ct_spans_meet oc_boxes_meet kV_boxes_meet dc_boxes_meet pm_boxes_meet cd_boxes_meet ct_boxes_meet oc_not_beside kV_not_beside dc_not_beside pm_not_beside cd_not_beside ct_not_beside oc_stitches_meet kV_stitches_meet dc_stitches_meet pm_stitches_meet cd_stitches_meet ct_stitches_meet oc_any_meet kV_any_meet dc_any_meet pm_any_meet cd_any_meet ct_any_meet oc_stitches_of kV_stitches_of dc_stitches_of pm_stitches_of cd_stitches_of ct_stitches_of oc_short_row kV_short_row dc_short_row pm_short_row cd_short_row ct_short_row oc_touch kV_touch dc_touch pm_touch cd_touch ct_touch : Value}
    {tk_LOWEST tk_HIGHEST tk_HOLES_OF_A_ROW tk_REFUSED : Tok}
    (a_holes_of : PySem.W.nsIn K mainGlobals "holes_of" = some (some (.ref f_holes_of))) (l_holes_of : K.lookup f_holes_of = some ⟨oc_holes_of, od_holes_of, .func (PySem.W.fnOf "holes_of" "holes_of" (defArgs s_holes_of) (defBody s_holes_of) (defScope s_holes_of) .none kV_holes_of dc_holes_of pm_holes_of an_holes_of cd_holes_of ct_holes_of), sl_holes_of⟩) (c_holes_of : PySem.W.codeIn K cd_holes_of "holes_of" = true) (k_holes_of : PySem.W.keepIn K (.ref f_holes_of) = true)
    (a_within : PySem.W.nsIn K mainGlobals "within" = some (some (.ref f_within))) (l_within : K.lookup f_within = some ⟨oc_within, od_within, .func (PySem.W.fnOf "within" "within" (defArgs s_within) (defBody s_within) (defScope s_within) .none kV_within dc_within pm_within an_within cd_within ct_within), sl_within⟩) (c_within : PySem.W.codeIn K cd_within "within" = true) (k_within : PySem.W.keepIn K (.ref f_within) = true)
    (a_row_allowed : PySem.W.nsIn K mainGlobals "row_allowed" = some (some (.ref f_row_allowed))) (l_row_allowed : K.lookup f_row_allowed = some ⟨oc_row_allowed, od_row_allowed, .func (PySem.W.fnOf "row_allowed" "row_allowed" (defArgs s_row_allowed) (defBody s_row_allowed) (defScope s_row_allowed) .none kV_row_allowed dc_row_allowed pm_row_allowed an_row_allowed cd_row_allowed ct_row_allowed), sl_row_allowed⟩) (c_row_allowed : PySem.W.codeIn K cd_row_allowed "row_allowed" = true) (k_row_allowed : PySem.W.keepIn K (.ref f_row_allowed) = true)
    (a_side : PySem.W.nsIn K mainGlobals "side" = some (some (.ref f_side))) (l_side : K.lookup f_side = some ⟨oc_side, od_side, .func (PySem.W.fnOf "side" "side" (defArgs s_side) (defBody s_side) (defScope s_side) .none kV_side dc_side pm_side an_side cd_side ct_side), sl_side⟩) (c_side : PySem.W.codeIn K cd_side "side" = true) (k_side : PySem.W.keepIn K (.ref f_side) = true)
    (a_spans_meet : PySem.W.nsIn K mainGlobals "spans_meet" = some (some (.ref f_spans_meet))) (l_spans_meet : K.lookup f_spans_meet = some ⟨oc_spans_meet, od_spans_meet, .func (PySem.W.fnOf "spans_meet" "spans_meet" (defArgs s_spans_meet) (defBody s_spans_meet) (defScope s_spans_meet) .none kV_spans_meet dc_spans_meet pm_spans_meet an_spans_meet cd_spans_meet ct_spans_meet), sl_spans_meet⟩) (c_spans_meet : PySem.W.codeIn K cd_spans_meet "spans_meet" = true) (k_spans_meet : PySem.W.keepIn K (.ref f_spans_meet) = true)
    (a_boxes_meet : PySem.W.nsIn K mainGlobals "boxes_meet" = some (some (.ref f_boxes_meet))) (l_boxes_meet : K.lookup f_boxes_meet = some ⟨oc_boxes_meet, od_boxes_meet, .func (PySem.W.fnOf "boxes_meet" "boxes_meet" (defArgs s_boxes_meet) (defBody s_boxes_meet) (defScope s_boxes_meet) .none kV_boxes_meet dc_boxes_meet pm_boxes_meet an_boxes_meet cd_boxes_meet ct_boxes_meet), sl_boxes_meet⟩) (c_boxes_meet : PySem.W.codeIn K cd_boxes_meet "boxes_meet" = true) (k_boxes_meet : PySem.W.keepIn K (.ref f_boxes_meet) = true)
    (a_not_beside : PySem.W.nsIn K mainGlobals "not_beside" = some (some (.ref f_not_beside))) (l_not_beside : K.lookup f_not_beside = some ⟨oc_not_beside, od_not_beside, .func (PySem.W.fnOf "not_beside" "not_beside" (defArgs s_not_beside) (defBody s_not_beside) (defScope s_not_beside) .none kV_not_beside dc_not_beside pm_not_beside an_not_beside cd_not_beside ct_not_beside), sl_not_beside⟩) (c_not_beside : PySem.W.codeIn K cd_not_beside "not_beside" = true) (k_not_beside : PySem.W.keepIn K (.ref f_not_beside) = true)
    (a_stitches_meet : PySem.W.nsIn K mainGlobals "stitches_meet" = some (some (.ref f_stitches_meet))) (l_stitches_meet : K.lookup f_stitches_meet = some ⟨oc_stitches_meet, od_stitches_meet, .func (PySem.W.fnOf "stitches_meet" "stitches_meet" (defArgs s_stitches_meet) (defBody s_stitches_meet) (defScope s_stitches_meet) .none kV_stitches_meet dc_stitches_meet pm_stitches_meet an_stitches_meet cd_stitches_meet ct_stitches_meet), sl_stitches_meet⟩) (c_stitches_meet : PySem.W.codeIn K cd_stitches_meet "stitches_meet" = true) (k_stitches_meet : PySem.W.keepIn K (.ref f_stitches_meet) = true)
    (a_any_meet : PySem.W.nsIn K mainGlobals "any_meet" = some (some (.ref f_any_meet))) (l_any_meet : K.lookup f_any_meet = some ⟨oc_any_meet, od_any_meet, .func (PySem.W.fnOf "any_meet" "any_meet" (defArgs s_any_meet) (defBody s_any_meet) (defScope s_any_meet) .none kV_any_meet dc_any_meet pm_any_meet an_any_meet cd_any_meet ct_any_meet), sl_any_meet⟩) (c_any_meet : PySem.W.codeIn K cd_any_meet "any_meet" = true) (k_any_meet : PySem.W.keepIn K (.ref f_any_meet) = true)
    (a_stitches_of : PySem.W.nsIn K mainGlobals "stitches_of" = some (some (.ref f_stitches_of))) (l_stitches_of : K.lookup f_stitches_of = some ⟨oc_stitches_of, od_stitches_of, .func (PySem.W.fnOf "stitches_of" "stitches_of" (defArgs s_stitches_of) (defBody s_stitches_of) (defScope s_stitches_of) .none kV_stitches_of dc_stitches_of pm_stitches_of an_stitches_of cd_stitches_of ct_stitches_of), sl_stitches_of⟩) (c_stitches_of : PySem.W.codeIn K cd_stitches_of "stitches_of" = true) (k_stitches_of : PySem.W.keepIn K (.ref f_stitches_of) = true)
    (a_short_row : PySem.W.nsIn K mainGlobals "short_row" = some (some (.ref f_short_row))) (l_short_row : K.lookup f_short_row = some ⟨oc_short_row, od_short_row, .func (PySem.W.fnOf "short_row" "short_row" (defArgs s_short_row) (defBody s_short_row) (defScope s_short_row) .none kV_short_row dc_short_row pm_short_row an_short_row cd_short_row ct_short_row), sl_short_row⟩) (c_short_row : PySem.W.codeIn K cd_short_row "short_row" = true) (k_short_row : PySem.W.keepIn K (.ref f_short_row) = true)
    (a_touch : PySem.W.nsIn K mainGlobals "touch" = some (some (.ref f_touch))) (l_touch : K.lookup f_touch = some ⟨oc_touch, od_touch, .func (PySem.W.fnOf "touch" "touch" (defArgs s_touch) (defBody s_touch) (defScope s_touch) .none kV_touch dc_touch pm_touch an_touch cd_touch ct_touch), sl_touch⟩) (c_touch : PySem.W.codeIn K cd_touch "touch" = true) (k_touch : PySem.W.keepIn K (.ref f_touch) = true)
    (z_len : PySem.W.nsIn K mainGlobals "len" = some none)
    (z_range : PySem.W.nsIn K mainGlobals "range" = some none)
    (z_max : PySem.W.nsIn K mainGlobals "max" = some none)
    (z_min : PySem.W.nsIn K mainGlobals "min" = some none)
    (z_list : PySem.W.nsIn K mainGlobals "list" = some none)
    (g_LOWEST : PySem.W.nsIn K mainGlobals "LOWEST" = some (some (.int (-30000) tk_LOWEST)))
    (g_HIGHEST : PySem.W.nsIn K mainGlobals "HIGHEST" = some (some (.int (30000) tk_HIGHEST)))
    (g_HOLES_OF_A_ROW : PySem.W.nsIn K mainGlobals "HOLES_OF_A_ROW" = some (some (.int (60) tk_HOLES_OF_A_ROW)))
    (g_REFUSED : PySem.W.nsIn K mainGlobals "REFUSED" = some (some (.int (-1) tk_REFUSED)))
    : ∃ fd : FuncData, (∀ (s : Shared) (us : List Value), us.length = (["one", "other"] : List Str).length → BindsTo s fd ⟨us, []⟩ ((["one", "other"] : List Str).zip us)) ∧ ∀ base : Heap, K.In base → base.Ns mainGlobals mg → FnOk P w K mg base CX0 5 fa fd ["one", "other"] (spTouch K) := by
  have e := hfa.symm.trans (PySem.W.mg_of X G a_touch)
  cases e
  have T : Txt mg := { len := PySem.W.mg_none_of X G z_len, range := PySem.W.mg_none_of X G z_range, max := PySem.W.mg_none_of X G z_max, min := PySem.W.mg_none_of X G z_min, list := PySem.W.mg_none_of X G z_list, LOWEST := ⟨_, PySem.W.mg_of X G g_LOWEST⟩, HIGHEST := ⟨_, PySem.W.mg_of X G g_HIGHEST⟩, HOLES_OF_A_ROW := ⟨_, PySem.W.mg_of X G g_HOLES_OF_A_ROW⟩, REFUSED := ⟨_, PySem.W.mg_of X G g_REFUSED⟩ }
  have F_holes_of := fun_mk (st := s_holes_of) l_holes_of c_holes_of k_holes_of
  have F_within := fun_mk (st := s_within) l_within c_within k_within
  have F_row_allowed := fun_mk (st := s_row_allowed) l_row_allowed c_row_allowed k_row_allowed
  have F_side := fun_mk (st := s_side) l_side c_side k_side
  have F_spans_meet := fun_mk (st := s_spans_meet) l_spans_meet c_spans_meet k_spans_meet
  have F_boxes_meet := fun_mk (st := s_boxes_meet) l_boxes_meet c_boxes_meet k_boxes_meet
  have F_not_beside := fun_mk (st := s_not_beside) l_not_beside c_not_beside k_not_beside
  have F_stitches_meet := fun_mk (st := s_stitches_meet) l_stitches_meet c_stitches_meet k_stitches_meet
  have F_any_meet := fun_mk (st := s_any_meet) l_any_meet c_any_meet k_any_meet
  have F_stitches_of := fun_mk (st := s_stitches_of) l_stitches_of c_stitches_of k_stitches_of
  have F_short_row := fun_mk (st := s_short_row) l_short_row c_short_row k_short_row
  have F_touch := fun_mk (st := s_touch) l_touch c_touch k_touch
  refine ⟨PySem.W.fnOf "touch" "touch" (defArgs s_touch) (defBody s_touch) (defScope s_touch) .none kV_touch dc_touch pm_touch an_touch cd_touch ct_touch, fun s us hu => match us, hu with | [_, _], _ => .of_eq rfl, fun base _ _ => ?_⟩
  have C_holes_of : CallOk P w K mg base 1 "holes_of" ["spots", "start"] (spHoles K) := ⟨⟨_, _, ok_holes_of F_holes_of T, PySem.W.mg_of X G a_holes_of, k_holes_of, F_holes_of.binds (ps := ["spots", "start"]) fun _ _ _ _ _ _ us hl => match us, hl with | [_, _], _ => rfl⟩⟩
  have C_within : CallOk P w K mg base 1 "within" ["number"] spWithin := ⟨⟨_, _, ok_within F_within T, PySem.W.mg_of X G a_within, k_within, F_within.binds (ps := ["number"]) fun _ _ _ _ _ _ us hl => match us, hl with | [_], _ => rfl⟩⟩
  have C_row_allowed : CallOk P w K mg base 2 "row_allowed" ["holes"] (spRow K) := ⟨⟨_, _, ok_row_allowed F_row_allowed T C_within, PySem.W.mg_of X G a_row_allowed, k_row_allowed, F_row_allowed.binds (ps := ["holes"]) fun _ _ _ _ _ _ us hl => match us, hl with | [_], _ => rfl⟩⟩
  have C_side : CallOk P w K mg base 1 "side" ["a", "b", "c"] (spSide K) := ⟨⟨_, _, ok_side F_side , PySem.W.mg_of X G a_side, k_side, F_side.binds (ps := ["a", "b", "c"]) fun _ _ _ _ _ _ us hl => match us, hl with | [_, _, _], _ => rfl⟩⟩
  have C_spans_meet : CallOk P w K mg base 1 "spans_meet" ["a", "b", "c", "d"] spSpans := ⟨⟨_, _, ok_spans_meet F_spans_meet T, PySem.W.mg_of X G a_spans_meet, k_spans_meet, F_spans_meet.binds (ps := ["a", "b", "c", "d"]) fun _ _ _ _ _ _ us hl => match us, hl with | [_, _, _, _], _ => rfl⟩⟩
  have C_boxes_meet : CallOk P w K mg base 2 "boxes_meet" ["one", "other"] (spBoxes K) := ⟨⟨_, _, ok_boxes_meet F_boxes_meet C_spans_meet, PySem.W.mg_of X G a_boxes_meet, k_boxes_meet, F_boxes_meet.binds (ps := ["one", "other"]) fun _ _ _ _ _ _ us hl => match us, hl with | [_, _], _ => rfl⟩⟩
  have C_not_beside : CallOk P w K mg base 2 "not_beside" ["one", "other"] (spBeside K) := ⟨⟨_, _, ok_not_beside F_not_beside C_side, PySem.W.mg_of X G a_not_beside, k_not_beside, F_not_beside.binds (ps := ["one", "other"]) fun _ _ _ _ _ _ us hl => match us, hl with | [_, _], _ => rfl⟩⟩
  have C_stitches_meet : CallOk P w K mg base 3 "stitches_meet" ["one", "other"] (spMeets K) := ⟨⟨_, _, ok_stitches_meet F_stitches_meet C_boxes_meet C_not_beside, PySem.W.mg_of X G a_stitches_meet, k_stitches_meet, F_stitches_meet.binds (ps := ["one", "other"]) fun _ _ _ _ _ _ us hl => match us, hl with | [_, _], _ => rfl⟩⟩
  have C_any_meet : CallOk P w K mg base 4 "any_meet" ["ways", "others"] (spAny K) := ⟨⟨_, _, ok_any_meet F_any_meet C_stitches_meet, PySem.W.mg_of X G a_any_meet, k_any_meet, F_any_meet.binds (ps := ["ways", "others"]) fun _ _ _ _ _ _ us hl => match us, hl with | [_, _], _ => rfl⟩⟩
  have C_stitches_of : CallOk P w K mg base 1 "stitches_of" ["holes"] (spStitches K) := ⟨⟨_, _, ok_stitches_of F_stitches_of T, PySem.W.mg_of X G a_stitches_of, k_stitches_of, F_stitches_of.binds (ps := ["holes"]) fun _ _ _ _ _ _ us hl => match us, hl with | [_], _ => rfl⟩⟩
  have C_short_row : CallOk P w K mg base 3 "short_row" ["holes"] (spShort K) := ⟨⟨_, _, ok_short_row F_short_row T C_row_allowed, PySem.W.mg_of X G a_short_row, k_short_row, F_short_row.binds (ps := ["holes"]) fun _ _ _ _ _ _ us hl => match us, hl with | [_], _ => rfl⟩⟩
  exact ok_touch F_touch T C_holes_of C_short_row C_stitches_of C_any_meet
end TR
open PySem PySem.W PyProof.Rows
set_option maxRecDepth 100000 in
set_option maxHeartbeats 8000000 in
theorem PySem.Challenge.cw_threadrow_s01_touch_holds : PySem.Challenge.rw_threadrow_s01_touch.Holds := by
  w_on; k_headS; (case hw => exact ⟨[.list [], .list []], by decide +kernel, by decide +kernel⟩)
  k_fillS
  refine L2.walk_specK (r := PySem.Challenge.rw_threadrow_s01_touch) (k := 5) (CX := L2.CX0) (ps := ["one", "other"]) (sp := TR.spTouch) (by decide +kernel) rfl rfl ⟨rfl, by decide, by decide⟩ (fun w h Y => PySem.W.kIn_of Y) ?F ?S (fun _ _ _ _ z => z)
  case F =>
    intro w mg fa h Y KX G hmg
    refine' TR.all_mk KX G hmg ?a_holes_of ?l_holes_of ?c_holes_of ?k_holes_of ?a_within ?l_within ?c_within ?k_within ?a_row_allowed ?l_row_allowed ?c_row_allowed ?k_row_allowed ?a_side ?l_side ?c_side ?k_side ?a_spans_meet ?l_spans_meet ?c_spans_meet ?k_spans_meet ?a_boxes_meet ?l_boxes_meet ?c_boxes_meet ?k_boxes_meet ?a_not_beside ?l_not_beside ?c_not_beside ?k_not_beside ?a_stitches_meet ?l_stitches_meet ?c_stitches_meet ?k_stitches_meet ?a_any_meet ?l_any_meet ?c_any_meet ?k_any_meet ?a_stitches_of ?l_stitches_of ?c_stitches_of ?k_stitches_of ?a_short_row ?l_short_row ?c_short_row ?k_short_row ?a_touch ?l_touch ?c_touch ?k_touch ?z_len ?z_range ?z_max ?z_min ?z_list ?g_LOWEST ?g_HIGHEST ?g_HOLES_OF_A_ROW ?g_REFUSED
    (case a_holes_of => k_is); (case l_holes_of => k_is); (case c_holes_of => k_is); (case k_holes_of => k_is); (case a_within => k_is); (case l_within => k_is)
    (case c_within => k_is); (case k_within => k_is); (case a_row_allowed => k_is); (case l_row_allowed => k_is); (case c_row_allowed => k_is); (case k_row_allowed => k_is)
    (case a_side => k_is); (case l_side => k_is); (case c_side => k_is); (case k_side => k_is); (case a_spans_meet => k_is); (case l_spans_meet => k_is)
    (case c_spans_meet => k_is); (case k_spans_meet => k_is); (case a_boxes_meet => k_is); (case l_boxes_meet => k_is); (case c_boxes_meet => k_is); (case k_boxes_meet => k_is)
    (case a_not_beside => k_is); (case l_not_beside => k_is); (case c_not_beside => k_is); (case k_not_beside => k_is); (case a_stitches_meet => k_is); (case l_stitches_meet => k_is)
    (case c_stitches_meet => k_is); (case k_stitches_meet => k_is); (case a_any_meet => k_is); (case l_any_meet => k_is); (case c_any_meet => k_is); (case k_any_meet => k_is)
    (case a_stitches_of => k_is); (case l_stitches_of => k_is); (case c_stitches_of => k_is); (case k_stitches_of => k_is); (case a_short_row => k_is); (case l_short_row => k_is)
    (case c_short_row => k_is); (case k_short_row => k_is); (case a_touch => k_is); (case l_touch => k_is); (case c_touch => k_is); (case k_touch => k_is)
    (case z_len => k_is); (case z_range => k_is); (case z_max => k_is); (case z_min => k_is); (case z_list => k_is); (case g_LOWEST => k_is)
    (case g_HIGHEST => k_is); (case g_HOLES_OF_A_ROW => k_is); (case g_REFUSED => k_is)
  case S =>
    intro K H xs a hO hwi hask hx
    obtain ⟨x, y, u⟩ := a
    cases hx with
    | cons h1 hx =>
      cases hx with
      | cons h2 hx =>
        cases hx
        cases h1 with
        | lst hs1 ha1 =>
          cases h2 with
          | lst hs2 ha2 =>
            have e1 := L2.ints_dw x _ ha1
            have e2 := L2.ints_dw y _ ha2
            subst e1 e2
            have q : ((Codec.inLen 0 200 x && x.all (Codec.inInt (-2147483648) 2147483647)) && ((Codec.inLen 0 200 y && y.all (Codec.inInt (-2147483648) 2147483647)) && true)) = true := hwi
            obtain ⟨q1, q⟩ := Bool.and_eq_true_iff.mp q
            obtain ⟨q2, q⟩ := Bool.and_eq_true_iff.mp q
            obtain ⟨ps, qs, rfl, rfl⟩ := TR.touch_asked (x := x) (y := y) hask
            have n1 := (Codec.inNat_iff.mp (Bool.and_eq_true_iff.mp q1).1).2
            have n2 := (Codec.inNat_iff.mp (Bool.and_eq_true_iff.mp q2).1).2
            refine ⟨_, _, ps, qs, rfl, hs1, hs2, n1, n2, fun H' p hp => ?_⟩
            show L2.Dw K H' (.ref p) (WData.list ((PyYqstfa.touch (TR.flat ps) (TR.flat qs)).map WData.int))
            rw [TR.touch_is]
            exact .lst (L2.SqL.of hp) (L2.dw_ints _)
#print axioms PySem.Challenge.cw_threadrow_s01_touch_holds
