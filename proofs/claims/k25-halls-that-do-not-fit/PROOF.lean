import PyProof.Rows.All
import Wide.All
import OpenK.AllK
import Wide.FinOn
import HandS.ForMost
import HandS.ForExc
import HandS.Walk
import HandS.IsInst
import HandS.Flow
import HandS.ExcIs
import KE.KEqDeep
import HandS.Codes
import PySem.Challenge.RW_changehall_k25_halls_that_do_not_fit
set_option Elab.async false
set_option linter.all false
set_option maxRecDepth 100000
set_option maxHeartbeats 0
open PySem PySem.W PyProof.Rows in
open_top chHead for PySem.Challenge.rw_changehall_k25_halls_that_do_not_fit
/-! Whole numbers: products, floors and rests. -/
namespace Ch
theorem nab_mul (a b : Int) : (a * b).natAbs = a.natAbs * b.natAbs := Int.natAbs_mul a b
theorem nab_mul_le {a b : Int} {x y : Nat} (ha : a.natAbs ≤ x) (hb : b.natAbs ≤ y) : (a * b).natAbs ≤ x * y := by
  rw [nab_mul]; exact Nat.mul_le_mul ha hb
theorem fm_eq (x a : Int) : x = a * x.fdiv a + x.fmod a := by
  have := Int.fmod_def x a
  omega
theorem fm_pos {a : Int} (x : Int) (h : 0 < a) : 0 ≤ x.fmod a := Int.fmod_nonneg_of_pos x h
theorem fm_npos {a : Int} (x : Int) (h : a < 0) : x.fmod a ≤ 0 := by
  have e : x.fmod a = - ((-x).fmod (-a)) := by rw [Int.fmod_def, Int.fmod_def, Int.neg_fdiv_neg, Int.neg_mul]; omega
  have := fm_pos (a := -a) (-x) (by omega)
  omega
theorem fm_lt {a : Int} (x : Int) (h : a ≠ 0) : (x.fmod a).natAbs < a.natAbs := by
  rcases Int.lt_or_gt_of_ne h with z | z
  · have e : x.fmod a = - ((-x).fmod (-a)) := by rw [Int.fmod_def, Int.fmod_def, Int.neg_fdiv_neg, Int.neg_mul]; omega
    have h1 := fm_pos (a := -a) (-x) (by omega)
    have h2 := Int.fmod_lt_of_pos (-x) (b := -a) (by omega)
    omega
  · have h1 := fm_pos x z
    have h2 := Int.fmod_lt_of_pos x z
    omega
theorem fd_le {a : Int} (x : Int) (h : a ≠ 0) : (x.fdiv a).natAbs ≤ x.natAbs := by
  have key : ∀ (x a : Int), 0 < a → (x.fdiv a).natAbs ≤ x.natAbs := fun x a h => by
    have e := fm_eq x a
    have h1 := fm_pos x h
    have h2 := Int.fmod_lt_of_pos x h
    generalize x.fdiv a = q at *
    generalize x.fmod a = r at *
    rcases Int.lt_trichotomy q 0 with z | z | z
    · have g : a * q + a * (-q - 1) = - a := by rw [← Int.mul_add]; rw [show q + (-q - 1) = -1 by omega]; omega
      have g2 : 1 * (-q - 1) ≤ a * (-q - 1) := Int.mul_le_mul_of_nonneg_right (by omega) (by omega)
      omega
    · omega
    · have g2 : 1 * q ≤ a * q := Int.mul_le_mul_of_nonneg_right (by omega) (by omega)
      omega
  rcases Int.lt_or_gt_of_ne h with z | z
  · have := key (-x) (-a) (by omega)
    rw [Int.neg_fdiv_neg] at this
    omega
  · exact key x a z
end Ch

/-! Minors of two and three rows, before and behind a turn. -/
namespace Ch
abbrev Mat := Nat → Nat → Int
def d2 (R : Mat) (k k' l l' : Nat) : Int := R k l * R k' l' - R k l' * R k' l
def d3 (R : Mat) (k k' k'' l l' l'' : Nat) : Int := R k l * d2 R k' k'' l' l'' - R k l' * d2 R k' k'' l l'' + R k l'' * d2 R k' k'' l l'
theorem d2_rows (R : Mat) (k k' l l' : Nat) : d2 R k k' l l' = - d2 R k' k l l' := by unfold d2; grind
theorem d2_cols (R : Mat) (k k' l l' : Nat) : d2 R k k' l l' = - d2 R k k' l' l := by unfold d2; grind
theorem d2_same (R : Mat) (k l l' : Nat) : d2 R k k l l' = 0 := by unfold d2; grind
theorem d2_samec (R : Mat) (k k' l : Nat) : d2 R k k' l l = 0 := by unfold d2; grind
theorem d3_r12 (R : Mat) (a b c l m n : Nat) : d3 R a b c l m n = - d3 R b a c l m n := by unfold d3 d2; grind
theorem d3_r23 (R : Mat) (a b c l m n : Nat) : d3 R a b c l m n = - d3 R a c b l m n := by unfold d3 d2; grind
theorem d3_c12 (R : Mat) (a b c l m n : Nat) : d3 R a b c l m n = - d3 R a b c m l n := by unfold d3 d2; grind
theorem d3_c23 (R : Mat) (a b c l m n : Nat) : d3 R a b c l m n = - d3 R a b c l n m := by unfold d3 d2; grind
theorem d3_same12 (R : Mat) (a c l m n : Nat) : d3 R a a c l m n = 0 := by unfold d3 d2; grind
theorem d3_same23 (R : Mat) (a c l m n : Nat) : d3 R a c c l m n = 0 := by unfold d3 d2; grind
theorem d3_same13 (R : Mat) (a c l m n : Nat) : d3 R a c a l m n = 0 := by unfold d3 d2; grind
theorem d3_samec12 (R : Mat) (a b c l n : Nat) : d3 R a b c l l n = 0 := by unfold d3 d2; grind
theorem d3_samec23 (R : Mat) (a b c l n : Nat) : d3 R a b c l n n = 0 := by unfold d3 d2; grind
theorem d3_samec13 (R : Mat) (a b c l n : Nat) : d3 R a b c l n l = 0 := by unfold d3 d2; grind
/-- cancel a factor: |a| |y| ≤ |a| z -/
theorem cancel {a y : Int} {z : Nat} (h : a ≠ 0) (k : (a * y).natAbs ≤ a.natAbs * z) : y.natAbs ≤ z := by
  rw [nab_mul] at k
  exact Nat.le_of_mul_le_mul_left k (by omega)
section
variable {a b c e : Int} {X : Nat}
/-- an entry behind the cross -/
theorem ent_le (h : a ≠ 0) (hx : (a * e - b * c).natAbs ≤ X) (hb : b.natAbs ≤ a.natAbs) (hc : c.natAbs ≤ a.natAbs) : e.natAbs ≤ X + a.natAbs := by
  refine cancel h ?_
  have h1 := nab_mul_le hb hc
  have h2 : X ≤ a.natAbs * X := Nat.le_mul_of_pos_left _ (by omega)
  rw [Nat.mul_add]
  omega
theorem two_le {p q u v : Int} (h : a ≠ 0) (e1 : a * e = p * u - q * v) (hp : p.natAbs ≤ a.natAbs) (hq : q.natAbs ≤ a.natAbs) (hu : u.natAbs ≤ X) (hv : v.natAbs ≤ X) : e.natAbs ≤ 2 * X := by
  refine cancel h ?_
  have h1 := nab_mul_le hp hu
  have h2 := nab_mul_le hq hv
  rw [e1, Nat.mul_left_comm]
  omega
theorem three_le {p q r u v w : Int} (h : a ≠ 0) (e1 : a * e = p * u - q * v + r * w) (hp : p.natAbs ≤ a.natAbs) (hq : q.natAbs ≤ a.natAbs) (hr : r.natAbs ≤ a.natAbs) (hu : u.natAbs ≤ X) (hv : v.natAbs ≤ X) (hw : w.natAbs ≤ X) : e.natAbs ≤ 3 * X := by
  refine cancel h ?_
  have h1 := nab_mul_le hp hu
  have h2 := nab_mul_le hq hv
  have h3 := nab_mul_le hr hw
  rw [e1, Nat.mul_left_comm]
  omega
end
theorem five_le {a e d p1 p2 q1 q2 u1 u2 u3 u4 : Int} {X : Nat} (h : a ≠ 0) (e1 : a * (a * e) = a * d + (p1 * q1 * u1 + p2 * q2 * u2 - p1 * q2 * u3 - p2 * q1 * u4))
    (hp1 : p1.natAbs ≤ a.natAbs) (hp2 : p2.natAbs ≤ a.natAbs) (hq1 : q1.natAbs ≤ a.natAbs) (hq2 : q2.natAbs ≤ a.natAbs) (hd : d.natAbs ≤ X) (h1 : u1.natAbs ≤ X) (h2 : u2.natAbs ≤ X) (h3 : u3.natAbs ≤ X) (h4 : u4.natAbs ≤ X) : e.natAbs ≤ 5 * X := by
  refine cancel h (cancel h ?_)
  have k0 := nab_mul_le (Nat.le_refl a.natAbs) hd
  have k1 := nab_mul_le (nab_mul_le hp1 hq1) h1
  have k2 := nab_mul_le (nab_mul_le hp2 hq2) h2
  have k3 := nab_mul_le (nab_mul_le hp1 hq2) h3
  have k4 := nab_mul_le (nab_mul_le hp2 hq1) h4
  have ha : 1 ≤ a.natAbs := Int.natAbs_pos.2 h
  have k5 : a.natAbs * X ≤ a.natAbs * a.natAbs * X := by
    rw [Nat.mul_assoc]
    exact Nat.le_mul_of_pos_left _ ha
  have g : a.natAbs * (a.natAbs * (5 * X)) = 5 * (a.natAbs * a.natAbs * X) := by
    generalize a.natAbs = u; grind
  rw [e1, g]
  generalize a.natAbs * a.natAbs * X = Z at *
  generalize p1 * q1 * u1 = x1 at *
  generalize p2 * q2 * u2 = x2 at *
  generalize p1 * q2 * u3 = x3 at *
  generalize p2 * q1 * u4 = x4 at *
  generalize a * d = x0 at *
  generalize a.natAbs * X = Y at *
  clear e1 g hp1 hp2 hq1 hq2 hd h1 h2 h3 h4 ha
  omega
/-! the bounds of a part: rows and places from s on -/
def B1 (R : Mat) (s m n X : Nat) : Prop := ∀ k l, s ≤ k → k < m → s ≤ l → l < n → (R k l).natAbs ≤ X
def B2 (R : Mat) (s m n X : Nat) : Prop := ∀ k k' l l', s ≤ k → k < m → s ≤ k' → k' < m → s ≤ l → l < n → s ≤ l' → l' < n → (d2 R k k' l l').natAbs ≤ X
def B3 (R : Mat) (s m n X : Nat) : Prop := ∀ k k' k'' l l' l'', s ≤ k → k < m → s ≤ k' → k' < m → s ≤ k'' → k'' < m → s ≤ l → l < n → s ≤ l' → l' < n → s ≤ l'' → l'' < n → (d3 R k k' k'' l l' l'').natAbs ≤ X
/-- the cross of s is small -/
def Cross (R : Mat) (s m n : Nat) : Prop := R s s ≠ 0 ∧ (∀ k, s < k → k < m → (R k s).natAbs < (R s s).natAbs) ∧ (∀ l, s < l → l < n → (R s l).natAbs < (R s s).natAbs)
/-- what a turn keeps: the minors with the row and the place s -/
def K2 (R : Mat) (s m n X : Nat) : Prop := ∀ k l, s < k → k < m → s < l → l < n → (d2 R s k s l).natAbs ≤ X
def K3 (R : Mat) (s m n X : Nat) : Prop := ∀ k k' l l', s < k → k < m → s < k' → k' < m → s < l → l < n → s < l' → l' < n → (d3 R s k k' s l l').natAbs ≤ X
theorem B2.keep {R : Mat} {s m n X : Nat} (h : B2 R s m n X) : K2 R s m n X := fun k l a b c d => h s k s l (Nat.le_refl _) (by omega) (by omega) b (Nat.le_refl _) (by omega) (by omega) d
theorem B3.keep {R : Mat} {s m n X : Nat} (h : B3 R s m n X) : K3 R s m n X := fun k k' l l' a b c d e f g i => h s k k' s l l' (Nat.le_refl _) (by omega) (by omega) b (by omega) d (Nat.le_refl _) (by omega) (by omega) f (by omega) i
section
variable {R : Mat} {s m n X : Nat}
theorem Cross.ent (C : Cross R s m n) (h : K2 R s m n X) {k l : Nat} (a : s < k) (b : k < m) (c : s < l) (d : l < n) : (R k l).natAbs ≤ X + (R s s).natAbs :=
  ent_le (b := R s l) (c := R k s) C.1 (h k l a b c d) (Nat.le_of_lt (C.2.2 l c d)) (Nat.le_of_lt (C.2.1 k a b))
theorem Cross.b1 (C : Cross R s m n) (h : K2 R s m n X) : B1 R s m n (X + (R s s).natAbs) := fun k l a b c d => by
  rcases Nat.lt_or_eq_of_le a with a | rfl
  · rcases Nat.lt_or_eq_of_le c with c | rfl
    · exact C.ent h a b c d
    · exact Nat.le_trans (Nat.le_of_lt (C.2.1 k a b)) (Nat.le_add_left _ _)
  · rcases Nat.lt_or_eq_of_le c with c | rfl
    · exact Nat.le_trans (Nat.le_of_lt (C.2.2 l c d)) (Nat.le_add_left _ _)
    · exact Nat.le_add_left _ _
/-- rows s and k, no place s -/
theorem Cross.row (C : Cross R s m n) (h : K2 R s m n X) {k l l' : Nat} (a : s < k) (b : k < m) (c : s < l) (d : l < n) (e : s < l') (f : l' < n) : (d2 R s k l l').natAbs ≤ 2 * X :=
  two_le (p := R s l) (q := R s l') C.1 (by unfold d2; grind) (Nat.le_of_lt (C.2.2 l c d)) (Nat.le_of_lt (C.2.2 l' e f)) (h k l' a b e f) (h k l a b c d)
/-- no row s, place s -/
theorem Cross.col (C : Cross R s m n) (h : K2 R s m n X) {k k' l : Nat} (a : s < k) (b : k < m) (c : s < k') (d : k' < m) (e : s < l) (f : l < n) : (d2 R k k' s l).natAbs ≤ 2 * X :=
  two_le (p := R k s) (q := R k' s) C.1 (by unfold d2; grind) (Nat.le_of_lt (C.2.1 k a b)) (Nat.le_of_lt (C.2.1 k' c d)) (h k' l c d e f) (h k l a b e f)
theorem Cross.inn (C : Cross R s m n) (h : K2 R s m n X) (h3 : K3 R s m n X) {k k' l l' : Nat} (a : s < k) (b : k < m) (c : s < k') (d : k' < m) (e : s < l) (f : l < n) (g : s < l') (i : l' < n) : (d2 R k k' l l').natAbs ≤ 5 * X :=
  five_le (a := R s s) (d := d3 R s k k' s l l') (p1 := R k s) (p2 := R k' s) (q1 := R s l) (q2 := R s l') (u1 := d2 R s k' s l') (u2 := d2 R s k s l) (u3 := d2 R s k' s l) (u4 := d2 R s k s l') C.1 (by unfold d3 d2; grind)
    (Nat.le_of_lt (C.2.1 k a b)) (Nat.le_of_lt (C.2.1 k' c d)) (Nat.le_of_lt (C.2.2 l e f)) (Nat.le_of_lt (C.2.2 l' g i)) (h3 k k' l l' a b c d e f g i) (h k' l' c d g i) (h k l a b e f) (h k' l c d e f) (h k l' a b g i)
theorem Cross.row3 (C : Cross R s m n) (h3 : K3 R s m n X) {k k' l l' l'' : Nat} (a : s < k) (b : k < m) (c : s < k') (d : k' < m) (e : s < l) (f : l < n) (g : s < l') (i : l' < n) (j : s < l'') (o : l'' < n) : (d3 R s k k' l l' l'').natAbs ≤ 3 * X :=
  three_le (p := R s l) (q := R s l') (r := R s l'') C.1 (by unfold d3 d2; grind) (Nat.le_of_lt (C.2.2 l e f)) (Nat.le_of_lt (C.2.2 l' g i)) (Nat.le_of_lt (C.2.2 l'' j o)) (h3 k k' l' l'' a b c d g i j o) (h3 k k' l l'' a b c d e f j o) (h3 k k' l l' a b c d e f g i)
end
end Ch

/-! What a turn of settle does to the rows and tables, and what it leaves of the bounds. -/
namespace Ch
section
variable {R : Mat} {s m n X : Nat}
theorem Cross.b2 (C : Cross R s m n) (h : K2 R s m n X) (h3 : K3 R s m n X) : B2 R s m n (5 * X) := by
  have base : ∀ k' l l', s < k' → k' < m → s ≤ l → l < n → s ≤ l' → l' < n → (d2 R s k' l l').natAbs ≤ 2 * X := fun k' l l' a b c d e f => by
    rcases Nat.lt_or_eq_of_le c with c | rfl <;> rcases Nat.lt_or_eq_of_le e with e | rfl
    · exact C.row h a b c d e f
    · rw [d2_cols]; have := h k' l a b c d; omega
    · have := h k' l' a b e f; omega
    · rw [d2_samec]; omega
  intro k k' l l' a b c d e f g i
  rcases Nat.lt_or_eq_of_le a with a | rfl <;> rcases Nat.lt_or_eq_of_le c with c | rfl
  · rcases Nat.lt_or_eq_of_le e with e | rfl <;> rcases Nat.lt_or_eq_of_le g with g | rfl
    · exact C.inn h h3 a b c d e f g i
    · rw [d2_cols]; have := C.col h a b c d e f; omega
    · have := C.col h a b c d g i; omega
    · rw [d2_samec]; omega
  · rw [d2_rows]; have := base k l l' a b e f g i; omega
  · have := base k' l l' c d e f g i; omega
  · rw [d2_same]; omega
/-- two rows alone -/
theorem Cross.b2' (C : Cross R s m n) (hm : m ≤ s + 2) (h : K2 R s m n X) : B2 R s m n (2 * X) := by
  have base : ∀ k' l l', s < k' → k' < m → s ≤ l → l < n → s ≤ l' → l' < n → (d2 R s k' l l').natAbs ≤ 2 * X := fun k' l l' a b c d e f => by
    rcases Nat.lt_or_eq_of_le c with c | rfl <;> rcases Nat.lt_or_eq_of_le e with e | rfl
    · exact C.row h a b c d e f
    · rw [d2_cols]; have := h k' l a b c d; omega
    · have := h k' l' a b e f; omega
    · rw [d2_samec]; omega
  intro k k' l l' a b c d e f g i
  rcases Nat.lt_or_eq_of_le a with a | rfl <;> rcases Nat.lt_or_eq_of_le c with c | rfl
  · obtain rfl : k = k' := by omega
    rw [d2_same]; omega
  · rw [d2_rows]; have := base k l l' a b e f g i; omega
  · exact base k' l l' c d e f g i
  · rw [d2_same]; omega
theorem Cross.b3 (C : Cross R s m n) (hm : m ≤ s + 3) (h3 : K3 R s m n X) : B3 R s m n (3 * X) := by
  have base : ∀ k k' l l' l'', s < k → k < m → s < k' → k' < m → s ≤ l → l < n → s ≤ l' → l' < n → s ≤ l'' → l'' < n → (d3 R s k k' l l' l'').natAbs ≤ 3 * X := fun k k' l l' l'' a b c d e f g i j o => by
    rcases Nat.lt_or_eq_of_le e with e | rfl <;> rcases Nat.lt_or_eq_of_le g with g | rfl <;> rcases Nat.lt_or_eq_of_le j with j | rfl
    · exact C.row3 h3 a b c d e f g i j o
    · rw [d3_c23, d3_c12]; have := h3 k k' l l' a b c d e f g i; omega
    · rw [d3_c12]; have := h3 k k' l l'' a b c d e f j o; omega
    · rw [d3_samec23]; omega
    · have := h3 k k' l' l'' a b c d g i j o; omega
    · rw [d3_samec13]; omega
    · rw [d3_samec12]; omega
    · rw [d3_samec12]; omega
  intro k k' k'' l l' l'' a b c d e f g i j o p q
  rcases Nat.lt_or_eq_of_le a with a | rfl
  · rcases Nat.lt_or_eq_of_le c with c | rfl
    · rcases Nat.lt_or_eq_of_le e with e | rfl
      · rcases Nat.lt_or_ge k k' with z | z
        · rcases Nat.lt_or_eq_of_le (show k'' ≤ k' by omega) with z2 | rfl
          · obtain rfl : k = k'' := by omega
            rw [d3_same13]; omega
          · rw [d3_same23]; omega
        · rcases Nat.lt_or_eq_of_le z with z | rfl
          · rcases Nat.lt_or_eq_of_le (show k'' ≤ k by omega) with z2 | rfl
            · obtain rfl : k' = k'' := by omega
              rw [d3_same23]; omega
            · rw [d3_same13]; omega
          · rw [d3_same12]; omega
      · rw [d3_r23, d3_r12]; have := base k k' l l' l'' a b c d g i j o p q; omega
    · rcases Nat.lt_or_eq_of_le e with e | rfl
      · rw [d3_r12]; have := base k k'' l l' l'' a b e f g i j o p q; omega
      · rw [d3_same23]; omega
  · rcases Nat.lt_or_eq_of_le c with c | rfl
    · rcases Nat.lt_or_eq_of_le e with e | rfl
      · exact base k' k'' l l' l'' c d e f g i j o p q
      · rw [d3_same13]; omega
    · rw [d3_same12]; omega
end
/-! the operations -/
def sw (a b k : Nat) : Nat := if k = a then b else if k = b then a else k
def sR (R : Mat) (a b : Nat) : Mat := fun k => R (sw a b k)
def sC (R : Mat) (a b : Nat) : Mat := fun k l => R k (sw a b l)
def tR (R : Mat) (k s : Nat) (q : Int) : Mat := fun k' l => if k' = k then R k l - q * R s l else R k' l
def tC (R : Mat) (j s : Nat) (q : Int) : Mat := fun k l => if l = j then R k j - q * R k s else R k l
/-- the rows s < k < K less row s -/
def cR (R : Mat) (s K : Nat) : Mat := fun k l => if s < k ∧ k < K then R k l - (R k s).fdiv (R s s) * R s l else R k l
/-- the places s < l < L less place s, by q -/
def cC (R : Mat) (q : Nat → Int) (s L : Nat) : Mat := fun k l => if s < l ∧ l < L then R k l - q l * R k s else R k l
def cB (B : Mat) (q : Nat → Int) (s : Nat) : Nat → Mat
  | 0 => B
  | L + 1 => fun x c => if x = s ∧ s < L then cB B q s L s c - (- q L) * B L c else cB B q s L x c
/-- how often place s is taken off the others -/
def qs (R : Mat) (s : Nat) : Nat → Int := fun l => (R s l).fdiv (R s s)
/-- both -/
def cc (R : Mat) (s m n : Nat) : Mat := cC (cR R s m) (qs R s) s n
theorem cR_row (R : Mat) (s K l : Nat) : cR R s K s l = R s l := by unfold cR; rw [if_neg (by omega)]
theorem cc_ss (R : Mat) (s m n : Nat) : cc R s m n s s = R s s := by unfold cc cC; rw [if_neg (by omega), cR_row]
theorem cc_sl (R : Mat) {s m n l : Nat} (h : s < l) (h' : l < n) : cc R s m n s l = (R s l).fmod (R s s) := by
  unfold cc cC qs
  rw [if_pos ⟨h, h'⟩, cR_row, cR_row, Int.fmod_def, Int.mul_comm]
theorem cc_ks (R : Mat) {s m n k : Nat} (h : s < k) (h' : k < m) : cc R s m n k s = (R k s).fmod (R s s) := by
  unfold cc cC
  rw [if_neg (by omega)]
  unfold cR
  rw [if_pos ⟨h, h'⟩, Int.fmod_def, Int.mul_comm]
theorem cc_kl (R : Mat) {s m n k l : Nat} (h : s < k) (h' : k < m) (i : s < l) (i' : l < n) : cc R s m n k l = R k l - (R k s).fdiv (R s s) * R s l - (R s l).fdiv (R s s) * (R k s - (R k s).fdiv (R s s) * R s s) := by
  unfold cc cC qs
  rw [if_pos ⟨i, i'⟩]
  unfold cR
  rw [if_pos ⟨h, h'⟩, if_pos ⟨h, h'⟩]
theorem cc_cross {R : Mat} {s m n : Nat} (h : R s s ≠ 0) : Cross (cc R s m n) s m n := by
  refine ⟨by rw [cc_ss]; exact h, fun k a b => ?_, fun l a b => ?_⟩
  · rw [cc_ss, cc_ks R a b]; exact fm_lt _ h
  · rw [cc_ss, cc_sl R a b]; exact fm_lt _ h
theorem cc_d2 (R : Mat) {s m n k l : Nat} (h : s < k) (h' : k < m) (i : s < l) (i' : l < n) : d2 (cc R s m n) s k s l = d2 R s k s l := by
  unfold d2
  rw [cc_ss, cc_sl R i i', cc_ks R h h', cc_kl R h h' i i', Int.fmod_def, Int.fmod_def]
  generalize (R k s).fdiv (R s s) = p
  generalize (R s l).fdiv (R s s) = q
  grind
theorem cc_d3 (R : Mat) {s m n k k' l l' : Nat} (h : s < k) (h' : k < m) (g : s < k') (g' : k' < m) (i : s < l) (i' : l < n) (j : s < l') (j' : l' < n) : d3 (cc R s m n) s k k' s l l' = d3 R s k k' s l l' := by
  unfold d3 d2
  rw [cc_ss, cc_sl R i i', cc_sl R j j', cc_ks R h h', cc_ks R g g', cc_kl R h h' i i', cc_kl R h h' j j', cc_kl R g g' i i', cc_kl R g g' j j', Int.fmod_def, Int.fmod_def, Int.fmod_def, Int.fmod_def]
  generalize (R k s).fdiv (R s s) = p
  generalize (R s l).fdiv (R s s) = q
  generalize (R k' s).fdiv (R s s) = p'
  generalize (R s l').fdiv (R s s) = q'
  grind
theorem sw_lt {a b k s m : Nat} (ha : s ≤ a) (ha' : a < m) (hb : s ≤ b) (hb' : b < m) (h : s ≤ k) (h' : k < m) : s ≤ sw a b k ∧ sw a b k < m := by unfold sw; split <;> (try split) <;> omega
theorem B1.swap {R : Mat} {s m n X i j : Nat} (h : B1 R s m n X) (a : s ≤ i) (b : i < m) (c : s ≤ j) (d : j < n) : B1 (sC (sR R s i) s j) s m n X := fun k l e f g o =>
  h _ _ (sw_lt (Nat.le_refl _) (by omega) a b e f).1 (sw_lt (Nat.le_refl _) (by omega) a b e f).2 (sw_lt (Nat.le_refl _) (by omega) c d g o).1 (sw_lt (Nat.le_refl _) (by omega) c d g o).2
theorem B2.swap {R : Mat} {s m n X i j : Nat} (h : B2 R s m n X) (a : s ≤ i) (b : i < m) (c : s ≤ j) (d : j < n) : B2 (sC (sR R s i) s j) s m n X := fun k k' l l' e f g o e' f' g' o' =>
  have r := fun {k : Nat} (e : s ≤ k) (f : k < m) => sw_lt (Nat.le_refl s) (show s < m by omega) a b e f
  have q := fun {l : Nat} (e : s ≤ l) (f : l < n) => sw_lt (Nat.le_refl s) (show s < n by omega) c d e f
  h _ _ _ _ (r e f).1 (r e f).2 (r g o).1 (r g o).2 (q e' f').1 (q e' f').2 (q g' o').1 (q g' o').2
theorem B3.swap {R : Mat} {s m n X i j : Nat} (h : B3 R s m n X) (a : s ≤ i) (b : i < m) (c : s ≤ j) (d : j < n) : B3 (sC (sR R s i) s j) s m n X := fun k k' k'' l l' l'' e f g o x y e' f' g' o' x' y' =>
  have r := fun {k : Nat} (e : s ≤ k) (f : k < m) => sw_lt (Nat.le_refl s) (show s < m by omega) a b e f
  have q := fun {l : Nat} (e : s ≤ l) (f : l < n) => sw_lt (Nat.le_refl s) (show s < n by omega) c d e f
  h _ _ _ _ _ _ (r e f).1 (r e f).2 (r g o).1 (r g o).2 (r x y).1 (r x y).2 (q e' f').1 (q e' f').2 (q g' o').1 (q g' o').2 (q x' y').1 (q x' y').2
end Ch

/-! A part of one or two rows: three turns bring the least number down to five sixths. -/
namespace Ch
def Red (R : Mat) (s m n : Nat) : Prop := R s s ≠ 0 ∧ (∀ k, s < k → k < m → (R k s).natAbs < (R s s).natAbs ∧ ((0 ≤ R k s ∧ 0 < R s s) ∨ (R k s ≤ 0 ∧ R s s < 0))) ∧
  (∀ l, s < l → l < n → (R s l).natAbs < (R s s).natAbs ∧ ((0 ≤ R s l ∧ 0 < R s s) ∨ (R s l ≤ 0 ∧ R s s < 0)))
theorem Red.cross {R : Mat} {s m n : Nat} (h : Red R s m n) : Cross R s m n := ⟨h.1, fun k a b => (h.2.1 k a b).1, fun l a b => (h.2.2 l a b).1⟩
theorem fm_sign {a : Int} (x : Int) (h : a ≠ 0) : (x.fmod a).natAbs < a.natAbs ∧ ((0 ≤ x.fmod a ∧ 0 < a) ∨ (x.fmod a ≤ 0 ∧ a < 0)) := by
  refine ⟨fm_lt x h, ?_⟩
  rcases Int.lt_or_gt_of_ne h with z | z
  · exact .inr ⟨fm_npos x z, z⟩
  · exact .inl ⟨fm_pos x z, z⟩
theorem cc_red {R : Mat} {s m n : Nat} (h : R s s ≠ 0) : Red (cc R s m n) s m n := by
  refine ⟨by rw [cc_ss]; exact h, fun k a b => ?_, fun l a b => ?_⟩
  · rw [cc_ss, cc_ks R a b]; exact fm_sign _ h
  · rw [cc_ss, cc_sl R a b]; exact fm_sign _ h
/-- nothing left of the cross -/
def Clean (R : Mat) (s m n : Nat) : Prop := (∀ k, s < k → k < m → R k s = 0) ∧ (∀ l, s < l → l < n → R s l = 0)
/-- the further row with the odd number is added -/
def od (R : Mat) (s m n k : Nat) : Mat := cc (tR R s k (-1)) s m n
section
variable {R : Mat} {s m n k : Nat}
theorem od_ss (h : Clean R s m n) (a : s < k) (b : k < m) : od R s m n k s s = R s s := by
  unfold od
  rw [cc_ss]
  unfold tR
  rw [if_pos rfl, h.1 k a b]; omega
theorem tR_s (h : Clean R s m n) (a : s < k) (b : k < m) {l : Nat} (c : s < l) (d : l < n) : tR R s k (-1) s l = R k l := by
  unfold tR
  rw [if_pos rfl, h.2 l c d]; omega
theorem tR_ne {k' l : Nat} {q : Int} (h : s < k') : tR R s k q k' l = R k' l := by
  unfold tR
  rw [if_neg (by omega)]
theorem od_sl (h : Clean R s m n) (a : s < k) (b : k < m) {l : Nat} (c : s < l) (d : l < n) : od R s m n k s l = (R k l).fmod (R s s) := by
  unfold od
  rw [cc_sl _ c d, tR_s h a b c d]
  congr 1
  unfold tR
  rw [if_pos rfl, h.1 k a b]; omega
theorem od_ks (h : Clean R s m n) {k' : Nat} (c : s < k') (d : k' < m) : od R s m n k k' s = 0 := by
  unfold od
  rw [cc_ks _ c d, tR_ne c, h.1 k' c d]
  simp
theorem od_kl (h : Clean R s m n) {k' l : Nat} (c : s < k') (d : k' < m) (e : s < l) (f : l < n) : od R s m n k k' l = R k' l := by
  unfold od
  rw [cc_kl _ c d e f]
  simp only [tR_ne c]
  rw [h.1 k' c d]
  simp
theorem od_red (h : Clean R s m n) (h0 : R s s ≠ 0) (a : s < k) (b : k < m) : Red (od R s m n k) s m n := by
  refine cc_red ?_
  unfold tR
  rw [if_pos rfl, h.1 k a b]; omega
theorem od_d2 (h : Clean R s m n) (a : s < k) (b : k < m) {k' l : Nat} (c : s < k') (d : k' < m) (e : s < l) (f : l < n) : d2 (od R s m n k) s k' s l = d2 R s k' s l := by
  unfold d2
  rw [od_ss h a b, od_kl h c d e f, od_ks h c d, h.1 k' c d]
  omega
theorem od_d3 (h : Clean R s m n) (a : s < k) (b : k < m) {k' k'' l l' : Nat} (c : s < k') (d : k' < m) (c' : s < k'') (d' : k'' < m) (e : s < l) (f : l < n) (e' : s < l') (f' : l' < n) : d3 (od R s m n k) s k' k'' s l l' = d3 R s k' k'' s l l' := by
  unfold d3 d2
  rw [od_ss h a b, od_kl h c d e f, od_kl h c d e' f', od_kl h c' d' e f, od_kl h c' d' e' f', od_ks h c d, od_ks h c' d', h.1 k' c d, h.1 k'' c' d']
  simp
end
structure Least (R : Mat) (s m n i j : Nat) : Prop where
  i1 : s ≤ i
  i2 : i < m
  j1 : s ≤ j
  j2 : j < n
  ne : R i j ≠ 0
  le : ∀ k l, s ≤ k → k < m → s ≤ l → l < n → R k l ≠ 0 → (R i j).natAbs ≤ (R k l).natAbs
  lt : ∀ k l, s ≤ k → k < m → s ≤ l → l < n → (k < i ∨ (k = i ∧ l < j)) → R k l ≠ 0 → (R i j).natAbs < (R k l).natAbs
/-- the rows behind the swaps -/
abbrev sS (R : Mat) (s i j : Nat) : Mat := sC (sR R s i) s j
theorem sS_ss (R : Mat) (s i j : Nat) : sS R s i j s s = R i j := by
  show R (sw s i s) (sw s j s) = _
  unfold sw; simp
/-- a turn of settle that does not end it -/
structure Turn (R : Mat) (s m n i j : Nat) (R' : Mat) : Prop where
  lst : Least R s m n i j
  is : R' = cc (sS R s i j) s m n ∨ ∃ k, Clean (cc (sS R s i j) s m n) s m n ∧ s < k ∧ k < m ∧ R' = od (cc (sS R s i j) s m n) s m n k
section
variable {R R' : Mat} {s m n i j : Nat}
theorem Turn.h0 (T : Turn R s m n i j R') : sS R s i j s s ≠ 0 := by rw [sS_ss]; exact T.lst.ne
theorem Turn.ss (T : Turn R s m n i j R') : R' s s = R i j := by
  rcases T.is with e | ⟨k, c, a, b, e⟩
  · rw [e, cc_ss, sS_ss]
  · rw [e, od_ss c a b, cc_ss, sS_ss]
theorem Turn.red (T : Turn R s m n i j R') : Red R' s m n := by
  rcases T.is with e | ⟨k, c, a, b, e⟩
  · rw [e]; exact cc_red T.h0
  · rw [e]; exact od_red c (by rw [cc_ss]; exact T.h0) a b
theorem Turn.ks (T : Turn R s m n i j R') {k : Nat} (c : s < k) (d : k < m) : R' k s = (sS R s i j k s).fmod (R i j) := by
  rcases T.is with e | ⟨k', h, a, b, e⟩
  · rw [e, cc_ks _ c d, sS_ss]
  · rw [e, od_ks h c d, ← sS_ss R s i j, ← cc_ks _ c d]
    exact (h.1 k c d).symm
theorem Turn.kl (T : Turn R s m n i j R') {k l : Nat} (c : s < k) (d : k < m) (e' : s < l) (f : l < n) : R' k l = cc (sS R s i j) s m n k l := by
  rcases T.is with e | ⟨k', h, a, b, e⟩
  · rw [e]
  · rw [e, od_kl h c d e' f]
/-- a rest of the row that is not nought stands -/
theorem Turn.sl (T : Turn R s m n i j R') {l : Nat} (c : s < l) (d : l < n) (h : (sS R s i j s l).fmod (R i j) ≠ 0) : R' s l = (sS R s i j s l).fmod (R i j) := by
  rcases T.is with e | ⟨k', h', a, b, e⟩
  · rw [e, cc_sl _ c d, sS_ss]
  · exfalso
    have := h'.2 l c d
    rw [cc_sl _ c d, sS_ss] at this
    exact h this
end
theorem fm_one {a x : Int} (h : (0 < a ∧ a < x ∧ x < 2 * a) ∨ (a < 0 ∧ x < a ∧ 2 * a < x)) : x.fmod a = x - a := by
  have r := fm_eq x a
  have e : x.fdiv a = 1 := by
    rcases h with ⟨h0, h1, h2⟩ | ⟨h0, h1, h2⟩
    · have h3 := fm_pos x h0
      have h4 := fm_lt x (show a ≠ 0 by omega)
      have : a * (x.fdiv a) < 2 * a := by omega
      have : 0 < a * (x.fdiv a) := by omega
      generalize x.fdiv a = q at *
      have q1 : q < 2 := Int.lt_of_mul_lt_mul_left (a := a) (by omega) (by omega)
      have q2 : 0 < q := Int.lt_of_mul_lt_mul_left (a := a) (by omega) (by omega)
      omega
    · have h3 := fm_npos x h0
      have h4 := fm_lt x (show a ≠ 0 by omega)
      have g : a * (x.fdiv a) = - ((-a) * (x.fdiv a)) := by rw [Int.neg_mul]; omega
      have : (-a) * (x.fdiv a) < 2 * (-a) := by omega
      have : 0 < (-a) * (x.fdiv a) := by omega
      generalize x.fdiv a = q at *
      have q1 : q < 2 := Int.lt_of_mul_lt_mul_left (a := -a) (by omega) (by omega)
      have q2 : 0 < q := Int.lt_of_mul_lt_mul_left (a := -a) (by omega) (by omega)
      omega
  rw [e] at r
  omega
theorem fd_two {a x : Int} (h : (0 < a ∧ x < - a ∧ - (2 * a) < x) ∨ (a < 0 ∧ - a < x ∧ x < - (2 * a))) : x.fdiv a = -2 := by
  have r := fm_eq x a
  rcases h with ⟨h0, h1, h2⟩ | ⟨h0, h1, h2⟩
  · have h3 := fm_pos x h0
    have h4 := fm_lt x (show a ≠ 0 by omega)
    have : a * (x.fdiv a) < - a := by omega
    have : - (3 * a) < a * (x.fdiv a) := by omega
    generalize x.fdiv a = q at *
    have q1 : q < -1 := Int.lt_of_mul_lt_mul_left (a := a) (by omega) (by omega)
    have q2 : -3 < q := Int.lt_of_mul_lt_mul_left (a := a) (by omega) (by omega)
    omega
  · have h3 := fm_npos x h0
    have h4 := fm_lt x (show a ≠ 0 by omega)
    have g : a * (x.fdiv a) = - ((-a) * (x.fdiv a)) := by rw [Int.neg_mul]; omega
    have : (-a) * (x.fdiv a) < - (-a) := by omega
    have : - (3 * (-a)) < (-a) * (x.fdiv a) := by omega
    generalize x.fdiv a = q at *
    have q1 : q < -1 := Int.lt_of_mul_lt_mul_left (a := -a) (by omega) (by omega)
    have q2 : -3 < q := Int.lt_of_mul_lt_mul_left (a := -a) (by omega) (by omega)
    omega
end Ch

namespace Ch
section
variable {R R' : Mat} {s m n i j : Nat}
theorem sw_l (a b : Nat) : sw a b a = b := by unfold sw; simp
theorem sw_r (a b : Nat) : sw a b b = a := by unfold sw; split <;> simp_all
theorem sw_n {a b k : Nat} (h : k ≠ a) (h' : k ≠ b) : sw a b k = k := by unfold sw; rw [if_neg h, if_neg h']
/-- the least number lies in the row of the one before -/
theorem cross_row (D : Red R s m n) (T : Turn R s m n s j R') (lt : (R s j).natAbs < (R s s).natAbs) (near : (R s s).natAbs < 2 * (R s j).natAbs) :
    ∃ l, s < l ∧ l < n ∧ R' s l ≠ 0 ∧ (R' s l).natAbs = (R s s).natAbs - (R s j).natAbs := by
  have hj : s < j := by
    rcases Nat.lt_or_eq_of_le T.lst.j1 with h | rfl
    · exact h
    · omega
  have sg := (D.2.2 j hj T.lst.j2).2
  have e : sS R s s j s j = R s s := by
    show R (sw s s s) (sw s j j) = _
    rw [sw_l, sw_r]
  have f : (R s s).fmod (R s j) = R s s - R s j := fm_one (by omega)
  have g := T.sl hj T.lst.j2 (by rw [e, f]; omega)
  rw [e, f] at g
  exact ⟨j, hj, T.lst.j2, by rw [g]; omega, by rw [g]; omega⟩
/-- .. in its place -/
theorem cross_col (D : Red R s m n) (T : Turn R s m n i s R') (lt : (R i s).natAbs < (R s s).natAbs) (near : (R s s).natAbs < 2 * (R i s).natAbs) :
    ∃ k, s < k ∧ k < m ∧ R' k s ≠ 0 ∧ (R' k s).natAbs = (R s s).natAbs - (R i s).natAbs := by
  have hi : s < i := by
    rcases Nat.lt_or_eq_of_le T.lst.i1 with h | rfl
    · exact h
    · omega
  have sg := (D.2.1 i hi T.lst.i2).2
  have e : sS R s i s i s = R s s := by
    show R (sw s i i) (sw s s s) = _
    rw [sw_l, sw_r]
  have f : (R s s).fmod (R i s) = R s s - R i s := fm_one (by omega)
  have g := T.ks hi T.lst.i2
  rw [e, f] at g
  exact ⟨i, hi, T.lst.i2, by rw [g]; omega, by rw [g]; omega⟩
end
set_option maxHeartbeats 8000000 in
theorem two_rows {R0 R1 R2 : Mat} {s m n i1 j1 i2 j2 i3 j3 : Nat} (hm : m ≤ s + 2) (D0 : Red R0 s m n) (T1 : Turn R0 s m n i1 j1 R1) (T2 : Turn R1 s m n i2 j2 R2) (L3 : Least R2 s m n i3 j3)
    (lt1 : (R0 i1 j1).natAbs < (R0 s s).natAbs) (lt2 : (R1 i2 j2).natAbs < (R0 i1 j1).natAbs) : 6 * (R2 i3 j3).natAbs ≤ 5 * (R0 s s).natAbs := by
  refine Nat.le_of_not_lt fun far => ?_
  have D1 := T1.red
  have D2 := T2.red
  have e1 := T1.ss
  have e2 := T2.ss
  have sm : s < m := Nat.lt_of_le_of_lt T1.lst.i1 T1.lst.i2
  have sn : s < n := Nat.lt_of_le_of_lt T1.lst.j1 T1.lst.j2
  have z3 : (R2 i3 j3).natAbs ≤ (R1 i2 j2).natAbs := by
    have := L3.le s s (Nat.le_refl _) sm (Nat.le_refl _) sn D2.1
    rw [e2] at this; exact this
  -- what is left of a number is not small
  have w1 : ∀ k l, s ≤ k → k < m → s ≤ l → l < n → R1 k l ≠ 0 → 5 * (R0 s s).natAbs < 6 * (R1 k l).natAbs := fun k l a b c d h => by
    have := T2.lst.le k l a b c d h
    omega
  have w2 : ∀ k l, s ≤ k → k < m → s ≤ l → l < n → R2 k l ≠ 0 → 5 * (R0 s s).natAbs < 6 * (R2 k l).natAbs := fun k l a b c d h => by
    have := L3.le k l a b c d h
    omega
  -- the second turn's number
  rcases Nat.lt_or_eq_of_le T2.lst.i1 with hi2 | rfl
  case inr =>
    obtain ⟨l, a, b, c, d⟩ := cross_row D1 T2 (by rw [e1]; exact lt2) (by rw [e1]; omega)
    have := w2 _ l (Nat.le_refl _) sm (Nat.le_of_lt a) b c
    rw [e1] at d; omega
  rcases Nat.lt_or_eq_of_le T2.lst.j1 with hj2 | rfl
  case inr =>
    obtain ⟨k, a, b, c, d⟩ := cross_col D1 T2 (by rw [e1]; exact lt2) (by rw [e1]; omega)
    have := w2 k _ (Nat.le_of_lt a) b (Nat.le_refl _) sn c
    rw [e1] at d; omega
  -- the first turn's number
  rcases Nat.lt_or_eq_of_le T1.lst.i1 with hi1 | rfl
  case inr =>
    obtain ⟨l, a, b, c, d⟩ := cross_row D0 T1 lt1 (by omega)
    have := w1 _ l (Nat.le_refl _) sm (Nat.le_of_lt a) b c
    omega
  rcases Nat.lt_or_eq_of_le T1.lst.j1 with hj1 | rfl
  case inr =>
    obtain ⟨k, a, b, c, d⟩ := cross_col D0 T1 lt1 (by omega)
    have := w1 k _ (Nat.le_of_lt a) b (Nat.le_refl _) sn c
    omega
  obtain rfl : i1 = s + 1 := by have := T1.lst.i2; omega
  obtain rfl : i2 = s + 1 := by have := T2.lst.i2; omega
  have km : s + 1 < m := T1.lst.i2
  -- the rows behind the first swap
  have x_ss : sS R0 s (s + 1) j1 s s = R0 (s + 1) j1 := sS_ss _ _ _ _
  have x_ks : sS R0 s (s + 1) j1 (s + 1) s = R0 s j1 := by show R0 (sw s (s + 1) (s + 1)) (sw s j1 s) = _; rw [sw_r, sw_l]
  have x_sj : sS R0 s (s + 1) j1 s j1 = R0 (s + 1) s := by show R0 (sw s (s + 1) s) (sw s j1 j1) = _; rw [sw_r, sw_l]
  have x_kj : sS R0 s (s + 1) j1 (s + 1) j1 = R0 s s := by show R0 (sw s (s + 1) (s + 1)) (sw s j1 j1) = _; rw [sw_r, sw_r]
  have b_tie : R0 s j1 ≠ 0 → (R0 (s + 1) j1).natAbs < (R0 s j1).natAbs := T1.lst.lt s j1 (Nat.le_refl _) sm T1.lst.j1 T1.lst.j2 (.inl (by omega))
  have c_tie : R0 (s + 1) s ≠ 0 → (R0 (s + 1) j1).natAbs < (R0 (s + 1) s).natAbs := T1.lst.lt (s + 1) s (by omega) km (Nat.le_refl _) sn (.inr ⟨rfl, hj1⟩)
  have b_red := D0.2.2 j1 hj1 T1.lst.j2
  have c_red := D0.2.1 (s + 1) (by omega) km
  have y_ks : R1 (s + 1) s = (R0 s j1).fmod (R0 (s + 1) j1) := by rw [T1.ks (by omega) km, x_ks]
  have y_kj : R1 (s + 1) j1 = R0 s s - (R0 s j1).fdiv (R0 (s + 1) j1) * R0 (s + 1) s - (R0 (s + 1) s).fdiv (R0 (s + 1) j1) * (R0 s j1 - (R0 s j1).fdiv (R0 (s + 1) j1) * R0 (s + 1) j1) := by
    rw [T1.kl (by omega) km hj1 T1.lst.j2, cc_kl _ (by omega) km hj1 T1.lst.j2, x_ss, x_ks, x_sj, x_kj]
  have y_kl : ∀ l, s < l → l < n → l ≠ j1 → R0 s j1 = 0 → R1 (s + 1) l = R0 s l := fun l a b c h => by
    rw [T1.kl (by omega) km a b, cc_kl _ (by omega) km a b, x_ss, x_ks, h]
    have : sS R0 s (s + 1) j1 (s + 1) l = R0 s l := by show R0 (sw s (s + 1) (s + 1)) (sw s j1 l) = _; rw [sw_r, sw_n (by omega) c]
    rw [this]
    simp
  -- the rows behind the second swap
  have u_so : sS R1 s (s + 1) j2 s j2 = R1 (s + 1) s := by show R1 (sw s (s + 1) s) (sw s j2 j2) = _; rw [sw_r, sw_l]
  have u_sj : j1 ≠ j2 → sS R1 s (s + 1) j2 s j1 = R1 (s + 1) j1 := fun h => by show R1 (sw s (s + 1) s) (sw s j2 j1) = _; rw [sw_l, sw_n (by omega) h]
  have y_tie : R1 (s + 1) s ≠ 0 → (R1 (s + 1) j2).natAbs < (R1 (s + 1) s).natAbs := T2.lst.lt (s + 1) s (by omega) km (Nat.le_refl _) sn (.inr ⟨rfl, hj2⟩)
  -- a rest in the second turn's row is small
  have out : ∀ (l : Nat) (x : Int), s < l → l < n → sS R1 s (s + 1) j2 s l = x → x.fmod (R1 (s + 1) j2) ≠ 0 → 5 * (R0 s s).natAbs < 6 * (x.fmod (R1 (s + 1) j2)).natAbs := fun l x a b e h => by
    have g := T2.sl a b (by rw [e]; exact h)
    have := w2 s l (Nat.le_refl _) sm (Nat.le_of_lt a) b (by rw [g, e]; exact h)
    rw [g, e] at this
    exact this
  have far1 : 5 * (R0 s s).natAbs < 6 * (R1 (s + 1) j2).natAbs := by omega
  by_cases hb : R0 s j1 = 0
  · -- row s stands as it was
    have ekj : R1 (s + 1) j1 = R0 s s := by rw [y_kj, hb]; simp
    have hne : j1 ≠ j2 := fun h => by
      subst h
      rw [ekj] at lt2; omega
    have e2' := y_kl j2 hj2 T2.lst.j2 (fun h => hne h.symm) hb
    have sg := (D0.2.2 j2 hj2 T2.lst.j2).2
    have ne2 := T2.lst.ne
    clear y_kj
    have f : (R0 s s).fmod (R1 (s + 1) j2) = R0 s s - R1 (s + 1) j2 := fm_one (by omega)
    have := out j1 (R0 s s) hj1 T1.lst.j2 (by rw [u_sj hne, ekj]) (by rw [f]; omega)
    rw [f] at this
    omega
  · have hb2 := b_tie hb
    have ne1 := T1.lst.ne
    have Y1 : ∀ _ : Unit, R0 (s + 1) s = 0 → R1 (s + 1) j1 = R0 s s := fun _ h => by rw [y_kj, h]; simp
    have Y2 : ∀ _ : Unit, (R0 s j1).fdiv (R0 (s + 1) j1) = -2 → (R0 (s + 1) s).fdiv (R0 (s + 1) j1) = -2 → R1 (s + 1) j1 = R0 s s + 2 * R0 s j1 + 2 * R0 (s + 1) s + 4 * R0 (s + 1) j1 := fun _ h h' => by rw [y_kj, h, h']; omega
    have hc3 : R0 (s + 1) s = 0 ∨ (R0 (s + 1) j1).natAbs < (R0 (s + 1) s).natAbs := by
      by_cases hc : R0 (s + 1) s = 0
      · exact .inl hc
      · exact .inr (c_tie hc)
    have tyU : ∀ _ : Unit, R1 (s + 1) s ≠ 0 → (R1 (s + 1) j2).natAbs < (R1 (s + 1) s).natAbs := fun _ => y_tie
    have yU : ∀ _ : Unit, R1 (s + 1) s = (R0 s j1).fmod (R0 (s + 1) j1) := fun _ => y_ks
    clear y_kj b_tie c_tie y_tie y_ks x_ss x_ks x_sj x_kj y_kl e1 e2 z3
    -- the same sign: the rest is small
    by_cases hs : (0 < R0 (s + 1) j1 ∧ 0 < R0 s j1) ∨ (R0 (s + 1) j1 < 0 ∧ R0 s j1 < 0)
    · have f : (R0 s j1).fmod (R0 (s + 1) j1) = R0 s j1 - R0 (s + 1) j1 := fm_one (by omega)
      have := w1 (s + 1) s (by omega) km (Nat.le_refl _) sn (by rw [yU (), f]; omega)
      rw [yU (), f] at this
      omega
    · have p2 : (R0 s j1).fdiv (R0 (s + 1) j1) = -2 := fd_two (by omega)
      have ey : R1 (s + 1) s = R0 s j1 + 2 * R0 (s + 1) j1 := by rw [yU (), Int.fmod_def, p2]; omega
      have ny : R1 (s + 1) s ≠ 0 := by rw [ey]; omega
      have ty := tyU () ny
      have ex' : R1 (s + 1) j1 = R0 s s ∨ (R0 (s + 1) s ≠ 0 ∧ R1 (s + 1) j1 = R0 s s + 2 * R0 s j1 + 2 * R0 (s + 1) s + 4 * R0 (s + 1) j1) := by
        rcases Decidable.em (R0 (s + 1) s = 0) with hc | hc
        · exact .inl (Y1 () hc)
        · have q2 : (R0 (s + 1) s).fdiv (R0 (s + 1) j1) = -2 := fd_two (by omega)
          exact .inr ⟨hc, Y2 () p2 q2⟩
      have hne : j1 ≠ j2 := fun h => by
        subst h
        omega
      by_cases ht : (0 < R1 (s + 1) j2 ∧ 0 < R0 (s + 1) j1) ∨ (R1 (s + 1) j2 < 0 ∧ R0 (s + 1) j1 < 0)
      · have f : (R1 (s + 1) s).fmod (R1 (s + 1) j2) = R1 (s + 1) s - R1 (s + 1) j2 := fm_one (by omega)
        have := out j2 _ hj2 T2.lst.j2 u_so (by rw [f]; omega)
        rw [f] at this
        omega
      · have ne2 := T2.lst.ne
        have f : (R1 (s + 1) j1).fmod (R1 (s + 1) j2) = R1 (s + 1) j1 - R1 (s + 1) j2 := fm_one (by omega)
        have := out j1 _ hj1 T1.lst.j2 (u_sj hne) (by rw [f]; omega)
        rw [f] at this
        omega
end Ch

/-! How many turns settle takes. -/
namespace Ch
def Low (R : Mat) (s m n a : Nat) : Prop := ∃ k l, s ≤ k ∧ k < m ∧ s ≤ l ∧ l < n ∧ R k l ≠ 0 ∧ (R k l).natAbs < a
theorem Least.low {R : Mat} {s m n i j a : Nat} (L : Least R s m n i j) (h : Low R s m n a) : (R i j).natAbs < a := by
  obtain ⟨k, l, h1, h2, h3, h4, h5, h6⟩ := h
  exact Nat.lt_of_le_of_lt (L.le k l h1 h2 h3 h4 h5) h6
theorem one_row {R0 R1 : Mat} {s m n i1 j1 i2 j2 : Nat} (hm : m ≤ s + 1) (D0 : Red R0 s m n) (T1 : Turn R0 s m n i1 j1 R1) (L2 : Least R1 s m n i2 j2) (lt1 : (R0 i1 j1).natAbs < (R0 s s).natAbs) (lt2 : (R1 i2 j2).natAbs < (R0 i1 j1).natAbs) :
    2 * (R1 i2 j2).natAbs ≤ (R0 s s).natAbs := by
  rcases Nat.lt_or_ge (R0 s s).natAbs (2 * (R0 i1 j1).natAbs) with near | far
  · obtain rfl : i1 = s := by have := T1.lst.i1; have := T1.lst.i2; omega
    have sm : i1 < m := T1.lst.i2
    obtain ⟨l, a, b, c, d⟩ := cross_row D0 T1 lt1 near
    have := L2.le _ l (Nat.le_refl _) sm (Nat.le_of_lt a) b c
    omega
  · omega
def Fall (R : Mat) (s m n c : Nat) : Prop := 1 ≤ c ∧
  (Low R s m n (c + 1) ∨
  (m ≤ s + 2 ∧ ∃ t,
    (c = 3 * t + 3 ∧ ∃ a, Low R s m n (a + 1) ∧ a * 5 ^ t ≤ 6 ^ t) ∨
    (c = 3 * t + 2 ∧ Red R s m n ∧ (R s s).natAbs * 5 ^ t ≤ 6 ^ t ∧ Low R s m n (R s s).natAbs) ∨
    (c = 3 * t + 1 ∧ ∃ R0 i j, Red R0 s m n ∧ Turn R0 s m n i j R ∧ (R0 i j).natAbs < (R0 s s).natAbs ∧ (R0 s s).natAbs * 5 ^ t ≤ 6 ^ t ∧ Low R s m n (R0 i j).natAbs) ∨
    (c = 3 * t ∧ ∃ R0 R1 i j i' j', Red R0 s m n ∧ Turn R0 s m n i j R1 ∧ Turn R1 s m n i' j' R ∧ (R0 i j).natAbs < (R0 s s).natAbs ∧ (R1 i' j').natAbs < (R0 i j).natAbs ∧ (R0 s s).natAbs * 5 ^ t ≤ 6 ^ t ∧ Low R s m n (R1 i' j').natAbs)) ∨
  (m ≤ s + 1 ∧ ∃ e,
    (c = 2 * e + 2 ∧ Low R s m n (2 ^ e)) ∨
    (c = 2 * e + 1 ∧ Red R s m n ∧ (R s s).natAbs < 2 ^ e ∧ Low R s m n (R s s).natAbs) ∨
    (c = 2 * e ∧ ∃ R0 i j, Red R0 s m n ∧ Turn R0 s m n i j R ∧ (R0 i j).natAbs < (R0 s s).natAbs ∧ (R0 s s).natAbs < 2 ^ e ∧ Low R s m n (R0 i j).natAbs)))
theorem six {a b t : Nat} (h : a * 5 ^ (t + 1) ≤ 6 ^ (t + 1)) (k : 6 * b ≤ 5 * a) : b * 5 ^ t ≤ 6 ^ t := by
  rw [Nat.pow_succ, Nat.pow_succ] at h
  generalize 5 ^ t = u at *
  generalize 6 ^ t = v at *
  have h1 : 6 * b * u ≤ 5 * a * u := Nat.mul_le_mul_right u k
  have e1 : 6 * b * u = 6 * (b * u) := Nat.mul_assoc _ _ _
  have e2 : 5 * a * u = a * (u * 5) := by grind
  omega
theorem Fall.next {R R' : Mat} {s m n c i j : Nat} (F : Fall R s m n c) (T : Turn R s m n i j R') (h : Low R' s m n (R i j).natAbs) : ∃ c', c' < c ∧ Fall R' s m n c' := by
  obtain ⟨c1, F⟩ := F
  have ne := T.lst.ne
  rcases F with F | ⟨hm, t, F⟩ | ⟨hm, e, F⟩
  · have a := T.lst.low F
    have h' := h
    obtain ⟨k, l, h1, h2, h3, h4, h5, h6⟩ := h'
    exact ⟨c - 1, by omega, by omega, .inl ⟨k, l, h1, h2, h3, h4, h5, by omega⟩⟩
  · rcases F with ⟨rfl, a, F, le⟩ | ⟨rfl, D, le, F⟩ | ⟨rfl, R0, i0, j0, D, T0, lt, le, F⟩ | ⟨rfl, R0, R1, i0, j0, i1, j1, D, T0, T1, lt, lt1, le, F⟩
    · have z := T.lst.low F
      refine ⟨3 * t + 2, by omega, by omega, .inr (.inl ⟨hm, t, .inr (.inl ⟨rfl, T.red, ?_, ?_⟩)⟩)⟩
      · rw [T.ss]
        exact Nat.le_trans (Nat.mul_le_mul_right _ (by omega)) le
      · rw [T.ss]; exact h
    · exact ⟨3 * t + 1, by omega, by omega, .inr (.inl ⟨hm, t, .inr (.inr (.inl ⟨rfl, R, i, j, D, T, T.lst.low F, le, h⟩))⟩)⟩
    · have z := T.lst.low F
      rcases Nat.eq_zero_or_pos t with rfl | tp
      · exfalso
        have := T0.lst.ne
        simp at le
        omega
      · exact ⟨3 * t, by omega, by omega, .inr (.inl ⟨hm, t, .inr (.inr (.inr ⟨rfl, R0, R, i0, j0, i, j, D, T0, T, lt, z, le, h⟩))⟩)⟩
    · obtain ⟨t', rfl⟩ : ∃ t', t = t' + 1 := ⟨t - 1, by omega⟩
      have z := two_rows hm D T0 T1 T.lst lt lt1
      refine ⟨3 * t' + 2, by omega, by omega, .inr (.inl ⟨hm, t', .inr (.inl ⟨rfl, T.red, ?_, ?_⟩)⟩)⟩
      · rw [T.ss]; exact six le z
      · rw [T.ss]; exact h
  · rcases F with ⟨rfl, F⟩ | ⟨rfl, D, le, F⟩ | ⟨rfl, R0, i0, j0, D, T0, lt, le, F⟩
    · have z := T.lst.low F
      refine ⟨2 * e + 1, by omega, by omega, .inr (.inr ⟨hm, e, .inr (.inl ⟨rfl, T.red, ?_, ?_⟩)⟩)⟩
      · rw [T.ss]; exact z
      · rw [T.ss]; exact h
    · refine ⟨2 * e, by omega, ?_, .inr (.inr ⟨hm, e, .inr (.inr ⟨rfl, R, i, j, D, T, T.lst.low F, le, h⟩)⟩)⟩
      rcases Nat.eq_zero_or_pos e with rfl | ep
      · have := D.1; simp at le; omega
      · omega
    · obtain ⟨e', rfl⟩ : ∃ e', e = e' + 1 := ⟨e - 1, by omega⟩
      have z := one_row hm D T0 T.lst lt (T.lst.low F)
      refine ⟨2 * e' + 1, by omega, by omega, .inr (.inr ⟨hm, e', .inr (.inl ⟨rfl, T.red, ?_, ?_⟩)⟩)⟩
      · rw [T.ss]; rw [Nat.pow_succ] at le; omega
      · rw [T.ss]; exact h
end Ch

/-! Sizes through the turns of a step. -/
namespace Ch
structure St where
  R : Mat
  V : Mat
  B : Mat
def St.swp (x : St) (s i j : Nat) : St := ⟨sS x.R s i j, sC x.V s j, sR x.B s j⟩
def St.cc (x : St) (s m n : Nat) : St := ⟨Ch.cc x.R s m n, cC x.V (qs x.R s) s n, cB x.B (qs x.R s) s n⟩
def St.add (x : St) (s k : Nat) : St := ⟨tR x.R s k (-1), x.V, x.B⟩
/-- the state behind the swaps and the first clearing -/
def St.one (x : St) (s m n i j : Nat) : St := (x.swp s i j).cc s m n
structure TurnS (x : St) (s m n i j : Nat) (x' : St) : Prop where
  lst : Least x.R s m n i j
  is : x' = x.one s m n i j ∨ ∃ k, Clean (x.one s m n i j).R s m n ∧ s < k ∧ k < m ∧ x' = ((x.one s m n i j).add s k).cc s m n
theorem TurnS.turn {x x' : St} {s m n i j : Nat} (T : TurnS x s m n i j x') : Turn x.R s m n i j x'.R where
  lst := T.lst
  is := by
    rcases T.is with e | ⟨k, c, a, b, e⟩
    · exact .inl (by rw [e]; rfl)
    · exact .inr ⟨k, c, a, b, by rw [e]; rfl⟩
section
variable {R R' : Mat} {s m n i j X : Nat}
theorem Turn.k2 (T : Turn R s m n i j R') (h : B2 R s m n X) : K2 R' s m n X := fun k l a b c d => by
  have e : (d2 (cc (sS R s i j) s m n) s k s l).natAbs ≤ X := by
    rw [cc_d2 _ a b c d]
    exact (h.swap T.lst.i1 T.lst.i2 T.lst.j1 T.lst.j2).keep k l a b c d
  rcases T.is with z | ⟨k', h', f, f', z⟩
  · rw [z]; exact e
  · rw [z, od_d2 h' f f' a b c d]; exact e
theorem Turn.k3 (T : Turn R s m n i j R') (h : B3 R s m n X) : K3 R' s m n X := fun k k' l l' a b a' b' c d c' d' => by
  have e : (d3 (cc (sS R s i j) s m n) s k k' s l l').natAbs ≤ X := by
    rw [cc_d3 _ a b a' b' c d c' d']
    exact (h.swap T.lst.i1 T.lst.i2 T.lst.j1 T.lst.j2).keep k k' l l' a b a' b' c d c' d'
  rcases T.is with z | ⟨k0, h', f, f', z⟩
  · rw [z]; exact e
  · rw [z, od_d3 h' f f' a b a' b' c d c' d']; exact e
/-- two rows, two places -/
theorem Cross.b2sq (C : Cross R s m n) (hm : m ≤ s + 2) (hn : n ≤ s + 2) (h : K2 R s m n X) : B2 R s m n X := by
  intro k k' l l' a b c d e f g i
  rcases Nat.lt_or_eq_of_le e with e | rfl <;> rcases Nat.lt_or_eq_of_le g with g | rfl
  · obtain rfl : l = l' := by omega
    rw [d2_samec]; exact Nat.zero_le _
  · rcases Nat.lt_or_eq_of_le a with a | rfl <;> rcases Nat.lt_or_eq_of_le c with c | rfl
    · obtain rfl : k = k' := by omega
      rw [d2_same]; exact Nat.zero_le _
    · rw [d2_rows, d2_cols]; have := h k l a b e f; omega
    · rw [d2_cols]; have := h k' l c d e f; omega
    · rw [d2_same]; exact Nat.zero_le _
  · rcases Nat.lt_or_eq_of_le a with a | rfl <;> rcases Nat.lt_or_eq_of_le c with c | rfl
    · obtain rfl : k = k' := by omega
      rw [d2_same]; exact Nat.zero_le _
    · rw [d2_rows]; have := h k l' a b g i; omega
    · exact h k' l' c d g i
    · rw [d2_same]; exact Nat.zero_le _
  · rw [d2_samec]; exact Nat.zero_le _
theorem Cross.b2one (hm : m ≤ s + 1) : B2 R s m n X := fun k k' l l' a b c d _ _ _ _ => by
  obtain rfl : k = k' := by omega
  rw [d2_same]; exact Nat.zero_le _
/-- which growth -/
def Gr (g s m n : Nat) : Prop := m ≤ s + 3 ∧ 1 ≤ g ∧ (m = s + 3 → 5 ≤ g) ∧ (m = s + 2 → n ≤ s + 2 ∨ 2 ≤ g)
theorem Cross.grow {g : Nat} (C : Cross R s m n) (G : Gr g s m n) (h : K2 R s m n X) (h3 : m = s + 3 → K3 R s m n X) : B2 R s m n (g * X) ∧ (m = s + 3 → B3 R s m n (g * X)) := by
  obtain ⟨g0, g1, g5, g2⟩ := G
  have up : ∀ c, c ≤ g → c * X ≤ g * X := fun c h => Nat.mul_le_mul_right X h
  constructor
  · intro k k' l l' a b c d e f i o
    by_cases e3 : m = s + 3
    · exact Nat.le_trans (C.b2 h (h3 e3) k k' l l' a b c d e f i o) (up 5 (g5 e3))
    · by_cases e2 : m = s + 2
      · rcases g2 e2 with q | q
        · exact Nat.le_trans (C.b2sq (by omega) q h k k' l l' a b c d e f i o) (by simpa using up 1 g1)
        · exact Nat.le_trans (C.b2' (by omega) h k k' l l' a b c d e f i o) (up 2 q)
      · exact Cross.b2one (X := g * X) (n := n) (by omega) k k' l l' a b c d e f i o
  · intro e3 k k' k'' l l' l'' a b c d e f i o i' o' i'' o''
    exact Nat.le_trans (C.b3 (by omega) (h3 e3) k k' k'' l l' l'' a b c d e f i o i' o' i'' o'') (up 3 (by have := g5 e3; omega))
end
/-! the tables -/
def BT (V B : Mat) (n W : Nat) : Prop := ∀ a b, a < n → b < n → (V a b).natAbs ≤ W ∧ (B a b).natAbs ≤ W
theorem cC_le {V : Mat} {q : Nat → Int} {s n L W Q : Nat} (hV : ∀ a b, a < n → b < n → (V a b).natAbs ≤ W) (hL : L ≤ n) (hs : s < n) (hq : ∀ l, s < l → l < n → (q l).natAbs ≤ Q) {a b : Nat} (ha : a < n) (hb : b < n) : (cC V q s L a b).natAbs ≤ W * (1 + 6 * Q) := by
  have h1 := hV a b ha hb
  have e : W * (1 + 6 * Q) = W + 6 * (W * Q) := by rw [Nat.mul_add, Nat.mul_one, Nat.mul_left_comm]
  rw [e]
  unfold cC
  by_cases h : s < b ∧ b < L
  · rw [if_pos h]
    have h2 := nab_mul_le (hq b h.1 hb) (hV a s ha hs)
    rw [Nat.mul_comm Q W] at h2
    omega
  · rw [if_neg h]; omega
theorem cB_le {B : Mat} {q : Nat → Int} {s n W Q : Nat} (hB : ∀ a b, a < n → b < n → (B a b).natAbs ≤ W) (hq : ∀ l, s < l → l < n → (q l).natAbs ≤ Q) : ∀ L, L ≤ n → ∀ a b, a < n → b < n → (cB B q s L a b).natAbs ≤ W + L * (W * Q)
  | 0, _, a, b, ha, hb => by have := hB a b ha hb; show (B a b).natAbs ≤ _; omega
  | L + 1, hL, a, b, ha, hb => by
    have ih := cB_le hB hq L (by omega) a b ha hb
    have e : (L + 1) * (W * Q) = L * (W * Q) + W * Q := by rw [Nat.add_mul, Nat.one_mul]
    unfold cB
    by_cases h : a = s ∧ s < L
    · rw [if_pos h]
      obtain ⟨rfl, h⟩ := h
      have h2 := nab_mul_le (a := - q L) (b := B L b) (x := Q) (y := W) (by have := hq L h (by omega); omega) (hB L b (by omega) hb)
      rw [Nat.mul_comm Q W] at h2
      omega
    · rw [if_neg h]; omega
theorem BT.cc {x : St} {s m n W Q L : Nat} (h : BT x.V x.B n W) (hn : n ≤ 6) (hs : s < n) (hL : L ≤ n) (hq : ∀ l, s < l → l < n → (x.R s l).natAbs ≤ Q) (h0 : x.R s s ≠ 0) : BT (cC x.V (qs x.R s) s L) (cB x.B (qs x.R s) s L) n (W * (1 + 6 * Q)) := by
  have q' : ∀ l, s < l → l < n → (qs x.R s l).natAbs ≤ Q := fun l a b => Nat.le_trans (fd_le _ h0) (hq l a b)
  intro a b ha hb
  refine ⟨cC_le (fun a b ha hb => (h a b ha hb).1) hL hs q' ha hb, ?_⟩
  have := cB_le (fun a b ha hb => (h a b ha hb).2) q' L hL a b ha hb
  have z : L * (W * Q) ≤ 6 * (W * Q) := Nat.mul_le_mul_right _ (by omega)
  have e : W * (1 + 6 * Q) = W + 6 * (W * Q) := by rw [Nat.mul_add, Nat.mul_one, Nat.mul_left_comm]
  omega
theorem BT.swp {x : St} {s n W i j : Nat} (h : BT x.V x.B n W) (hs : s < n) (hj : j < n) : BT (x.swp s i j).V (x.swp s i j).B n W := by
  have lt : ∀ l, l < n → sw s j l < n := fun l h => by unfold sw; split <;> (try split) <;> omega
  intro a b ha hb
  exact ⟨(h a (sw s j b) ha (lt b hb)).1, (h (sw s j a) b (lt a ha) hb).2⟩
/-- the sizes at a turn of step s -/
structure Sz (s m n : Nat) (x : St) (g P M Xm K Wm c : Nat) : Prop where
  fall : Fall x.R s m n c
  piv : Low x.R s m n (P + 1)
  b1 : B1 x.R s m n M
  x2 : ∃ X, B2 x.R s m n X ∧ (m = s + 3 → B3 x.R s m n X) ∧ X * g ^ c ≤ Xm
  w : ∃ W, BT x.V x.B n W ∧ W * K ^ c ≤ Wm
/-- how the numbers of a step hang together; K: a turn's growth of the tables -/
structure Par (s m n g P M Xm K : Nat) : Prop where
  gr : Gr g s m n
  n6 : n ≤ 6
  hM : Xm + P ≤ M
  hK : (1 + 6 * M) ≤ K
  hK2 : s + 1 < m → (1 + 6 * M) * (1 + 6 * M) ≤ K
theorem mul_pow_lt {X K c c' : Nat} (h : c' < c) (hK : 1 ≤ K) : X * K * K ^ c' ≤ X * K ^ c := by
  have : K * K ^ c' ≤ K ^ c := by
    rw [Nat.mul_comm, ← Nat.pow_succ]
    exact Nat.pow_le_pow_right hK h
  rw [Nat.mul_assoc]
  exact Nat.mul_le_mul_left _ this
section
variable {s m n g P M Xm K Wm c i j : Nat} {x x' : St}
/-- what the first clearing leaves -/
structure Mid (s m n : Nat) (x : St) (x1 : St) (g P M Xm K Wm : Nat) (c : Nat) : Prop where
  red : Red x1.R s m n
  b1 : B1 x1.R s m n M
  x2 : ∃ X, B2 x1.R s m n (g * X) ∧ (m = s + 3 → B3 x1.R s m n (g * X)) ∧ X * g ^ c ≤ Xm ∧ K2 x1.R s m n X ∧ (m = s + 3 → K3 x1.R s m n X)
  w : ∃ W, BT x1.V x1.B n (W * (1 + 6 * M)) ∧ W * K ^ c ≤ Wm
theorem Sz.lt (Z : Sz s m n x g P M Xm K Wm c) (L : Least x.R s m n i j) : (x.R i j).natAbs ≤ P := Nat.le_of_lt_succ (L.low Z.piv)
theorem Sz.mid (Z : Sz s m n x g P M Xm K Wm c) (p : Par s m n g P M Xm K) (L : Least x.R s m n i j) : Mid s m n x (x.one s m n i j) g P M Xm K Wm c := by
  have T : Turn x.R s m n i j (x.one s m n i j).R := ⟨L, .inl rfl⟩
  obtain ⟨X, h2, h3, hX⟩ := Z.x2
  obtain ⟨W, hW, hWm⟩ := Z.w
  have sn : s < n := Nat.lt_of_le_of_lt L.j1 L.j2
  have sm : s < m := Nat.lt_of_le_of_lt L.i1 L.i2
  have C := T.red.cross
  have k2 := T.k2 h2
  have k3 : m = s + 3 → K3 (x.one s m n i j).R s m n X := fun e => T.k3 (h3 e)
  have G := C.grow p.gr k2 k3
  have gc : 1 ≤ g ^ c := Nat.pow_pos (by have := p.gr.2.1; omega)
  have X1 : X ≤ Xm := Nat.le_trans (Nat.le_mul_of_pos_right X gc) hX
  refine ⟨T.red, fun k l a b d e => ?_, ⟨X, G.1, G.2, hX, k2, k3⟩, ⟨W, ?_, hWm⟩⟩
  · have := C.b1 k2 k l a b d e
    rw [T.ss] at this
    have := Z.lt L
    have := p.hM
    omega
  · refine (BT.swp (i := i) hW sn L.j2).cc (x := x.swp s i j) (m := m) p.n6 sn (Nat.le_refl _) (fun l a b => ?_) (by show sS x.R s i j s s ≠ 0; rw [sS_ss]; exact L.ne)
    exact (Z.b1.swap L.i1 L.i2 L.j1 L.j2) s l (Nat.le_refl _) sm (Nat.le_of_lt a) b
theorem Sz.next (Z : Sz s m n x g P M Xm K Wm c) (p : Par s m n g P M Xm K) (T : TurnS x s m n i j x') (h : Low x'.R s m n (x.R i j).natAbs) : ∃ c', c' < c ∧ Sz s m n x' g P M Xm K Wm c' := by
  have L := T.lst
  have D := Z.mid p L
  have sn : s < n := Nat.lt_of_le_of_lt L.j1 L.j2
  obtain ⟨c', hc, F⟩ := Z.fall.next T.turn h
  obtain ⟨X, h2, h3, hX, k2, k3⟩ := D.x2
  obtain ⟨W, hW, hWm⟩ := D.w
  have P1 := Z.lt L
  have gp : 1 ≤ g := p.gr.2.1
  have Kp : 1 ≤ K := Nat.le_trans (by omega) p.hK
  have hX' : g * X * g ^ c' ≤ Xm := by
    rw [Nat.mul_comm g X]
    exact Nat.le_trans (mul_pow_lt hc gp) hX
  have X1 : X ≤ Xm := Nat.le_trans (Nat.le_mul_of_pos_right X (Nat.pow_pos gp)) hX
  have low : Low x'.R s m n (P + 1) := by
    obtain ⟨k, l, a1, a2, a3, a4, a5, a6⟩ := h
    exact ⟨k, l, a1, a2, a3, a4, a5, by omega⟩
  refine ⟨c', hc, F, low, ?_, ?_, ?_⟩
  · rcases T.is with e | ⟨k, cl, a, b, e⟩
    · rw [e]; exact D.b1
    · intro k' l a1 a2 a3 a4
      have C := T.turn.red.cross
      obtain ⟨X0, g2, g3, gX⟩ := Z.x2
      have X01 : X0 ≤ Xm := Nat.le_trans (Nat.le_mul_of_pos_right X0 (Nat.pow_pos gp)) gX
      have := C.b1 (T.turn.k2 g2) k' l a1 a2 a3 a4
      rw [T.turn.ss] at this
      have := p.hM
      omega
  · rcases T.is with e | ⟨k, cl, a, b, e⟩
    · exact ⟨g * X, by rw [e]; exact h2, by rw [e]; exact h3, hX'⟩
    · have C := T.turn.red.cross
      obtain ⟨X0, g2, g3, gX⟩ := Z.x2
      have G := C.grow p.gr (T.turn.k2 g2) (fun e3 => T.turn.k3 (g3 e3))
      refine ⟨g * X0, G.1, G.2, ?_⟩
      rw [Nat.mul_comm g X0]
      exact Nat.le_trans (mul_pow_lt hc gp) gX
  · rcases T.is with e | ⟨k, cl, a, b, e⟩
    · refine ⟨W * (1 + 6 * M), by rw [e]; exact hW, ?_⟩
      refine Nat.le_trans ?_ (Nat.le_trans (mul_pow_lt (X := W) hc Kp) hWm)
      exact Nat.mul_le_mul_right _ (Nat.mul_le_mul_left _ p.hK)
    · refine ⟨W * (1 + 6 * M) * (1 + 6 * M), ?_, ?_⟩
      · rw [e]
        refine BT.cc (x := (x.one s m n i j).add s k) (m := m) hW p.n6 sn (Nat.le_refl _) (fun l c d => ?_) ?_
        · show (tR (x.one s m n i j).R s k (-1) s l).natAbs ≤ M
          rw [tR_s cl a b c d]
          exact D.b1 k l (Nat.le_of_lt a) b (Nat.le_of_lt c) d
        · show tR (x.one s m n i j).R s k (-1) s s ≠ 0
          unfold tR
          rw [if_pos rfl, cl.1 k a b]
          have := D.red.1
          omega
      · refine Nat.le_trans ?_ (Nat.le_trans (mul_pow_lt (X := W) hc Kp) hWm)
        rw [Nat.mul_assoc W]
        exact Nat.mul_le_mul_right _ (Nat.mul_le_mul_left _ (p.hK2 (by omega)))
end
end Ch

/-! Sums, spans of rows, and what the operations leave of them. -/
namespace Ch
def sm : Nat → (Nat → Int) → Int
  | 0, _ => 0
  | n + 1, f => sm n f + f n
theorem sm_congr {n : Nat} {f g : Nat → Int} (h : ∀ k, k < n → f k = g k) : sm n f = sm n g := by
  induction n with
  | zero => rfl
  | succ n ih => show sm n f + f n = sm n g + g n; rw [ih fun k a => h k (by omega), h n (by omega)]
theorem sm_zero (n : Nat) : sm n (fun _ => 0) = 0 := by
  induction n with
  | zero => rfl
  | succ n ih => show sm n (fun _ => 0) + 0 = 0; rw [ih]; rfl
theorem sm_add (n : Nat) (f g : Nat → Int) : sm n (fun k => f k + g k) = sm n f + sm n g := by
  induction n with
  | zero => rfl
  | succ n ih => show sm n (fun k => f k + g k) + (f n + g n) = (sm n f + f n) + (sm n g + g n); rw [ih]; omega
theorem sm_mul (n : Nat) (c : Int) (f : Nat → Int) : sm n (fun k => c * f k) = c * sm n f := by
  induction n with
  | zero => show (0 : Int) = c * 0; omega
  | succ n ih => show sm n (fun k => c * f k) + c * f n = c * (sm n f + f n); rw [ih, Int.mul_add]
theorem sm_mulr (n : Nat) (c : Int) (f : Nat → Int) : sm n (fun k => f k * c) = sm n f * c := by
  rw [Int.mul_comm, ← sm_mul]; exact sm_congr fun k _ => Int.mul_comm _ _
theorem sm_swap (m n : Nat) (f : Nat → Nat → Int) : sm m (fun k => sm n (fun l => f k l)) = sm n (fun l => sm m (fun k => f k l)) := by
  induction m with
  | zero => exact (sm_zero n).symm
  | succ m ih => show sm m _ + sm n _ = sm n (fun l => sm m (fun k => f k l) + f m l); rw [sm_add, ih]
/-- a single one -/
theorem sm_one {n : Nat} {f : Nat → Int} {k : Nat} (hk : k < n) (h : ∀ l, l < n → l ≠ k → f l = 0) : sm n f = f k := by
  induction n with
  | zero => omega
  | succ n ih =>
    show sm n f + f n = f k
    by_cases e : k = n
    · subst e
      rw [sm_congr (g := fun _ => 0) fun l a => h l (by omega) (by omega), sm_zero]; omega
    · rw [ih (by omega) fun l a b => h l (by omega) b, h n (by omega) (by omega)]; omega
def Span (R : Mat) (m n : Nat) (y : Nat → Int) : Prop := ∃ t : Nat → Int, ∀ l, l < n → y l = sm m (fun k => t k * R k l)
section
variable {R R' : Mat} {m n : Nat} {y z : Nat → Int}
theorem Span.congr (h : Span R m n y) (e : ∀ l, l < n → z l = y l) : Span R m n z := by
  obtain ⟨t, ht⟩ := h
  exact ⟨t, fun l a => by rw [e l a, ht l a]⟩
theorem Span.add (h : Span R m n y) (h' : Span R m n z) : Span R m n (fun l => y l + z l) := by
  obtain ⟨t, ht⟩ := h
  obtain ⟨u, hu⟩ := h'
  refine ⟨fun k => t k + u k, fun l a => ?_⟩
  show y l + z l = _
  rw [ht l a, hu l a, ← sm_add]
  exact sm_congr fun k _ => (Int.add_mul _ _ _).symm
theorem Span.mul (c : Int) (h : Span R m n y) : Span R m n (fun l => c * y l) := by
  obtain ⟨t, ht⟩ := h
  refine ⟨fun k => c * t k, fun l a => ?_⟩
  show c * y l = _
  rw [ht l a, ← sm_mul]
  exact sm_congr fun k _ => (Int.mul_assoc _ _ _).symm
theorem Span.nought : Span R m n (fun _ => 0) := ⟨fun _ => 0, fun l _ => by rw [sm_congr (g := fun _ => 0) fun k _ => Int.zero_mul _, sm_zero]⟩
theorem Span.row {k : Nat} (h : k < m) : Span R m n (R k) := by
  refine ⟨fun j => if j = k then 1 else 0, fun l _ => ?_⟩
  rw [sm_one h]
  · simp
  · intro j _ e; simp [e]
theorem Span.sum {p : Nat} {t : Nat → Int} {f : Mat} (h : ∀ k, k < p → Span R m n (f k)) : Span R m n (fun l => sm p (fun k => t k * f k l)) := by
  induction p with
  | zero => exact Span.nought
  | succ p ih => exact (ih fun k a => h k (by omega)).add ((h p (by omega)).mul (t p))
theorem Span.mono (h : Span R m n y) (k : ∀ k, k < m → Span R' m n (R k)) : Span R' m n y := by
  obtain ⟨t, ht⟩ := h
  exact (Span.sum (t := t) k).congr ht
end
/-- x by the places' table -/
def xV (V : Mat) (n : Nat) (x : Nat → Int) : Nat → Int := fun l => sm n (fun c => x c * V c l)
/-- rows that are no sum of one another -/
def Ind (R : Mat) (m n : Nat) : Prop := ∀ t : Nat → Int, (∀ l, l < n → sm m (fun k => t k * R k l) = 0) → ∀ k, k < m → t k = 0
/-- the lattice's bond between the stair H and the rows R by the table V -/
structure Bond (H : Mat) (p : Nat) (R V : Mat) (m n : Nat) : Prop where
  tell : ∀ x, Span R m n (xV V n x) → Span H p n x
  fair : ∀ i, i < p → Span R m n (xV V n (H i))
  ind : Ind R m n
theorem xV_start (n : Nat) (x : Nat → Int) {l : Nat} (h : l < n) : xV (fun i j => if i = j then 1 else 0) n x l = x l := by
  unfold xV
  rw [sm_one h]
  · simp
  · intro c _ e; simp [e]
theorem Bond.start {H : Mat} {p n : Nat} (h : Ind H p n) : Bond H p H (fun i j => if i = j then 1 else 0) p n where
  tell x s := s.congr fun l a => (xV_start n x a).symm
  fair i a := (Span.row a).congr fun l b => xV_start n _ b
  ind := h
section
variable {H R V R' V' : Mat} {p m n : Nat}
/-- rows are changed: the old by the new, the new by the old -/
theorem Bond.rows (B : Bond H p R V m n) (h1 : ∀ k, k < m → Span R' m n (R k)) (h2 : ∀ k, k < m → Span R m n (R' k)) (hi : Ind R' m n) : Bond H p R' V m n where
  tell x s := B.tell x (s.mono h2)
  fair i a := (B.fair i a).mono h1
  ind := hi
/-- places less place s -/
theorem xV_cC (x : Nat → Int) (q : Nat → Int) (s L : Nat) {l : Nat} : xV (cC V q s L) n x l = if s < l ∧ l < L then xV V n x l - q l * xV V n x s else xV V n x l := by
  unfold xV cC
  by_cases h : s < l ∧ l < L
  · rw [if_pos h, ← sm_mul]
    have e : sm n (fun c => x c * V c l) = sm n (fun c => x c * (V c l - q l * V c s)) + sm n (fun k => q l * (x k * V k s)) := by
      rw [← sm_add]
      exact sm_congr fun k _ => by grind
    rw [e, sm_congr (n := n) (f := fun c => x c * if s < l ∧ l < L then V c l - q l * V c s else V c l) (g := fun c => x c * (V c l - q l * V c s)) fun c _ => by rw [if_pos h]]
    omega
  · rw [if_neg h]
    exact sm_congr fun c _ => by rw [if_neg h]
theorem cC_sum (t : Nat → Int) (q : Nat → Int) (s L : Nat) (l : Nat) : sm m (fun k => t k * cC R q s L k l) = if s < l ∧ l < L then sm m (fun k => t k * R k l) - q l * sm m (fun k => t k * R k s) else sm m (fun k => t k * R k l) := by
  unfold cC
  by_cases h : s < l ∧ l < L
  · rw [if_pos h, ← sm_mul]
    have e : sm m (fun k => t k * R k l) = sm m (fun k => t k * (R k l - q l * R k s)) + sm m (fun k => q l * (t k * R k s)) := by
      rw [← sm_add]
      exact sm_congr fun k _ => by grind
    rw [e, sm_congr (n := m) (f := fun k => t k * if s < l ∧ l < L then R k l - q l * R k s else R k l) (g := fun k => t k * (R k l - q l * R k s)) fun c _ => by rw [if_pos h]]
    omega
  · rw [if_neg h]
    exact sm_congr fun c _ => by rw [if_neg h]
theorem Bond.places (B : Bond H p R V m n) (q : Nat → Int) {s L : Nat} (hs : s < n) : Bond H p (cC R q s L) (cC V q s L) m n where
  tell x sp := by
    obtain ⟨t, ht⟩ := sp
    have hS := ht s hs
    rw [xV_cC, if_neg (by omega), cC_sum, if_neg (by omega)] at hS
    refine B.tell x ⟨t, fun l a => ?_⟩
    have hl := ht l a
    rw [xV_cC, cC_sum] at hl
    by_cases h : s < l ∧ l < L
    · rw [if_pos h, if_pos h, hS] at hl; omega
    · rw [if_neg h, if_neg h] at hl; exact hl
  fair i a := by
    obtain ⟨t, ht⟩ := B.fair i a
    refine ⟨t, fun l b => ?_⟩
    rw [xV_cC, cC_sum, ht l b, ht s hs]
  ind t h := by
    refine B.ind t fun l a => ?_
    have hS := h s hs
    rw [cC_sum, if_neg (by omega)] at hS
    have hl := h l a
    rw [cC_sum] at hl
    by_cases z : s < l ∧ l < L
    · rw [if_pos z, hS] at hl; omega
    · rw [if_neg z] at hl; exact hl
/-- two places change -/
theorem Bond.swapC (B : Bond H p R V m n) {a b : Nat} (ha : a < n) (hb : b < n) : Bond H p (sC R a b) (sC V a b) m n := by
  have lt : ∀ l, l < n → sw a b l < n := fun l h => by unfold sw; split <;> (try split) <;> omega
  have inv : ∀ l, sw a b (sw a b l) = l := fun l => by
    unfold sw
    by_cases h1 : l = a
    · subst h1; simp
    · by_cases h2 : l = b
      · subst h2; simp [h1]
      · simp [h1, h2]
  refine ⟨fun x sp => B.tell x ?_, fun i h => ?_, fun t h => B.ind t fun l hl => ?_⟩
  · obtain ⟨t, ht⟩ := sp
    refine ⟨t, fun l hl => ?_⟩
    have := ht (sw a b l) (lt l hl)
    unfold xV sC at this
    rw [inv] at this
    exact this
  · obtain ⟨t, ht⟩ := B.fair i h
    exact ⟨t, fun l hl => ht (sw a b l) (lt l hl)⟩
  · have := h (sw a b l) (lt l hl)
    unfold sC at this
    rw [inv] at this
    exact this
end
end Ch

namespace Ch
/-- rows less row s -/
def rR (R : Mat) (u : Nat → Int) (s : Nat) : Mat := fun k l => R k l - u k * R s l
theorem tR_rR (R : Mat) (k s : Nat) (q : Int) : tR R k s q = rR R (fun j => if j = k then q else 0) s := by
  funext j l
  unfold tR rR
  by_cases h : j = k
  · subst h; simp
  · simp [h]
theorem cR_rR (R : Mat) (s K : Nat) : cR R s K = rR R (fun k => if s < k ∧ k < K then (R k s).fdiv (R s s) else 0) s := by
  funext j l
  unfold cR rR
  by_cases h : s < j ∧ j < K
  · rw [if_pos h]; simp only [if_pos h]
  · rw [if_neg h]; simp only [if_neg h]; omega
section
variable {H R V R' V' : Mat} {p m n s : Nat}
theorem rR_sum (R : Mat) (u t : Nat → Int) (s m l : Nat) : sm m (fun k => t k * rR R u s k l) = sm m (fun k => t k * R k l) - sm m (fun k => t k * u k) * R s l := by
  rw [← sm_mulr]
  have : sm m (fun k => t k * R k l) = sm m (fun k => t k * rR R u s k l) + sm m (fun k => t k * u k * R s l) := by
    rw [← sm_add]
    exact sm_congr fun k _ => by unfold rR; grind
  omega
theorem one_sum (R : Mat) (t : Nat → Int) (c : Int) {s m : Nat} (l : Nat) (hs : s < m) : sm m (fun k => (t k - if k = s then c else 0) * R k l) = sm m (fun k => t k * R k l) - c * R s l := by
  have e : sm m (fun k => t k * R k l) = sm m (fun k => (t k - if k = s then c else 0) * R k l) + sm m (fun k => (if k = s then c else 0) * R k l) := by
    rw [← sm_add]
    exact sm_congr fun k _ => by grind
  have e2 : sm m (fun k => (if k = s then c else 0) * R k l) = c * R s l := by
    rw [sm_one hs]
    · simp
    · intro j _ h; simp [h]
  omega
theorem Ind.rR (I : Ind R m n) {u : Nat → Int} (hs : s < m) (us : u s = 0) : Ind (rR R u s) m n := by
  intro t h
  have a := I (fun k => t k - if k = s then sm m (fun k => t k * u k) else 0) fun l hl => by
    rw [one_sum _ _ _ _ hs, ← rR_sum]; exact h l hl
  have b : ∀ k, k < m → k ≠ s → t k = 0 := fun k hk e => by have := a k hk; simp [e] at this; exact this
  intro k hk
  by_cases e : k = s
  · have c := a k hk
    have z : sm m (fun k => t k * u k) = 0 := by
      rw [sm_congr (g := fun _ => 0) fun j hj => ?_, sm_zero]
      by_cases ej : j = s
      · rw [ej, us]; omega
      · rw [b j hj ej]; omega
    rw [z] at c
    simp at c
    exact c
  · exact b k hk e
theorem rR_s (R : Mat) {u : Nat → Int} (us : u s = 0) (l : Nat) : rR R u s s l = R s l := by unfold rR; rw [us]; omega
theorem Bond.rR (B : Bond H p R V m n) {u : Nat → Int} (hs : s < m) (us : u s = 0) : Bond H p (rR R u s) V m n := by
  refine B.rows (fun k hk => ?_) (fun k hk => ?_) (B.ind.rR hs us)
  · refine ((Span.row hk).add ((Span.row hs).mul (u k))).congr fun l _ => ?_
    rw [rR_s R us]; unfold Ch.rR; omega
  · refine ((Span.row hk).add ((Span.row hs).mul (- u k))).congr fun l _ => ?_
    unfold Ch.rR; grind
theorem Bond.tR (B : Bond H p R V m n) {k : Nat} {q : Int} (hs : s < m) (hk : k ≠ s) : Bond H p (tR R k s q) V m n := by
  rw [tR_rR]; exact B.rR hs (if_neg (fun h => hk h.symm))
theorem Bond.cR (B : Bond H p R V m n) {K : Nat} (hs : s < m) : Bond H p (cR R s K) V m n := by
  rw [cR_rR]; exact B.rR hs (if_neg (by omega))
theorem Bond.cc (B : Bond H p R V m n) (hs : s < m) (hn : s < n) : Bond H p (cc R s m n) (cC V (qs R s) s n) m n := (B.cR hs).places _ hn
theorem sw_inv (a b l : Nat) : sw a b (sw a b l) = l := by
  unfold sw
  by_cases h1 : l = a
  · subst h1; simp
  · by_cases h2 : l = b
    · subst h2; simp [h1]
    · simp [h1, h2]
theorem sw_lt' {a b k m : Nat} (ha : a < m) (hb : b < m) (h : k < m) : sw a b k < m := by unfold sw; split <;> (try split) <;> omega
theorem sm_sw {m a b : Nat} (ha : a < m) (hb : b < m) (f : Nat → Int) : sm m (fun k => f (sw a b k)) = sm m f := by
  -- f is its single ones; each goes over to its own place
  have one : ∀ (g : Nat → Int) (k : Nat), k < m → sm m (fun j => if j = k then g j else 0) = g k := fun g k hk => by
    rw [sm_one hk]
    · simp
    · intro j _ h; simp [h]
  rw [sm_congr (n := m) (f := fun k => f (sw a b k)) (g := fun k => sm m (fun j => if j = sw a b k then f j else 0)) fun k hk => (one f _ (sw_lt' ha hb hk)).symm, sm_swap]
  refine sm_congr fun j hj => ?_
  rw [sm_one (k := sw a b j) (sw_lt' ha hb hj)]
  · rw [sw_inv, if_pos rfl]
  · intro l _ h
    rw [if_neg]
    intro e
    rw [e, sw_inv] at h
    exact h rfl
theorem Bond.swapR (B : Bond H p R V m n) {a b : Nat} (ha : a < m) (hb : b < m) : Bond H p (sR R a b) V m n := by
  refine B.rows (fun k hk => ?_) (fun k hk => Span.row (sw_lt' ha hb hk)) (fun t h => ?_)
  · have := Span.row (R := sR R a b) (n := n) (sw_lt' ha hb hk)
    exact this.congr fun l _ => by unfold sR; rw [sw_inv]
  · have r := B.ind (fun k => t (sw a b k)) fun l hl => by
      have := h l hl
      rw [← sm_sw ha hb] at this
      rw [← this]
      refine sm_congr fun k _ => ?_
      unfold sR
      rw [sw_inv]
    intro k hk
    have := r (sw a b k) (sw_lt' ha hb hk)
    rw [sw_inv] at this
    exact this
/-- a row turned round -/
def nR (R : Mat) (s : Nat) : Mat := fun k l => if k = s then - R k l else R k l
theorem Bond.nR (B : Bond H p R V m n) (hs : s < m) : Bond H p (Ch.nR R s) V m n := by
  have e : ∀ (t : Nat → Int) l, sm m (fun k => t k * Ch.nR R s k l) = sm m (fun k => (if k = s then - t k else t k) * R k l) := fun t l => sm_congr fun k _ => by
    unfold Ch.nR
    by_cases h : k = s
    · rw [if_pos h, if_pos h]; grind
    · rw [if_neg h, if_neg h]
  refine B.rows (fun k hk => ?_) (fun k hk => ?_) (fun t h => ?_)
  · by_cases h : k = s
    · refine ((Span.row hk).mul (-1)).congr fun l _ => ?_
      unfold Ch.nR; rw [if_pos h]; omega
    · refine (Span.row hk).congr fun l _ => ?_
      unfold Ch.nR; rw [if_neg h]
  · by_cases h : k = s
    · refine ((Span.row hk).mul (-1)).congr fun l _ => ?_
      unfold Ch.nR; rw [if_pos h]; omega
    · refine (Span.row hk).congr fun l _ => ?_
      unfold Ch.nR; rw [if_neg h]
  · have r := B.ind _ fun l hl => (e t l).symm.trans (h l hl)
    intro k hk
    have := r k hk
    by_cases h : k = s
    · simp [h] at this; rw [h]; exact this
    · simp [h] at this; exact this
end
end Ch

/-! A step of diagonal: the invariant at the head of settle's while, its turns, its end. -/
namespace Ch
/-- the first further row with a number that the step's number does not divide -/
structure Odd (R : Mat) (s m n k : Nat) : Prop where
  a : s < k
  b : k < m
  has : ∃ l, s < l ∧ l < n ∧ (R k l).fmod (R s s) ≠ 0
  fst : ∀ k' l, s < k' → k' < k → s < l → l < n → (R k' l).fmod (R s s) = 0
def NoOdd (R : Mat) (s m n : Nat) : Prop := ∀ k l, s < k → k < m → s < l → l < n → (R k l).fmod (R s s) = 0
/-- rows and places ahead of s are done -/
structure Dia (R : Mat) (s m n : Nat) : Prop where
  z : ∀ k l, k < m → l < n → (k < s ∨ l < s) → k ≠ l → R k l = 0
  p : ∀ k, k < s → k < m → k < n → 0 < R k k
  d : ∀ k l, k < s → s ≤ l → l < m → l < n → True
structure Inv (H : Mat) (p s m n : Nat) (x : St) (g P M Xm K Wm c : Nat) : Prop where
  sz : Sz s m n x g P M Xm K Wm c
  bond : Bond H p x.R x.V m n
  dia : Dia x.R s m n
def St.end (x : St) (s : Nat) : St := ⟨if x.R s s < 0 then nR x.R s else x.R, x.V, x.B⟩
inductive Run (s m n : Nat) : St → St → Prop
  | fin {x : St} {i j : Nat} : Least x.R s m n i j → Clean (x.one s m n i j).R s m n → NoOdd (x.one s m n i j).R s m n → Run s m n x ((x.one s m n i j).end s)
  | dirty {x y : St} {i j : Nat} : Least x.R s m n i j → ¬ Clean (x.one s m n i j).R s m n → Run s m n (x.one s m n i j) y → Run s m n x y
  | odd {x y : St} {i j k : Nat} : Least x.R s m n i j → Clean (x.one s m n i j).R s m n → Odd (x.one s m n i j).R s m n k → Run s m n (((x.one s m n i j).add s k).cc s m n) y → Run s m n x y
theorem Least.uni {R : Mat} {s m n i j i' j' : Nat} (L : Least R s m n i j) (L' : Least R s m n i' j') : i = i' ∧ j = j' := by
  have h1 := L.le i' j' L'.i1 L'.i2 L'.j1 L'.j2 L'.ne
  have h2 := L'.le i j L.i1 L.i2 L.j1 L.j2 L.ne
  have a : ¬ (i' < i ∨ (i' = i ∧ j' < j)) := fun h => by have := L.lt i' j' L'.i1 L'.i2 L'.j1 L'.j2 h L'.ne; omega
  have b : ¬ (i < i' ∨ (i = i' ∧ j < j')) := fun h => by have := L'.lt i j L.i1 L.i2 L.j1 L.j2 h L.ne; omega
  omega
theorem Odd.uni {R : Mat} {s m n k k' : Nat} (L : Odd R s m n k) (L' : Odd R s m n k') : k = k' := by
  obtain ⟨l, a, b, h⟩ := L.has
  obtain ⟨l', a', b', h'⟩ := L'.has
  rcases Nat.lt_trichotomy k k' with c | c | c
  · exact absurd (L'.fst k l L.a c a b) h
  · exact c
  · exact absurd (L.fst k' l' L'.a c a' b') h'
theorem Odd.no {R : Mat} {s m n k : Nat} (L : Odd R s m n k) (N : NoOdd R s m n) : False := by
  obtain ⟨l, a, b, h⟩ := L.has
  exact h (N k l L.a L.b a b)
theorem Run.uni {s m n : Nat} {x y z : St} (A : Run s m n x y) (B : Run s m n x z) : y = z := by
  induction A generalizing z with
  | fin L C N =>
    cases B with
    | fin L' C' N' => obtain ⟨rfl, rfl⟩ := L.uni L'; rfl
    | dirty L' C' r => obtain ⟨rfl, rfl⟩ := L.uni L'; exact absurd C C'
    | odd L' C' O r => obtain ⟨rfl, rfl⟩ := L.uni L'; exact (O.no N).elim
  | dirty L C r ih =>
    cases B with
    | fin L' C' N' => obtain ⟨rfl, rfl⟩ := L.uni L'; exact absurd C' C
    | dirty L' C' r' => obtain ⟨rfl, rfl⟩ := L.uni L'; exact ih r'
    | odd L' C' O r' => obtain ⟨rfl, rfl⟩ := L.uni L'; exact absurd C' C
  | odd L C O r ih =>
    cases B with
    | fin L' C' N' => obtain ⟨rfl, rfl⟩ := L.uni L'; exact (O.no N').elim
    | dirty L' C' r' => obtain ⟨rfl, rfl⟩ := L.uni L'; exact absurd C C'
    | odd L' C' O' r' => obtain ⟨rfl, rfl⟩ := L.uni L'; obtain rfl := O.uni O'; exact ih r'
section
variable {H : Mat} {p s m n g P M Xm K Wm c i j k : Nat} {x x' : St}
theorem sw_ne {s j l : Nat} (h : l < s) (hj : s ≤ j) : sw s j l = l := sw_n (by omega) (by omega)
theorem sw_ge {s j l : Nat} (h : s ≤ l) (hj : s ≤ j) : s ≤ sw s j l := by unfold sw; split <;> (try split) <;> omega
theorem Dia.swp (D : Dia x.R s m n) (a : s ≤ i) (b : i < m) (e : s ≤ j) (f : j < n) : Dia (x.swp s i j).R s m n := by
  refine ⟨fun k l hk hl h hne => ?_, fun k h h1 h2 => ?_, fun _ _ _ _ _ _ => trivial⟩
  · show x.R (sw s i k) (sw s j l) = 0
    by_cases c1 : k < s <;> by_cases c2 : l < s
    · rw [sw_ne c1 a, sw_ne c2 e]; exact D.z k l hk hl h hne
    · rw [sw_ne c1 a]
      exact D.z k _ hk (sw_lt' (by omega) f hl) (.inl c1) (by have := sw_ge (show s ≤ l by omega) e; omega)
    · rw [sw_ne c2 e]
      exact D.z _ l (sw_lt' (by omega) b hk) hl (.inr c2) (by have := sw_ge (show s ≤ k by omega) a; omega)
    · omega
  · show 0 < x.R (sw s i k) (sw s j k)
    rw [sw_ne h a, sw_ne h e]
    exact D.p k h h1 h2
theorem Dia.cc {R : Mat} (D : Dia R s m n) (hs : s < m) (hn : s < n) : Dia (cc R s m n) s m n := by
  have e : ∀ k l, k < m → l < n → (k < s ∨ l < s) → Ch.cc R s m n k l = R k l := fun k l hk hl h => by
    unfold Ch.cc cC
    by_cases c1 : k < s
    · have r : ∀ l, cR R s m k l = R k l := fun l => by unfold cR; rw [if_neg (by omega)]
      by_cases c2 : s < l ∧ l < n
      · rw [if_pos c2, r, r, D.z k s hk hn (.inl c1) (by omega)]; omega
      · rw [if_neg c2, r]
    · have c2 : l < s := by omega
      rw [if_neg (by omega)]
      unfold cR
      by_cases c3 : s < k ∧ k < m
      · rw [if_pos c3, D.z s l hs hl (.inr c2) (by omega)]; omega
      · rw [if_neg c3]
  refine ⟨fun k l hk hl h hne => ?_, fun k h h1 h2 => ?_, fun _ _ _ _ _ _ => trivial⟩
  · rw [e k l hk hl h]; exact D.z k l hk hl h hne
  · rw [e k k h1 h2 (.inl h)]; exact D.p k h h1 h2
theorem Dia.tR {R : Mat} {q : Int} (D : Dia R s m n) (hs : s < m) (a : s < k) (b : k < m) : Dia (tR R s k q) s m n := by
  have e : ∀ k' l, k' < m → l < n → (k' < s ∨ l < s) → Ch.tR R s k q k' l = R k' l := fun k' l hk hl h => by
    unfold Ch.tR
    by_cases c1 : k' = s
    · rw [if_pos c1, D.z k l b hl (.inr (by omega)) (by omega), c1]; omega
    · rw [if_neg c1]
  refine ⟨fun k l hk hl h hne => ?_, fun k h h1 h2 => ?_, fun _ _ _ _ _ _ => trivial⟩
  · rw [e k l hk hl h]; exact D.z k l hk hl h hne
  · rw [e k k h1 h2 (.inl h)]; exact D.p k h h1 h2
/-- something stands at or behind the step -/
theorem Inv.some (I : Bond H p x.R x.V m n) (D : Dia x.R s m n) (hs : s < m) : ∃ k l, s ≤ k ∧ k < m ∧ s ≤ l ∧ l < n ∧ x.R k l ≠ 0 := by
  refine Classical.byContradiction fun h => ?_
  have z : ∀ l, l < n → x.R s l = 0 := fun l hl => by
    rcases Nat.lt_or_ge l s with c | c
    · exact D.z s l hs hl (.inr c) (by omega)
    · exact Classical.byContradiction fun h' => h ⟨s, l, Nat.le_refl _, hs, c, hl, h'⟩
  have := I.ind (fun k => if k = s then 1 else 0) (fun l hl => by
    rw [sm_one hs]
    · rw [z l hl]; omega
    · intro k _ e; simp [e]) s hs
  simp at this
theorem Inv.one (I : Inv H p s m n x g P M Xm K Wm c) (L : Least x.R s m n i j) : Bond H p (x.one s m n i j).R (x.one s m n i j).V m n ∧ Dia (x.one s m n i j).R s m n := by
  have sn : s < n := Nat.lt_of_le_of_lt L.j1 L.j2
  have sm : s < m := Nat.lt_of_le_of_lt L.i1 L.i2
  refine ⟨?_, ?_⟩
  · exact ((I.bond.swapR sm L.i2).swapC sn L.j2).cc sm sn
  · exact (I.dia.swp L.i1 L.i2 L.j1 L.j2).cc sm sn
theorem Inv.dirty (I : Inv H p s m n x g P M Xm K Wm c) (q : Par s m n g P M Xm K) (L : Least x.R s m n i j) (h : ¬ Clean (x.one s m n i j).R s m n) : ∃ c', c' < c ∧ Inv H p s m n (x.one s m n i j) g P M Xm K Wm c' := by
  have T : TurnS x s m n i j (x.one s m n i j) := ⟨L, .inl rfl⟩
  have D := T.turn.red
  have sn : s < n := Nat.lt_of_le_of_lt L.j1 L.j2
  have sm : s < m := Nat.lt_of_le_of_lt L.i1 L.i2
  have low : Low (x.one s m n i j).R s m n (x.R i j).natAbs := by
    rw [← T.turn.ss]
    refine Classical.byContradiction fun hl => h ⟨fun k a b => ?_, fun l a b => ?_⟩
    · exact Classical.byContradiction fun hz => hl ⟨k, s, Nat.le_of_lt a, b, Nat.le_refl _, sn, hz, (D.2.1 k a b).1⟩
    · exact Classical.byContradiction fun hz => hl ⟨s, l, Nat.le_refl _, sm, Nat.le_of_lt a, b, hz, (D.2.2 l a b).1⟩
  obtain ⟨c', hc, Z⟩ := I.sz.next q T low
  exact ⟨c', hc, Z, (I.one L).1, (I.one L).2⟩
theorem Inv.odd (I : Inv H p s m n x g P M Xm K Wm c) (q : Par s m n g P M Xm K) (L : Least x.R s m n i j) (C : Clean (x.one s m n i j).R s m n) (O : Odd (x.one s m n i j).R s m n k) : ∃ c', c' < c ∧ Inv H p s m n (((x.one s m n i j).add s k).cc s m n) g P M Xm K Wm c' := by
  have T1 : TurnS x s m n i j (x.one s m n i j) := ⟨L, .inl rfl⟩
  have T : TurnS x s m n i j (((x.one s m n i j).add s k).cc s m n) := ⟨L, .inr ⟨k, C, O.a, O.b, rfl⟩⟩
  have sn : s < n := Nat.lt_of_le_of_lt L.j1 L.j2
  have sm : s < m := Nat.lt_of_le_of_lt L.i1 L.i2
  obtain ⟨l, a, b, h⟩ := O.has
  have low : Low (((x.one s m n i j).add s k).cc s m n).R s m n (x.R i j).natAbs := by
    refine ⟨s, l, Nat.le_refl _, sm, Nat.le_of_lt a, b, ?_, ?_⟩
    · show od (x.one s m n i j).R s m n k s l ≠ 0
      rw [od_sl C O.a O.b a b]; exact h
    · have := (T.turn.red.2.2 l a b).1
      rw [T.turn.ss] at this; exact this
  obtain ⟨c', hc, Z⟩ := I.sz.next q T low
  have I1 := I.one L
  exact ⟨c', hc, Z, (I1.1.tR O.b (by have := O.a; omega)).cc sm sn, (I1.2.tR sm O.a O.b).cc sm sn⟩
/-- what a step leaves: ready for the next one -/
structure Fin (H : Mat) (p s m n : Nat) (y : St) (M Xm Wm : Nat) : Prop where
  bond : Bond H p y.R y.V m n
  dia : Dia y.R (s + 1) m n
  b1 : B1 y.R (s + 1) m n M
  x2 : B2 y.R (s + 1) m n Xm
  w : BT y.V y.B n Wm
theorem Inv.fin (I : Inv H p s m n x g P M Xm K Wm c) (q : Par s m n g P M Xm K) (L : Least x.R s m n i j) (C : Clean (x.one s m n i j).R s m n) : Fin H p s m n ((x.one s m n i j).end s) M Xm Wm := by
  have D := I.sz.mid q L
  have I1 := I.one L
  have sn : s < n := Nat.lt_of_le_of_lt L.j1 L.j2
  have sm : s < m := Nat.lt_of_le_of_lt L.i1 L.i2
  have c1 : 1 ≤ c := I.sz.fall.1
  have gp : 1 ≤ g := q.gr.2.1
  have Kp : 1 ≤ K := Nat.le_trans (by omega) q.hK
  obtain ⟨X, h2, h3, hX, _⟩ := D.x2
  obtain ⟨W, hW, hWm⟩ := D.w
  have gX : g * X ≤ Xm := by
    refine Nat.le_trans ?_ hX
    rw [Nat.mul_comm]
    exact Nat.mul_le_mul_left X (by simpa using Nat.pow_le_pow_right gp c1)
  have WM : W * (1 + 6 * M) ≤ Wm := by
    refine Nat.le_trans ?_ hWm
    exact Nat.mul_le_mul_left W (Nat.le_trans q.hK (by simpa using Nat.pow_le_pow_right Kp c1))
  have nz := D.red.1
  generalize (x.one s m n i j) = y at *
  have e : ∀ k l, s < k → (y.end s).R k l = y.R k l := fun k l h => by
    unfold St.end
    by_cases c : y.R s s < 0
    · simp only [if_pos c]; unfold nR; rw [if_neg (by omega)]
    · simp only [if_neg c]
  have e' : ∀ k l, k < s → (y.end s).R k l = y.R k l := fun k l h => by
    unfold St.end
    by_cases c : y.R s s < 0
    · simp only [if_pos c]; unfold nR; rw [if_neg (by omega)]
    · simp only [if_neg c]
  have es : ∀ l, (y.end s).R s l = if y.R s s < 0 then - y.R s l else y.R s l := fun l => by
    unfold St.end
    by_cases c : y.R s s < 0
    · simp only [if_pos c]; unfold nR; rw [if_pos rfl]
    · simp only [if_neg c]
  refine ⟨?_, ⟨fun k l hk hl h hne => ?_, fun k h h1 h2' => ?_, fun _ _ _ _ _ _ => trivial⟩, fun k l a b d f => ?_, fun k k' l l' a b d f a' b' d' f' => ?_, fun a b ha hb => ?_⟩
  · show Bond H p (if y.R s s < 0 then nR y.R s else y.R) y.V m n
    split
    · exact I1.1.nR sm
    · exact I1.1
  · rcases Nat.lt_trichotomy k s with ck | rfl | ck
    · rw [e' k l ck]; exact I1.2.z k l hk hl (.inl ck) hne
    · rw [es]
      have : y.R k l = 0 := by
        rcases Nat.lt_or_ge l k with d | d
        · exact I1.2.z k l hk hl (.inr d) hne
        · exact C.2 l (by omega) hl
      rw [this]; simp
    · rw [e k l ck]
      rcases Nat.lt_or_ge l s with d | d
      · exact I1.2.z k l hk hl (.inr d) hne
      · obtain rfl : l = s := by omega
        exact C.1 k ck hk
  · rcases Nat.lt_or_ge k s with ck | ck
    · rw [e' k k ck]; exact I1.2.p k ck h1 h2'
    · obtain rfl : k = s := by omega
      rw [es]
      split <;> omega
  · rw [e k l (by omega)]; exact D.b1 k l (by omega) b (by omega) f
  · unfold d2
    rw [e k l (by omega), e k' l' (by omega), e k l' (by omega), e k' l (by omega)]
    exact Nat.le_trans (h2 k k' l l' (by omega) b (by omega) f (by omega) b' (by omega) f') gX
  · have := hW a b ha hb
    exact ⟨Nat.le_trans this.1 WM, Nat.le_trans this.2 WM⟩
end
end Ch

/-! The numbers of each step, by the kind of hall. -/
namespace Ch
theorem mul_le {a b c d : Nat} (h : a ≤ b) (k : c ≤ d) : a * c ≤ b * d := Nat.mul_le_mul h k
@[irreducible] def tw (e : Nat) : Nat := 2 ^ e
theorem tw_pos (e : Nat) : 1 ≤ tw e := by unfold tw; exact Nat.pow_pos (by omega)
theorem tw_mul (a b : Nat) : tw a * tw b = tw (a + b) := by unfold tw; exact (Nat.pow_add 2 a b).symm
theorem tw_pow (a b : Nat) : tw a ^ b = tw (a * b) := by unfold tw; exact (Nat.pow_mul 2 a b).symm
theorem tw_le {a b : Nat} (h : a ≤ b) : tw a ≤ tw b := by unfold tw; exact Nat.pow_le_pow_right (by omega) h
theorem tw_succ (a : Nat) : tw (a + 1) = 2 * tw a := by unfold tw; rw [Nat.pow_succ]; omega
theorem tw_is (e : Nat) : tw e = 2 ^ e := by unfold tw; rfl
theorem tw_six (μ : Nat) : 1 + 6 * tw μ ≤ tw (μ + 3) := by
  have := tw_pos μ
  rw [tw_succ, tw_succ, tw_succ]; omega
theorem tw_six2 (μ : Nat) : (1 + 6 * tw μ) * (1 + 6 * tw μ) ≤ tw (2 * (μ + 3)) := by
  rw [show 2 * (μ + 3) = (μ + 3) + (μ + 3) by omega, ← tw_mul]
  exact mul_le (tw_six μ) (tw_six μ)
theorem five_six (e : Nat) : tw e * 5 ^ (4 * e) ≤ 6 ^ (4 * e) := by
  induction e with
  | zero => rw [tw_is]; decide
  | succ e ih =>
    have a : 5 ^ (4 * (e + 1)) = 5 ^ (4 * e) * 625 := by rw [show 4 * (e + 1) = 4 * e + 4 by omega, Nat.pow_add]
    have b : 6 ^ (4 * (e + 1)) = 6 ^ (4 * e) * 1296 := by rw [show 4 * (e + 1) = 4 * e + 4 by omega, Nat.pow_add]
    rw [a, b, tw_succ]
    generalize 5 ^ (4 * e) = u at *
    generalize 6 ^ (4 * e) = v at *
    generalize tw e = w at *
    have : 2 * w * (u * 625) = w * u * 1250 := by grind
    omega
structure Tb where
  g : Nat
  P : Nat
  M : Nat
  Xm : Nat
  K : Nat
  Wm : Nat
  c : Nat
inductive Cs where
  | one | two | a | b
  deriving DecidableEq
def tb : Cs → Nat → Tb
  | .one, _ => ⟨1, tw 1003, tw 1003, 0, tw 1006, tw 2022060, 2010⟩
  | .two, 0 => ⟨2, tw 100, tw 3211, tw 3210, tw 6428, tw 7732884, 1203⟩
  | .two, _ => ⟨1, tw 3211, tw 3211, 0, tw 3214, tw 28386048, 6426⟩
  | .a, 0 => ⟨5, 4, tw 389, tw 388, tw 784, tw 3136, 4⟩
  | .a, 1 => ⟨2, tw 389, tw 5060, tw 5059, tw 10126, tw 47301682, 4671⟩
  | .a, _ => ⟨1, tw 5060, tw 5060, 0, tw 5063, tw 98559494, 10124⟩
  | .b, 0 => ⟨5, 30, tw 1124, tw 1123, tw 2254, tw 67620, 30⟩
  | .b, 1 => ⟨1, tw 1124, tw 1125, tw 1123, tw 2256, tw 30503316, 13491⟩
  | .b, _ => ⟨1, tw 1125, tw 1125, 0, tw 1128, tw 33045828, 2254⟩
/-- which halls are of a kind -/
def Cs.ok : Cs → Nat → Nat → Prop
  | .one, m, n => m = 1 ∧ n ≤ 6
  | .two, m, n => m = 2 ∧ n ≤ 6
  | .a, m, n => m = 3 ∧ n ≤ 6
  | .b, m, n => m = 3 ∧ n ≤ 3
abbrev InvT (H : Mat) (p : Nat) (cs : Cs) (s m n : Nat) (x : St) : Prop := ∃ c, c ≤ (tb cs s).c ∧ Inv H p s m n x (tb cs s).g (tb cs s).P (tb cs s).M (tb cs s).Xm (tb cs s).K (tb cs s).Wm c
theorem par_one {s m n μ Xm P : Nat} (hm : m = s + 1) (hn : n ≤ 6) (h : Xm + P ≤ tw μ) : Par s m n 1 P (tw μ) Xm (tw (μ + 3)) where
  gr := ⟨by omega, Nat.le_refl _, fun h => by omega, fun h => by omega⟩
  n6 := hn
  hM := h
  hK := tw_six μ
  hK2 := fun h => by omega
theorem par_more {s m n g μ Xm P : Nat} (G : Gr g s m n) (hn : n ≤ 6) (h : Xm + P ≤ tw μ) : Par s m n g P (tw μ) Xm (tw (2 * (μ + 3))) where
  gr := G
  n6 := hn
  hM := h
  hK := Nat.le_trans (tw_six μ) (tw_le (by omega))
  hK2 := fun _ => tw_six2 μ
theorem tw_add_le {a b e : Nat} (h : a ≤ tw e) (k : b ≤ tw e) : a + b ≤ tw (e + 1) := by rw [tw_succ]; omega
theorem small_le {a e : Nat} (h : a ≤ e) : a ≤ tw e := by rw [tw_is]; exact Nat.le_trans h (Nat.le_of_lt Nat.lt_two_pow_self)
theorem tb_par {cs : Cs} {s m n : Nat} (h : cs.ok m n) (hs : s < m) : Par s m n (tb cs s).g (tb cs s).P (tb cs s).M (tb cs s).Xm (tb cs s).K := by
  cases cs with
  | one =>
    obtain ⟨rfl, hn⟩ := h
    obtain rfl : s = 0 := by omega
    exact par_one rfl hn (by show 0 + tw 1003 ≤ tw 1003; omega)
  | two =>
    obtain ⟨rfl, hn⟩ := h
    rcases s with _ | s
    · exact par_more (μ := 3211) ⟨by omega, by decide, by omega, fun _ => .inr (Nat.le_refl _)⟩ hn (tw_add_le (Nat.le_refl _) (tw_le (by decide)))
    · obtain rfl : s = 0 := by omega
      exact par_one rfl hn (by show 0 + tw 3211 ≤ tw 3211; omega)
  | a =>
    obtain ⟨rfl, hn⟩ := h
    rcases s with _ | _ | s
    · exact par_more (μ := 389) ⟨by omega, by decide, fun _ => Nat.le_refl _, by omega⟩ hn (tw_add_le (Nat.le_refl _) (small_le (by decide)))
    · exact par_more (μ := 5060) ⟨by omega, by decide, by omega, fun _ => .inr (Nat.le_refl _)⟩ hn (tw_add_le (Nat.le_refl _) (tw_le (by decide)))
    · obtain rfl : s = 0 := by omega
      exact par_one rfl hn (by show 0 + tw 5060 ≤ tw 5060; omega)
  | b =>
    obtain ⟨rfl, hn⟩ := h
    rcases s with _ | _ | s
    · exact par_more (μ := 1124) ⟨by omega, by decide, fun _ => Nat.le_refl _, by omega⟩ (by omega) (tw_add_le (Nat.le_refl _) (small_le (by decide)))
    · exact par_more (μ := 1125) ⟨by omega, by decide, by omega, fun _ => .inl hn⟩ (by omega) (tw_add_le (tw_le (by decide)) (Nat.le_refl _))
    · obtain rfl : s = 0 := by omega
      exact par_one rfl (by omega) (by show 0 + tw 1125 ≤ tw 1125; omega)
/-- the first step -/
structure First (R : Mat) (m n B P : Nat) : Prop where
  b : B1 R 0 m n B
  p : Low R 0 m n (P + 1)
theorem b2_of {R : Mat} {s m n B : Nat} (h : B1 R s m n B) : B2 R s m n (2 * (B * B)) := fun k k' l l' a b c d e f g i => by
  have h1 := nab_mul_le (h k l a b e f) (h k' l' c d g i)
  have h2 := nab_mul_le (h k l' a b g i) (h k' l c d e f)
  unfold d2; omega
theorem b3_of {R : Mat} {s m n B : Nat} (h : B1 R s m n B) : B3 R s m n (3 * (B * (2 * (B * B)))) := fun k k' k'' l l' l'' a b c d e f g i j o g' i' => by
  have z := b2_of h
  have h1 := nab_mul_le (h k l a b g i) (z k' k'' l' l'' c d e f j o g' i')
  have h2 := nab_mul_le (h k l' a b j o) (z k' k'' l l'' c d e f g i g' i')
  have h3 := nab_mul_le (h k l'' a b g' i') (z k' k'' l l' c d e f g i j o)
  unfold d3
  generalize R k l * d2 R k' k'' l' l'' = u1 at *
  generalize R k l' * d2 R k' k'' l l'' = u2 at *
  generalize R k l'' * d2 R k' k'' l l' = u3 at *
  omega
theorem B1.mono {R : Mat} {s m n B B' : Nat} (h : B1 R s m n B) (k : B ≤ B') : B1 R s m n B' := fun a b c d e f => Nat.le_trans (h a b c d e f) k
theorem B2.mono {R : Mat} {s m n B B' : Nat} (h : B2 R s m n B) (k : B ≤ B') : B2 R s m n B' := fun a b c d e f g i j o p q => Nat.le_trans (h a b c d e f g i j o p q) k
theorem B3.mono {R : Mat} {s m n B B' : Nat} (h : B3 R s m n B) (k : B ≤ B') : B3 R s m n B' := fun a b c d e f g i j o p q a' b' c' d' e' f' => Nat.le_trans (h a b c d e f g i j o p q a' b' c' d' e' f') k
def idm : Mat := fun i j => if i = j then 1 else 0
theorem bt_start (n : Nat) : BT idm idm n 1 := fun a b _ _ => by unfold idm; split <;> exact ⟨by omega, by omega⟩
def Cs.B : Cs → Nat
  | .one => tw 1003 | .two => tw 1003 | .a => tw 125 | .b => tw 350
theorem Fin.low {H : Mat} {p s m n : Nat} {y : St} {M Xm Wm : Nat} (F : Fin H p s m n y M Xm Wm) (hs : s + 1 < m) : Low y.R (s + 1) m n (M + 1) := by
  obtain ⟨k, l, a, b, c, d, e⟩ := Inv.some F.bond F.dia hs
  exact ⟨k, l, a, b, c, d, e, Nat.lt_succ_of_le (F.b1 k l a b c d)⟩
theorem Low.mono {R : Mat} {s m n a b : Nat} (h : Low R s m n a) (k : a ≤ b) : Low R s m n b := by
  obtain ⟨i, j, h1, h2, h3, h4, h5, h6⟩ := h
  exact ⟨i, j, h1, h2, h3, h4, h5, by omega⟩
theorem pow_w {W K c w : Nat} {k : Nat} (hW : W ≤ tw w) (hK : K = tw k) {e : Nat} (he : w + k * c ≤ e) : W * K ^ c ≤ tw e := by
  rw [hK, tw_pow]
  refine Nat.le_trans (Nat.mul_le_mul_right _ hW) ?_
  rw [tw_mul]; exact tw_le he
theorem Inv.start0 {H : Mat} {p m n : Nat} {R : Mat} {g P M X0 Xm k wm c : Nat} (Bd : Bond H p R idm m n) (fall : Fall R 0 m n c) (low : Low R 0 m n (P + 1)) (b1 : B1 R 0 m n M) (b2 : B2 R 0 m n X0) (b3 : m = 0 + 3 → B3 R 0 m n X0) (hx : X0 * g ^ c ≤ Xm) (hw : k * c ≤ wm) :
    Inv H p 0 m n ⟨R, idm, idm⟩ g P M Xm (tw k) (tw wm) c where
  sz := ⟨fall, low, b1, ⟨X0, b2, b3, hx⟩, ⟨1, bt_start _, pow_w (w := 0) (tw_pos 0) rfl (by omega)⟩⟩
  bond := Bd
  dia := ⟨fun k l _ _ h => by omega, fun k h => by omega, fun _ _ _ _ _ _ => trivial⟩
theorem Fall.row {R : Mat} {m n e : Nat} (hm : m ≤ 1) (h : Low R 0 m n (2 ^ e)) : Fall R 0 m n (2 * e + 2) := ⟨by omega, .inr (.inr ⟨by omega, e, .inl ⟨rfl, h⟩⟩)⟩
theorem Fall.two {R : Mat} {m n e : Nat} (hm : m ≤ 2) (h : Low R 0 m n (tw e + 1)) : Fall R 0 m n (3 * (4 * e) + 3) := ⟨by omega, .inr (.inl ⟨by omega, 4 * e, .inl ⟨rfl, tw e, h, five_six e⟩⟩)⟩
theorem z_mul {g c : Nat} : 0 * g ^ c ≤ 0 := Nat.le_of_eq (Nat.zero_mul _)
theorem t_mul {x c y : Nat} (h : x + c ≤ y) : tw x * 2 ^ c ≤ tw y := by
  rw [← tw_is, tw_mul]; exact tw_le h
theorem c_mul {x y d k c : Nat} (h : 5 ^ c ≤ 2 ^ d) (e : x + d ≤ y) : tw x * 5 ^ c ≤ tw y := by
  refine Nat.le_trans (Nat.mul_le_mul_left _ h) (t_mul e)
theorem inv_start {H : Mat} {p : Nat} {cs : Cs} {m n : Nat} {R : Mat} (h : cs.ok m n) (F : First R m n cs.B (tb cs 0).P) (Bd : Bond H p R idm m n) : InvT H p cs 0 m n ⟨R, idm, idm⟩ := by
  cases cs with
  | one =>
    obtain ⟨rfl, hn⟩ := h
    have lo : Low R 0 1 n (2 ^ 1004) := F.p.mono (by show tw 1003 + 1 ≤ 2 ^ 1004; have a : tw 1004 = 2 * tw 1003 := tw_succ 1003; have b := tw_pos 1003; rw [← tw_is]; omega)
    exact ⟨2 * 1004 + 2, Nat.le_refl _, Inv.start0 (k := 1006) (wm := 2022060) Bd (Fall.row (by omega) lo) F.p F.b (X0 := 0) (Cross.b2one (by omega)) (by omega) z_mul (by omega)⟩
  | two =>
    obtain ⟨rfl, hn⟩ := h
    have x : 2 * (tw 1003 * tw 1003) = tw 2007 := by rw [tw_mul, ← tw_succ]
    exact ⟨3 * (4 * 100) + 3, Nat.le_refl _, Inv.start0 (k := 6428) (wm := 7732884) Bd (Fall.two (by omega) F.p) F.p (F.b.mono (tw_le (by omega))) (X0 := tw 2007) (x ▸ b2_of F.b) (by omega) (t_mul (by omega)) (by omega)⟩
  | a =>
    obtain ⟨rfl, hn⟩ := h
    have x : 3 * (tw 125 * (2 * (tw 125 * tw 125))) ≤ tw 378 := by
      rw [tw_mul, ← tw_succ, tw_mul, show 125 + (125 + 125 + 1) = 376 from rfl, show tw 378 = 4 * tw 376 by rw [tw_succ, tw_succ]; omega]; omega
    have x2 : 2 * (tw 125 * tw 125) ≤ tw 378 := by rw [tw_mul, ← tw_succ]; exact tw_le (by omega)
    exact ⟨4, Nat.le_refl _, Inv.start0 (k := 784) (wm := 3136) Bd ⟨by omega, .inl F.p⟩ F.p (F.b.mono (tw_le (by omega))) (X0 := tw 378) ((b2_of F.b).mono x2) (fun _ => (b3_of F.b).mono x) (c_mul (k := 0) (d := 10) (by decide) (by omega)) (by omega)⟩
  | b =>
    obtain ⟨rfl, hn⟩ := h
    have x : 3 * (tw 350 * (2 * (tw 350 * tw 350))) ≤ tw 1053 := by
      rw [tw_mul, ← tw_succ, tw_mul, show 350 + (350 + 350 + 1) = 1051 from rfl, show tw 1053 = 4 * tw 1051 by rw [tw_succ, tw_succ]; omega]; omega
    have x2 : 2 * (tw 350 * tw 350) ≤ tw 1053 := by rw [tw_mul, ← tw_succ]; exact tw_le (by omega)
    exact ⟨30, Nat.le_refl _, Inv.start0 (k := 2254) (wm := 67620) Bd ⟨by omega, .inl F.p⟩ F.p (F.b.mono (tw_le (by omega))) (X0 := tw 1053) ((b2_of F.b).mono x2) (fun _ => (b3_of F.b).mono x) (c_mul (k := 0) (d := 70) (by decide) (by omega)) (by omega)⟩
theorem Inv.start2 {H : Mat} {p s m n : Nat} {y : St} {M' Xm' Wm' : Nat} (F : Fin H p s m n y M' Xm' Wm') (hm : m = s + 3) {e x w k g μ xm wm : Nat} (eM : M' = tw e) (eX : Xm' = tw x) (eW : Wm' = tw w) (hμ : e ≤ μ)
    (hx : tw x * g ^ (3 * (4 * e) + 3) ≤ xm) (hw : w + k * (3 * (4 * e) + 3) ≤ wm) : Inv H p (s + 1) m n y g (tw e) (tw μ) xm (tw k) (tw wm) (3 * (4 * e) + 3) := by
  have low := F.low (by omega)
  refine ⟨⟨⟨by omega, .inr (.inl ⟨by omega, 4 * e, .inl ⟨rfl, tw e, by rw [← eM]; exact low, five_six e⟩⟩)⟩, by rw [← eM]; exact low, F.b1.mono (by rw [eM]; exact tw_le hμ), ⟨tw x, by rw [← eX]; exact F.x2, by omega, hx⟩, ⟨Wm', F.w, pow_w (Nat.le_of_eq eW) rfl hw⟩⟩, F.bond, F.dia⟩
theorem Inv.start1 {H : Mat} {p s m n : Nat} {y : St} {M' Xm' Wm' : Nat} (F : Fin H p s m n y M' Xm' Wm') (hm : m = s + 2) {e w k wm : Nat} (eM : M' = tw e) (eW : Wm' = tw w) (hw : w + k * (2 * (e + 1) + 2) ≤ wm) :
    Inv H p (s + 1) m n y 1 (tw e) (tw e) 0 (tw k) (tw wm) (2 * (e + 1) + 2) := by
  have low := F.low (by omega)
  refine ⟨⟨⟨by omega, .inr (.inr ⟨by omega, e + 1, .inl ⟨rfl, low.mono ?_⟩⟩)⟩, by rw [← eM]; exact low, F.b1.mono (by rw [eM]; exact Nat.le_refl _), ⟨0, Cross.b2one (by omega), by omega, Nat.le_of_eq (Nat.zero_mul _)⟩, ⟨Wm', F.w, pow_w (Nat.le_of_eq eW) rfl hw⟩⟩, F.bond, F.dia⟩
  rw [eM, ← tw_is, tw_succ]; have := tw_pos e; omega
theorem inv_step {H : Mat} {p : Nat} {cs : Cs} {s m n : Nat} {y : St} (h : cs.ok m n) (hs : s + 1 < m) (F : Fin H p s m n y (tb cs s).M (tb cs s).Xm (tb cs s).Wm) : InvT H p cs (s + 1) m n y := by
  cases cs with
  | one => obtain ⟨rfl, hn⟩ := h; omega
  | two =>
    obtain ⟨rfl, hn⟩ := h
    obtain rfl : s = 0 := by omega
    exact ⟨6426, Nat.le_refl _, Inv.start1 (e := 3211) (w := 7732884) (k := 3214) (wm := 28386048) F rfl rfl rfl (by omega)⟩
  | a =>
    obtain ⟨rfl, hn⟩ := h
    rcases s with _ | s
    · refine ⟨4671, Nat.le_refl _, Inv.start2 (e := 389) (x := 388) (w := 3136) (k := 10126) (g := 2) (μ := 5060) (xm := tw 5059) (wm := 47301682) F rfl rfl rfl rfl (by omega) ?_ (by omega)⟩
      exact t_mul (by omega)
    · obtain rfl : s = 0 := by omega
      exact ⟨10124, Nat.le_refl _, Inv.start1 (e := 5060) (w := 47301682) (k := 5063) (wm := 98559494) F rfl rfl rfl (by omega)⟩
  | b =>
    obtain ⟨rfl, hn⟩ := h
    rcases s with _ | s
    · refine ⟨13491, Nat.le_refl _, Inv.start2 (e := 1124) (x := 1123) (w := 67620) (k := 2256) (g := 1) (μ := 1125) (xm := tw 1123) (wm := 30503316) F rfl rfl rfl rfl (by omega) ?_ (by omega)⟩
      rw [Nat.one_pow]; omega
    · obtain rfl : s = 0 := by omega
      exact ⟨2254, Nat.le_refl _, Inv.start1 (e := 1125) (w := 30503316) (k := 1128) (wm := 33045828) F rfl rfl rfl (by omega)⟩
theorem tb_le {cs : Cs} {s : Nat} : (tb cs s).M ≤ tw 5060 ∧ (tb cs s).Wm ≤ tw 98559494 := by
  cases cs with
  | one => exact ⟨tw_le (by decide), tw_le (by decide)⟩
  | two => rcases s with _ | s <;> exact ⟨tw_le (by decide), tw_le (by decide)⟩
  | a => rcases s with _ | _ | s <;> exact ⟨tw_le (by decide), tw_le (by decide)⟩
  | b => rcases s with _ | _ | s <;> exact ⟨tw_le (by decide), tw_le (by decide)⟩
end Ch

/-! cleared: one pair with a head at a place, the others nought there. -/
namespace Ch
structure Pr where
  r : Nat → Int
  u : Nat → Int
def less (p h : Pr) (t : Int) : Pr := ⟨fun l => p.r l - t * h.r l, fun i => p.u i - t * h.u i⟩
/-- which pair has the least number at a place -/
structure LeastAt (w : List Pr) (c : Nat) (k : Nat) (h : Pr) : Prop where
  is : w[k]? = some h
  ne : h.r c ≠ 0
  le : ∀ (j : Nat) (p : Pr), w[j]? = some p → p.r c ≠ 0 → (h.r c).natAbs ≤ (p.r c).natAbs
  lt : ∀ (j : Nat) (p : Pr), j < k → w[j]? = some p → p.r c ≠ 0 → (h.r c).natAbs < (p.r c).natAbs
theorem LeastAt.uni {w : List Pr} {c k k' : Nat} {h h' : Pr} (A : LeastAt w c k h) (B : LeastAt w c k' h') : k = k' ∧ h = h' := by
  have h1 := A.le k' h' B.is B.ne
  have h2 := B.le k h A.is A.ne
  rcases Nat.lt_trichotomy k k' with z | z | z
  · have := B.lt k h z A.is A.ne; omega
  · subst z
    exact ⟨rfl, Option.some.inj (A.is.symm.trans B.is)⟩
  · have := A.lt k' h' z B.is B.ne; omega
def others (w : List Pr) (c k : Nat) (h : Pr) : List Pr := (w.eraseIdx k).map fun p => less p h ((p.r c).fdiv (h.r c))
inductive Clr (c : Nat) : List Pr → Option Pr × List Pr → Prop
  | none {w : List Pr} : (∀ p, p ∈ w → p.r c = 0) → Clr c w (none, w)
  | clean {w : List Pr} {k : Nat} {h : Pr} : LeastAt w c k h → (∀ p, p ∈ others w c k h → p.r c = 0) → Clr c w (some h, others w c k h)
  | dirty {w : List Pr} {k : Nat} {h : Pr} {o : Option Pr × List Pr} : LeastAt w c k h → ¬ (∀ p, p ∈ others w c k h → p.r c = 0) → Clr c (h :: others w c k h) o → Clr c w o
theorem LeastAt.mem {w : List Pr} {c k : Nat} {h : Pr} (A : LeastAt w c k h) : h ∈ w := List.mem_of_getElem? A.is
theorem Clr.uni {c : Nat} {w : List Pr} {o o' : Option Pr × List Pr} (A : Clr c w o) (B : Clr c w o') : o = o' := by
  induction A generalizing o' with
  | none a =>
    cases B with
    | none b => rfl
    | clean L _ => exact absurd (a _ L.mem) L.ne
    | dirty L _ _ => exact absurd (a _ L.mem) L.ne
  | clean L z =>
    cases B with
    | none b => exact absurd (b _ L.mem) L.ne
    | clean L' _ => obtain ⟨rfl, rfl⟩ := L.uni L'; rfl
    | dirty L' n _ => obtain ⟨rfl, rfl⟩ := L.uni L'; exact absurd z n
  | dirty L n r ih =>
    cases B with
    | none b => exact absurd (b _ L.mem) L.ne
    | clean L' z => obtain ⟨rfl, rfl⟩ := L.uni L'; exact absurd z n
    | dirty L' _ r' => obtain ⟨rfl, rfl⟩ := L.uni L'; exact ih r'
theorem mem_erase_of {w : List Pr} {k : Nat} {p : Pr} (h : p ∈ w.eraseIdx k) : p ∈ w := List.mem_of_mem_eraseIdx h
theorem mem_others {w : List Pr} {c k : Nat} {h p : Pr} (m : p ∈ others w c k h) : ∃ q, q ∈ w ∧ p = less q h ((q.r c).fdiv (h.r c)) := by
  obtain ⟨q, hq, e⟩ := List.mem_map.mp m
  exact ⟨q, mem_erase_of hq, e.symm⟩
/-- each of w is the head or goes into the others -/
theorem mem_back {w : List Pr} {c k : Nat} {h q : Pr} (A : LeastAt w c k h) (m : q ∈ w) : q = h ∨ less q h ((q.r c).fdiv (h.r c)) ∈ others w c k h := by
  obtain ⟨j, hj⟩ := List.mem_iff_getElem?.mp m
  by_cases e : j = k
  · subst e; exact .inl (Option.some.inj (hj.symm.trans A.is))
  · refine .inr (List.mem_map.mpr ⟨q, List.mem_eraseIdx_iff_getElem?.mpr ⟨j, e, hj⟩, rfl⟩)
theorem less_c {q h : Pr} {c : Nat} : (less q h ((q.r c).fdiv (h.r c))).r c = (q.r c).fmod (h.r c) := by
  show q.r c - (q.r c).fdiv (h.r c) * h.r c = _
  rw [Int.fmod_def, Int.mul_comm]
/-- what holds of the pairs and is kept by `less` holds behind -/
theorem Clr.all {c : Nat} {w : List Pr} {o : Option Pr × List Pr} (E : Pr → Prop) (hE : ∀ p h t, E p → E h → E (less p h t)) (A : Clr c w o) (a : ∀ p, p ∈ w → E p) : (∀ h, o.1 = some h → E h) ∧ ∀ p, p ∈ o.2 → E p := by
  have ot : ∀ {w : List Pr} {k h}, LeastAt w c k h → (∀ p, p ∈ w → E p) → ∀ p, p ∈ others w c k h → E p := fun L a p m => by
    obtain ⟨q, hq, rfl⟩ := mem_others m
    exact hE _ _ _ (a q hq) (a _ L.mem)
  induction A with
  | none _ => exact ⟨fun h e => (nomatch e), a⟩
  | clean L _ => exact ⟨fun h e => by cases e; exact a _ L.mem, ot L a⟩
  | dirty L n r ih =>
    refine ih fun p m => ?_
    rcases List.mem_cons.mp m with rfl | m
    · exact a _ L.mem
    · exact ot L a p m
/-- what is closed and holds behind holds ahead -/
theorem Clr.back {c : Nat} {w : List Pr} {o : Option Pr × List Pr} (E : Pr → Prop) (hE : ∀ p h t, E (less p h t) → E h → E p) (A : Clr c w o) (a : ∀ h, o.1 = some h → E h) (b : ∀ p, p ∈ o.2 → E p) : ∀ p, p ∈ w → E p := by
  induction A with
  | none _ => exact b
  | clean L _ =>
    intro q m
    rcases mem_back L m with rfl | m'
    · exact a _ rfl
    · exact hE _ _ _ (b _ m') (a _ rfl)
  | dirty L n r ih =>
    have i := ih a b
    intro q m
    rcases mem_back L m with rfl | m'
    · exact i _ List.mem_cons_self
    · exact hE _ _ _ (i _ (List.mem_cons_of_mem _ m')) (i _ List.mem_cons_self)
theorem others_len {w : List Pr} {c k : Nat} {h : Pr} (A : LeastAt w c k h) : (others w c k h).length + 1 = w.length := by
  have hk : k < w.length := (List.getElem?_eq_some_iff.mp A.is).1
  unfold others
  rw [List.length_map, List.length_eraseIdx, if_pos hk]
  omega
theorem Clr.len {c : Nat} {w : List Pr} {o : Option Pr × List Pr} (A : Clr c w o) : o.2.length + (if o.1.isSome then 1 else 0) = w.length := by
  induction A with
  | none _ => rfl
  | clean L _ => exact others_len L
  | dirty L n r ih => rw [ih, List.length_cons, others_len L]
/-- the others are nought at the place, the head is not; the head's number is at most any of the numbers ahead -/
theorem Clr.at {c : Nat} {w : List Pr} {o : Option Pr × List Pr} (A : Clr c w o) : (∀ p, p ∈ o.2 → p.r c = 0) ∧ (∀ h, o.1 = some h → h.r c ≠ 0 ∧ ∀ p, p ∈ w → p.r c ≠ 0 → (h.r c).natAbs ≤ (p.r c).natAbs) := by
  induction A with
  | none z => exact ⟨z, fun h e => (nomatch e)⟩
  | clean L z =>
    refine ⟨z, fun h e => ?_⟩
    cases e
    refine ⟨L.ne, fun p m hp => ?_⟩
    obtain ⟨j, hj⟩ := List.mem_iff_getElem?.mp m
    exact L.le j p hj hp
  | dirty L n r ih =>
    refine ⟨ih.1, fun h e => ⟨(ih.2 h e).1, fun p m hp => ?_⟩⟩
    have h1 := (ih.2 h e).2 _ List.mem_cons_self L.ne
    obtain ⟨j, hj⟩ := List.mem_iff_getElem?.mp m
    exact Nat.le_trans h1 (L.le j p hj hp)
/-! sizes -/
def Bp (n N b : Nat) (p : Pr) : Prop := (∀ l, l < n → (p.r l).natAbs ≤ b) ∧ ∀ i, i < N → (p.u i).natAbs ≤ b
theorem Bp.less {n N b d q : Nat} {p h : Pr} {t : Int} (a : Bp n N b p) (e : Bp n N d h) (ht : t.natAbs ≤ q) : Bp n N (b + q * d) (less p h t) := by
  refine ⟨fun l hl => ?_, fun i hi => ?_⟩
  · have := nab_mul_le ht (e.1 l hl)
    have := a.1 l hl
    show (p.r l - t * h.r l).natAbs ≤ _
    omega
  · have := nab_mul_le ht (e.2 i hi)
    have := a.2 i hi
    show (p.u i - t * h.u i).natAbs ≤ _
    omega
theorem Bp.mono {n N b d : Nat} {p : Pr} (a : Bp n N b p) (h : b ≤ d) : Bp n N d p := ⟨fun l hl => Nat.le_trans (a.1 l hl) h, fun i hi => Nat.le_trans (a.2 i hi) h⟩
/-- the same sign -/
def Sg (a x : Int) : Prop := (0 < a ∧ 0 ≤ x) ∨ (a < 0 ∧ x ≤ 0)
/-- the numbers of a clearing at its loop's head -/
inductive CI (n N c F : Nat) : List Pr → Nat → Prop
  | start {w : List Pr} {b : Nat} : (∀ p, p ∈ w → Bp n N b p) → b + b * b ≤ F → (b + b * b) * (b * b * b) ≤ F → CI n N c F w (b + 1)
  | on {h : Pr} {w : List Pr} {b : Nat} : Bp n N b h → (∀ p, p ∈ w → Bp n N b p) → b ≤ F → h.r c ≠ 0 → (∀ p, p ∈ w → Sg (h.r c) (p.r c) ∧ (p.r c).natAbs < (h.r c).natAbs) →
      (∃ x, x ∈ w ∧ x.r c ≠ 0 ∧ b * ((h.r c).natAbs * (h.r c).natAbs * (x.r c).natAbs) ≤ F) → CI n N c F (h :: w) (h.r c).natAbs
section
variable {n N c F : Nat}
theorem CI.bd {w : List Pr} {z : Nat} (I : CI n N c F w z) : ∀ p, p ∈ w → Bp n N F p := by
  cases I with
  | start a h1 _ => exact fun p m => (a p m).mono (by omega)
  | on a b d _ _ _ =>
    intro p m
    rcases List.mem_cons.mp m with rfl | m
    · exact a.mono d
    · exact (b p m).mono d
theorem fd_sg {a x : Int} (h : Sg a x) (ha : a ≠ 0) : (x.fdiv a).natAbs * a.natAbs ≤ x.natAbs := by
  have e := fm_eq x a
  have r := fm_lt x ha
  have m := nab_mul a (x.fdiv a)
  rw [Nat.mul_comm]
  rw [← m]
  rcases h with ⟨p, q⟩ | ⟨p, q⟩
  · have := fm_pos x p
    have f : 0 ≤ x.fdiv a := Int.fdiv_nonneg q (by omega)
    have g : 0 ≤ a * x.fdiv a := Int.mul_nonneg (by omega) f
    omega
  · have := fm_npos x p
    have f : 0 ≤ (-x).fdiv (-a) := Int.fdiv_nonneg (by omega) (by omega)
    rw [Int.neg_fdiv_neg] at f
    have g : 0 ≤ (-a) * x.fdiv a := Int.mul_nonneg (by omega) f
    rw [Int.neg_mul] at g
    omega
theorem fm_sg {a : Int} (x : Int) (ha : a ≠ 0) : Sg a (x.fmod a) := by
  rcases Int.lt_or_gt_of_ne ha with h | h
  · exact .inr ⟨h, fm_npos x h⟩
  · exact .inl ⟨h, fm_pos x h⟩
/-- the others' numbers, all of them, by the numbers of a turn -/
theorem others_sg {w : List Pr} {k : Nat} {h : Pr} (L : LeastAt w c k h) {p : Pr} (m : p ∈ others w c k h) : Sg (h.r c) (p.r c) ∧ (p.r c).natAbs < (h.r c).natAbs := by
  obtain ⟨q, _, rfl⟩ := mem_others m
  rw [less_c]
  exact ⟨fm_sg _ L.ne, fm_lt _ L.ne⟩
end
end Ch

namespace Ch
section
variable {n N c F z k : Nat} {w : List Pr} {h : Pr}
theorem on_arith {b H H' Y X F : Nat} (h1 : H' ≤ X) (h2 : 2 * Y ≤ H) (hF : b * (H * H * X) ≤ F) (h3 : 0 < H') {b' : Nat} (hb : b' * H' ≤ 2 * (b * H)) : b' * (H' * H' * Y) ≤ F := by
  refine Nat.le_trans ?_ hF
  have e1 : b' * (H' * H' * Y) = b' * H' * (H' * Y) := by grind
  have e2 : 2 * (b * H) * (H' * Y) = b * H * (H' * (2 * Y)) := by grind
  have e3 : b * (H * H * X) = b * H * (X * H) := by grind
  rw [e1, e3]
  refine Nat.le_trans (Nat.mul_le_mul_right _ hb) ?_
  rw [e2]
  exact Nat.mul_le_mul_left _ (mul_le h1 h2)
theorem on_b {b H H' X F b' : Nat} (h1 : 0 < X) (h2 : 2 ≤ H) (hF : b * (H * H * X) ≤ F) (h3 : 0 < H') (hb : b' * H' ≤ 2 * (b * H)) : b' ≤ F := by
  refine Nat.le_trans (Nat.le_mul_of_pos_right b' h3) (Nat.le_trans hb (Nat.le_trans ?_ hF))
  have e : b * (H * H * X) = b * H * (H * X) := by grind
  rw [e, Nat.mul_comm 2]
  refine Nat.mul_le_mul_left _ ?_
  exact Nat.le_trans h2 (Nat.le_mul_of_pos_right H h1)
theorem on_q {b H H' q : Nat} (h3 : 0 < H') (h4 : H' ≤ H) : (b + H / H' * b) * H' ≤ 2 * (b * H) := by
  have d : H / H' * H' ≤ H := Nat.div_mul_le_self H H'
  have e : (b + H / H' * b) * H' = b * H' + b * (H / H' * H') := by grind
  have := Nat.mul_le_mul_left b h4
  have := Nat.mul_le_mul_left b d
  omega
/-- a turn from the loop's inner state: the others' bound -/
theorem on_turn {h0 : Pr} {w0 : List Pr} {b : Nat} (a : Bp n N b h0) (e : ∀ p, p ∈ w0 → Bp n N b p) (nz : h0.r c ≠ 0) (s : ∀ p, p ∈ w0 → Sg (h0.r c) (p.r c) ∧ (p.r c).natAbs < (h0.r c).natAbs) (L : LeastAt (h0 :: w0) c k h) (lt : (h.r c).natAbs < (h0.r c).natAbs) :
    h ∈ w0 ∧ Bp n N (b + (h0.r c).natAbs / (h.r c).natAbs * b) h ∧ ∀ p, p ∈ others (h0 :: w0) c k h → Bp n N (b + (h0.r c).natAbs / (h.r c).natAbs * b) p := by
  have hm : h ∈ w0 := by
    rcases List.mem_cons.mp L.mem with rfl | m
    · omega
    · exact m
  have hb := e h hm
  refine ⟨hm, hb.mono (Nat.le_add_right _ _), fun p m => ?_⟩
  obtain ⟨q, mq, rfl⟩ := mem_others m
  have sg : Sg (h.r c) (q.r c) ∧ (q.r c).natAbs ≤ (h0.r c).natAbs := by
    have sh := (s h hm).1
    have hn := L.ne
    rcases List.mem_cons.mp mq with rfl | mq
    · refine ⟨?_, Nat.le_refl _⟩
      unfold Sg at *; omega
    · have := s q mq
      refine ⟨?_, Nat.le_of_lt this.2⟩
      have h1 := this.1
      unfold Sg at *; omega
  have qb : Bp n N b q := by
    rcases List.mem_cons.mp mq with rfl | mq
    · exact a
    · exact e q mq
  have hp : 0 < (h.r c).natAbs := Int.natAbs_pos.2 L.ne
  exact qb.less hb ((Nat.le_div_iff_mul_le hp).2 (Nat.le_trans (fd_sg sg.1 L.ne) sg.2))
theorem CI.next (hc : c < n) (I : CI n N c F w z) (L : LeastAt w c k h) (nc : ¬ (∀ p, p ∈ others w c k h → p.r c = 0)) : ∃ z', z' < z ∧ CI n N c F (h :: others w c k h) z' := by
  obtain ⟨y, my, hy⟩ : ∃ y, y ∈ others w c k h ∧ y.r c ≠ 0 := Classical.byContradiction fun q => nc fun p m => Classical.byContradiction fun e => q ⟨p, m, e⟩
  cases I with
  | start a h1 h2 =>
    rename_i b
    have hb := a h L.mem
    have hh : (h.r c).natAbs ≤ b := hb.1 c hc
    refine ⟨(h.r c).natAbs, by omega, .on (b := b + b * b) (hb.mono (by omega)) (fun p m => ?_) h1 L.ne (fun p m => others_sg L m) ⟨y, my, hy, Nat.le_trans (Nat.mul_le_mul_left _ ?_) h2⟩⟩
    · obtain ⟨q, mq, rfl⟩ := mem_others m
      exact (a q mq).less hb (Nat.le_trans (fd_le _ L.ne) ((a q mq).1 c hc))
    · have := (others_sg L my).2
      exact mul_le (mul_le hh hh) (by omega)
  | on a e bF nz s hx =>
    rename_i h0 w0 b
    obtain ⟨x, mx, nx, bx⟩ := hx
    obtain ⟨jx, hjx⟩ := List.mem_iff_getElem?.mp (List.mem_cons_of_mem h0 mx)
    have hx' := L.le jx x hjx nx
    have x0 := (s x mx).2
    have lt : (h.r c).natAbs < (h0.r c).natAbs := by omega
    obtain ⟨hm, hb, ob⟩ := on_turn a e nz s L lt
    have hp : 0 < (h.r c).natAbs := Int.natAbs_pos.2 L.ne
    have qb := on_q (b := b) (q := 0) hp (Nat.le_of_lt lt)
    have xp : 0 < (x.r c).natAbs := Int.natAbs_pos.2 nx
    refine ⟨(h.r c).natAbs, lt, .on hb ob (on_b xp (by omega) bx hp qb) L.ne (fun p m => others_sg L m) ?_⟩
    have sh := (s h hm).1
    have sgh : Sg (h.r c) (h0.r c) := by unfold Sg at *; omega
    have fq := fd_sg sgh L.ne
    have em := fm_eq (h0.r c) (h.r c)
    have rm := fm_sg (h0.r c) L.ne
    have rl := fm_lt (h0.r c) L.ne
    have nm := nab_mul (h.r c) ((h0.r c).fdiv (h.r c))
    by_cases z0 : (h0.r c).fmod (h.r c) = 0
    · -- the head's number divides the old one: twice at least
      refine ⟨y, my, hy, on_arith hx' ?_ bx hp qb⟩
      have yl := (others_sg L my).2
      rw [z0] at em
      have : (h0.r c).natAbs = (h.r c).natAbs * ((h0.r c).fdiv (h.r c)).natAbs := by rw [← nm]; omega
      have q2 : 2 ≤ ((h0.r c).fdiv (h.r c)).natAbs := by
        refine Nat.le_of_not_lt fun q => ?_
        have : (h.r c).natAbs * ((h0.r c).fdiv (h.r c)).natAbs ≤ (h.r c).natAbs * 1 := Nat.mul_le_mul_left _ (by omega)
        omega
      have := Nat.mul_le_mul_left (h.r c).natAbs q2
      omega
    · have m0 : less h0 h ((h0.r c).fdiv (h.r c)) ∈ others (h0 :: w0) c k h := by
        rcases mem_back L (List.mem_cons_self (a := h0) (l := w0)) with e0 | e0
        · rw [e0] at lt; omega
        · exact e0
      refine ⟨_, m0, by rw [less_c]; exact z0, on_arith hx' ?_ bx hp qb⟩
      rw [less_c]
      have qp : 1 ≤ ((h0.r c).fdiv (h.r c)).natAbs := by
        refine Nat.le_of_not_lt fun q => ?_
        have q0 : (h0.r c).fdiv (h.r c) = 0 := by omega
        rw [q0] at em
        omega
      have := Nat.mul_le_mul_left (h.r c).natAbs qp
      unfold Sg at rm sgh
      generalize h.r c * (h0.r c).fdiv (h.r c) = g at *
      have : g.natAbs + ((h0.r c).fmod (h.r c)).natAbs = (h0.r c).natAbs := by
        have fq' : g.natAbs ≤ (h0.r c).natAbs := by rw [nm, Nat.mul_comm]; exact fq
        omega
      omega
/-- the bounds behind the last turn -/
theorem CI.fin (hc : c < n) (I : CI n N c F w z) (L : LeastAt w c k h) : Bp n N F h ∧ ∀ p, p ∈ others w c k h → Bp n N F p := by
  refine ⟨I.bd h L.mem, ?_⟩
  cases I with
  | start a h1 h2 =>
    intro p m
    obtain ⟨q, mq, rfl⟩ := mem_others m
    exact ((a q mq).less (a h L.mem) (Nat.le_trans (fd_le _ L.ne) ((a q mq).1 c hc))).mono h1
  | on a e bF nz s hx =>
    rename_i h0 w0 b
    obtain ⟨x, mx, nx, bx⟩ := hx
    obtain ⟨jx, hjx⟩ := List.mem_iff_getElem?.mp (List.mem_cons_of_mem h0 mx)
    have hx' := L.le jx x hjx nx
    have x0 := (s x mx).2
    have lt : (h.r c).natAbs < (h0.r c).natAbs := by omega
    obtain ⟨hm, hb, ob⟩ := on_turn a e nz s L lt
    have hp : 0 < (h.r c).natAbs := Int.natAbs_pos.2 L.ne
    have qb := on_q (b := b) (q := 0) hp (Nat.le_of_lt lt)
    have xp : 0 < (x.r c).natAbs := Int.natAbs_pos.2 nx
    intro p m
    exact (ob p m).mono (on_b xp (by omega) bx hp qb)
/-- the whole clearing: it ends, within the bound -/
theorem CI.ends (hc : c < n) : ∀ z (w : List Pr), CI n N c F w z → ∃ o, Clr c w o ∧ (∀ h, o.1 = some h → Bp n N F h) ∧ ∀ p, p ∈ o.2 → Bp n N F p := by
  intro z
  induction z using Nat.strongRecOn with
  | ind z ih =>
    intro w I
    by_cases h : ∃ k h, LeastAt w c k h
    · obtain ⟨k, h, L⟩ := h
      by_cases nc : ∀ p, p ∈ others w c k h → p.r c = 0
      · exact ⟨_, .clean L nc, fun _ e => by cases e; exact (I.fin hc L).1, (I.fin hc L).2⟩
      · obtain ⟨z', lt, I'⟩ := I.next hc L nc
        obtain ⟨o, r, b⟩ := ih z' lt _ I'
        exact ⟨o, .dirty L nc r, b⟩
    · refine ⟨_, .none fun p m => ?_, fun _ e => (nomatch e), I.bd⟩
      -- no least: all nought
      refine Classical.byContradiction fun np => h ?_
      clear ih I h
      induction w with
      | nil => cases m
      | cons a w iw =>
        by_cases hw : ∃ q, q ∈ w ∧ q.r c ≠ 0
        · obtain ⟨q, mq, hq⟩ := hw
          obtain ⟨k, h, L⟩ : ∃ k h, LeastAt w c k h := by
            by_cases e : p ∈ w
            · exact iw e
            · have : ∀ q, q ∈ w → q.r c ≠ 0 → ∃ k h, LeastAt w c k h := by
                intro q mq hq
                clear iw
                -- a least one of a list
                have gen : ∀ v : List Pr, (∃ q, q ∈ v ∧ q.r c ≠ 0) → ∃ k h, LeastAt v c k h := by
                  intro v
                  induction v with
                  | nil => rintro ⟨q, m, _⟩; cases m
                  | cons a v iv =>
                    rintro ⟨q, m, hq⟩
                    by_cases hv : ∃ q, q ∈ v ∧ q.r c ≠ 0
                    · obtain ⟨k, h, L⟩ := iv hv
                      by_cases ha : a.r c ≠ 0 ∧ (a.r c).natAbs ≤ (h.r c).natAbs
                      · refine ⟨0, a, rfl, ha.1, fun j p e np => ?_, fun j p e => by omega⟩
                        rcases j with _ | j
                        · cases e; exact Nat.le_refl _
                        · exact Nat.le_trans ha.2 (L.le j p e np)
                      · refine ⟨k + 1, h, L.is, L.ne, fun j p e np => ?_, fun j p lt e np => ?_⟩
                        · rcases j with _ | j
                          · cases e; have : ¬ (a.r c).natAbs ≤ (h.r c).natAbs := fun x => ha ⟨np, x⟩; omega
                          · exact L.le j p e np
                        · rcases j with _ | j
                          · cases e; have : ¬ (a.r c).natAbs ≤ (h.r c).natAbs := fun x => ha ⟨np, x⟩; omega
                          · exact L.lt j p (by omega) e np
                    · have ha : q = a := by
                        rcases List.mem_cons.mp m with rfl | m
                        · rfl
                        · exact absurd ⟨q, m, hq⟩ hv
                      subst ha
                      refine ⟨0, q, rfl, hq, fun j p e np => ?_, fun j p e => by omega⟩
                      rcases j with _ | j
                      · cases e; exact Nat.le_refl _
                      · exact absurd ⟨p, List.mem_of_getElem? e, np⟩ hv
                exact gen w ⟨q, mq, hq⟩
              exact this q mq hq
          by_cases ha : a.r c ≠ 0 ∧ (a.r c).natAbs ≤ (h.r c).natAbs
          · refine ⟨0, a, rfl, ha.1, fun j p e np => ?_, fun j p e => by omega⟩
            rcases j with _ | j
            · cases e; exact Nat.le_refl _
            · exact Nat.le_trans ha.2 (L.le j p e np)
          · refine ⟨k + 1, h, L.is, L.ne, fun j p e np => ?_, fun j p lt e np => ?_⟩
            · rcases j with _ | j
              · cases e; have : ¬ (a.r c).natAbs ≤ (h.r c).natAbs := fun x => ha ⟨np, x⟩; omega
              · exact L.le j p e np
            · rcases j with _ | j
              · cases e; have : ¬ (a.r c).natAbs ≤ (h.r c).natAbs := fun x => ha ⟨np, x⟩; omega
              · exact L.lt j p (by omega) e np
        · have ha : p = a := by
            rcases List.mem_cons.mp m with rfl | m
            · rfl
            · exact absurd ⟨p, m, np⟩ hw
          subst ha
          refine ⟨0, p, rfl, np, fun j p e np => ?_, fun j p e => by omega⟩
          rcases j with _ | j
          · cases e; exact Nat.le_refl _
          · exact absurd ⟨p, List.mem_of_getElem? e, np⟩ hw
end
end Ch

/-! laid: the stair and the uses that give it. -/
namespace Ch
def neg (p : Pr) : Pr := ⟨fun l => - p.r l, fun i => - p.u i⟩
def pos (c : Nat) (p : Pr) : Pr := if p.r c < 0 then neg p else p
def eas (c : Nat) (h : Pr) (st : List Pr) : List Pr := st.map fun p => less p h ((p.r c).fdiv (h.r c))
/-- a place of laid -/
inductive LS (c : Nat) : List Pr × List Pr → List Pr × List Pr → Prop
  | skip {st w w' : List Pr} : Clr c w (none, w') → LS c (st, w) (st, w')
  | take {st w w' : List Pr} {h : Pr} : Clr c w (some h, w') → LS c (st, w) (eas c (pos c h) st ++ [pos c h], w')
inductive LT (w0 : List Pr) : Nat → List Pr × List Pr → Prop
  | zero : LT w0 0 ([], w0)
  | succ {c : Nat} {s s' : List Pr × List Pr} : LT w0 c s → LS c s s' → LT w0 (c + 1) s'
theorem LS.uni {c : Nat} {s a b : List Pr × List Pr} (A : LS c s a) (B : LS c s b) : a = b := by
  cases A with
  | skip x =>
    cases B with
    | skip y => cases x.uni y; rfl
    | take y => cases x.uni y
  | take x =>
    cases B with
    | skip y => cases x.uni y
    | take y => cases x.uni y; rfl
theorem LT.uni {w0 : List Pr} {c : Nat} {a b : List Pr × List Pr} (A : LT w0 c a) (B : LT w0 c b) : a = b := by
  induction A generalizing b with
  | zero => cases B; rfl
  | succ l s ih =>
    cases B with
    | succ l' s' => cases ih l'; exact s.uni s'
theorem pos_at {c : Nat} {h : Pr} (z : h.r c ≠ 0) : 0 < (pos c h).r c ∧ ((pos c h).r c).natAbs = (h.r c).natAbs := by
  unfold pos neg
  split
  · show 0 < - h.r c ∧ (- h.r c).natAbs = _; omega
  · omega
theorem pos_z {c l : Nat} {h : Pr} (z : h.r l = 0) : (pos c h).r l = 0 := by
  unfold pos neg
  split
  · show - h.r l = 0; omega
  · exact z
theorem pos_or (c : Nat) (h : Pr) : pos c h = h ∨ pos c h = neg h := by unfold pos; split; exact .inr rfl; exact .inl rfl
/-- the rows of a list of pairs -/
def zPr : Pr := ⟨fun _ => 0, fun _ => 0⟩
def stM (st : List Pr) : Mat := fun k => (st.getD k zPr).r
theorem stM_of {st : List Pr} {k : Nat} {p : Pr} (h : st[k]? = some p) : stM st k = p.r := by unfold stM; rw [List.getD_eq_getElem?_getD, h]; rfl
/-- a stair: heads at rising places below c -/
structure Ech (st : List Pr) (c : Nat) (hp : Nat → Nat) : Prop where
  lt : ∀ i, i < st.length → hp i < c
  up : ∀ i j, i < j → j < st.length → hp i < hp j
  pos : ∀ (i : Nat) (p : Pr), st[i]? = some p → 0 < p.r (hp i)
  z : ∀ (i : Nat) (p : Pr) (l : Nat), st[i]? = some p → l < hp i → p.r l = 0
theorem Ech.m {st : List Pr} {k : Nat} (h : k < st.length) : ∃ p, st[k]? = some p := ⟨st[k], List.getElem?_eq_getElem h⟩
theorem Ech.lower {st : List Pr} {c : Nat} {hp : Nat → Nat} (E : Ech st c hp) {i j : Nat} (h : i < j) (hj : j < st.length) : stM st j (hp i) = 0 := by
  obtain ⟨p, e⟩ := Ech.m hj
  rw [stM_of e]; exact E.z j p _ e (E.up i j h hj)
theorem Ech.head {st : List Pr} {c : Nat} {hp : Nat → Nat} (E : Ech st c hp) {i : Nat} (h : i < st.length) : 0 < stM st i (hp i) := by
  obtain ⟨p, e⟩ := Ech.m h
  rw [stM_of e]; exact E.pos i p e
theorem Ech.ge {st : List Pr} {c : Nat} {hp : Nat → Nat} (E : Ech st c hp) : ∀ i, i < st.length → i ≤ hp i
  | 0, _ => Nat.zero_le _
  | i + 1, h => by have := E.ge i (by omega); have := E.up i (i + 1) (by omega) h; omega
theorem Ech.le {st : List Pr} {c : Nat} {hp : Nat → Nat} (E : Ech st c hp) : st.length ≤ c := by
  rcases Nat.eq_zero_or_pos st.length with h | h
  · omega
  · have := E.ge (st.length - 1) (by omega); have := E.lt (st.length - 1) (by omega); omega
theorem Ech.ind {st : List Pr} {n : Nat} {hp : Nat → Nat} (E : Ech st n hp) : Ind (stM st) st.length n := by
  intro t h k
  induction k using Nat.strongRecOn with
  | ind k ih =>
    intro hk
    have s := h (hp k) (E.lt k hk)
    rw [sm_one hk] at s
    · rcases Int.mul_eq_zero.mp s with a | a
      · exact a
      · have := E.head hk; omega
    · intro j hj ne
      rcases Nat.lt_or_gt_of_ne ne with c | c
      · rw [ih j c hj]; omega
      · rw [E.lower c hj]; omega
/-- what holds all along -/
structure LV (n N : Nat) (b : Mat) (w0 : List Pr) (c : Nat) (s : List Pr × List Pr) : Prop where
  good : ∀ p, (p ∈ s.1 ∨ p ∈ s.2) → ∀ l, l < n → p.r l = sm N (fun i => p.u i * b i l)
  ech : ∃ hp, Ech s.1 c hp ∧ (∀ p : Pr, s.1[0]? = some p → ∀ M : Nat, (∀ q, q ∈ w0 → ∀ l, l < n → (q.r l).natAbs ≤ M) → c ≤ n → (p.r (hp 0)).natAbs ≤ M)
  z : ∀ p, p ∈ s.2 → ∀ l, l < c → p.r l = 0
  back : ∀ E : Pr → Prop, (∀ p h t, E (less p h t) → E h → E p) → (∀ p h t, E p → E h → E (less p h t)) → (∀ p, E (neg p) → E p) → (∀ p, p ∈ s.1 → E p) → (∀ p, p ∈ s.2 → E p) → ∀ p, p ∈ w0 → E p
  len : s.1.length + s.2.length = w0.length
  w0 : s.1 = [] → s.2 = w0
def Good (n N : Nat) (b : Mat) (p : Pr) : Prop := ∀ l, l < n → p.r l = sm N (fun i => p.u i * b i l)
theorem Good.less {n N : Nat} {b : Mat} {p h : Pr} {t : Int} (a : Good n N b p) (e : Good n N b h) : Good n N b (less p h t) := fun l hl => by
  show p.r l - t * h.r l = sm N (fun i => (p.u i - t * h.u i) * b i l)
  rw [a l hl, e l hl, ← sm_mul]
  have : sm N (fun i => p.u i * b i l) = sm N (fun i => (p.u i - t * h.u i) * b i l) + sm N (fun i => t * (h.u i * b i l)) := by
    rw [← sm_add]; exact sm_congr fun i _ => by grind
  omega
theorem Good.neg {n N : Nat} {b : Mat} {p : Pr} (a : Good n N b p) : Good n N b (neg p) := fun l hl => by
  show - p.r l = sm N (fun i => - p.u i * b i l)
  rw [a l hl]
  have : sm N (fun i => - p.u i * b i l) = (-1) * sm N (fun i => p.u i * b i l) := by rw [← sm_mul]; exact sm_congr fun i _ => by grind
  omega
theorem LV.start {n : Nat} {b : Mat} {w0 : List Pr} (g : ∀ p, p ∈ w0 → Good n w0.length b p) : LV n w0.length b w0 0 ([], w0) where
  good p h := g p (h.elim (fun h => (nomatch h)) id)
  ech := ⟨fun _ => 0, ⟨fun i h => (nomatch h), fun i j _ h => (nomatch h), fun i p h => by simp at h, fun i p l h => by simp at h⟩, fun p h => by simp at h⟩
  z p _ l h := by omega
  back E _ _ _ _ a := a
  len := by simp
  w0 _ := rfl
theorem LV.next {n N c : Nat} {b : Mat} {w0 : List Pr} {s s' : List Pr × List Pr} (I : LV n N b w0 c s) (A : LS c s s') (hc : c < n) : LV n N b w0 (c + 1) s' := by
  cases A with
  | skip K =>
    rename_i st w w'
    have e : w' = w := by cases K with
      | none _ => rfl
      | dirty L nz r =>
        exfalso
        have := (r.at).1
        have l := r.len
        -- a clearing that has begun ends with a head
        have key : ∀ {v : List Pr} {o}, Clr c v o → (∃ p, p ∈ v ∧ p.r c ≠ 0) → o.1.isSome := by
          intro v o K
          induction K with
          | none z => rintro ⟨p, m, hp⟩; exact absurd (z p m) hp
          | clean _ _ => intro _; rfl
          | dirty L _ _ ih => intro _; exact ih ⟨_, List.mem_cons_self, L.ne⟩
        have := key r ⟨_, List.mem_cons_self, L.ne⟩
        simp at this
    subst e
    obtain ⟨hp, E, f⟩ := I.ech
    have za := K.at.1
    refine ⟨I.good, ⟨hp, ⟨fun i h => Nat.lt_succ_of_lt (E.lt i h), E.up, E.pos, E.z⟩, fun p h M a hcn => f p h M a (by omega)⟩, fun p m l hl => ?_, I.back, I.len, I.w0⟩
    rcases Nat.lt_or_ge l c with q | q
    · exact I.z p m l q
    · obtain rfl : l = c := by omega
      exact za p m
  | take K =>
    rename_i st w w' h
    obtain ⟨hp, E, f⟩ := I.ech
    have kat := K.at
    have hne := (kat.2 h rfl).1
    have hle := (kat.2 h rfl).2
    have hpos := pos_at hne
    have zw := K.all (fun p => ∀ l, l < c → p.r l = 0) (fun p h t a b l hl => by show p.r l - t * h.r l = 0; rw [a l hl, b l hl]; omega) I.z
    have zh : ∀ l, l < c → (pos c h).r l = 0 := fun l hl => pos_z (zw.1 h rfl l hl)
    have gd := K.all (Good n N b) (fun p h t a b => a.less b) (fun p m => I.good p (.inr m))
    have gh : Good n N b (pos c h) := by
      rcases pos_or c h with e | e
      · rw [e]; exact gd.1 h rfl
      · rw [e]; exact (gd.1 h rfl).neg
    have same : ∀ (p : Pr) (t : Int) l, l < c → (less p (pos c h) t).r l = p.r l := fun p t l hl => by
      show p.r l - t * (pos c h).r l = _
      rw [zh l hl]; omega
    have at_old : ∀ i q, i < st.length → (eas c (pos c h) st ++ [pos c h])[i]? = some q → ∃ p, st[i]? = some p ∧ q = less p (pos c h) ((p.r c).fdiv ((pos c h).r c)) := fun i q hi e => by
      rw [List.getElem?_append_left (by unfold eas; rw [List.length_map]; exact hi)] at e
      unfold eas at e
      rw [List.getElem?_map] at e
      obtain ⟨p, hp⟩ := Ech.m hi
      rw [hp] at e
      exact ⟨p, hp, (Option.some.inj e).symm⟩
    have el : (eas c (pos c h) st).length = st.length := by unfold eas; rw [List.length_map]
    have at_new : ∀ q, (eas c (pos c h) st ++ [pos c h])[st.length]? = some q → q = pos c h := fun q e => by
      rw [List.getElem?_append_right (by rw [el]; exact Nat.le_refl _), el, Nat.sub_self] at e
      exact (Option.some.inj e).symm
    have split : ∀ i, i < (eas c (pos c h) st ++ [pos c h]).length → i < st.length ∨ i = st.length := fun i hi => by
      rw [List.length_append, el, List.length_singleton] at hi; omega
    refine ⟨?_, ⟨fun i => if i < st.length then hp i else c, ⟨fun i hi => ?_, fun i j hij hj => ?_, fun i q e => ?_, fun i q l e hl => ?_⟩, ?_⟩, fun p m l hl => ?_, ?_, ?_, ?_⟩
    · rintro p (m | m)
      · rcases List.mem_append.mp m with m | m
        · obtain ⟨q, mq, rfl⟩ := List.mem_map.mp m
          exact (show Good n N b q from I.good q (.inl mq)).less gh
        · obtain rfl : p = pos c h := List.mem_singleton.mp m
          exact gh
      · exact gd.2 p m
    · show (if i < st.length then hp i else c) < c + 1
      split
      · exact Nat.lt_succ_of_lt (E.lt i (by assumption))
      · omega
    · show (if i < st.length then hp i else c) < (if j < st.length then hp j else c)
      rcases split j hj with a | a
      · rw [if_pos (by omega), if_pos a]; exact E.up i j hij a
      · rw [if_pos (by omega), if_neg (by omega)]; exact E.lt i (show i < st.length by omega)
    · show 0 < q.r (if i < st.length then hp i else c)
      rcases split i (List.getElem?_eq_some_iff.mp e).1 with a | a
      · rw [if_pos a]
        obtain ⟨p, hp', rfl⟩ := at_old i q a e
        rw [same _ _ _ (E.lt i a)]; exact E.pos i p hp'
      · subst a
        rw [if_neg (by omega), at_new q e]; exact hpos.1
    · rcases split i (List.getElem?_eq_some_iff.mp e).1 with a | a
      · rw [if_pos a] at hl
        obtain ⟨p, hp', rfl⟩ := at_old i q a e
        rw [same _ _ _ (by have := E.lt i a; omega)]; exact E.z i p l hp' hl
      · subst a
        rw [if_neg (by omega)] at hl
        rw [at_new q e]; exact zh l hl
    · intro q e M a hcn
      show (q.r (if 0 < st.length then hp 0 else c)).natAbs ≤ M
      by_cases h0 : 0 < st.length
      · rw [if_pos h0]
        obtain ⟨p, hp', rfl⟩ := at_old 0 q h0 e
        rw [same _ _ _ (E.lt 0 h0)]; exact f p hp' M a (by omega)
      · rw [if_neg h0]
        have e0 : st = [] := List.eq_nil_of_length_eq_zero (by omega)
        have ew := I.w0 e0
        subst e0
        have : q = pos c h := at_new q e
        rw [this, hpos.2]
        have hw : w = w0 := ew
        subst hw
        have key : ∀ {v : List Pr} {o}, Clr c v o → o.1.isSome → ∃ p, p ∈ v ∧ p.r c ≠ 0 := by
          intro v o K hs
          cases K with
          | none z => simp at hs
          | clean L _ => exact ⟨_, L.mem, L.ne⟩
          | dirty L _ _ => exact ⟨_, L.mem, L.ne⟩
        obtain ⟨p, m, hp'⟩ := key K rfl
        exact Nat.le_trans (hle p m hp') (a p m c hc)
    · rcases Nat.lt_or_ge l c with q | q
      · exact zw.2 p m l q
      · obtain rfl : l = c := by omega
        exact kat.1 p m
    · intro E' h1 h2 h3 a1 a2
      have eh : E' (pos c h) := a1 _ (List.mem_append_right _ (List.mem_singleton.mpr rfl))
      have eh' : E' h := by
        rcases pos_or c h with e | e
        · rw [e] at eh; exact eh
        · rw [e] at eh; exact h3 _ eh
      refine I.back E' h1 h2 h3 (fun p m => ?_) (K.back E' h1 (fun q e => by cases e; exact eh') a2)
      exact h1 p _ _ (a1 _ (List.mem_append_left _ (List.mem_map.mpr ⟨p, m, rfl⟩))) eh
    · have := K.len
      have := I.len
      rw [List.length_append, el, List.length_singleton]
      simp at *
      omega
    · intro e
      exfalso
      have := congrArg List.length e
      rw [List.length_append, List.length_singleton] at this
      simp at this
end Ch

/-! The sizes that laid's numbers have, and the kinds of halls. -/
namespace Ch
def wb (N b : Nat) : Nat → Nat
  | 0 => b
  | i + 1 => if N ≤ i + 1 then wb N b i else 5 * wb N b i + 1
def sb (N b : Nat) : Nat → Nat
  | 0 => 0
  | i + 1 => if i = 0 then wb N b 1 else sb N b i + wb N b (i + 1) + 1
theorem sb_wb (N b i : Nat) : wb N b (i + 1) ≤ sb N b (i + 1) := by
  show _ ≤ (if i = 0 then wb N b 1 else sb N b i + wb N b (i + 1) + 1)
  split
  · rename_i h; subst h; exact Nat.le_refl _
  · omega
structure LSz (n N b : Nat) (s : List Pr × List Pr) : Prop where
  st : ∀ p, p ∈ s.1 → Bp n N (tw (sb N b s.1.length)) p
  wk : ∀ p, p ∈ s.2 → Bp n N (tw (wb N b s.1.length)) p
theorem Clr.single {c : Nat} {w : List Pr} {o : Option Pr × List Pr} (A : Clr c w o) (h : w.length ≤ 1) : (∀ p, o.1 = some p → p ∈ w) ∧ ∀ p, p ∈ o.2 → p ∈ w := by
  have em : ∀ {k h'}, LeastAt w c k h' → others w c k h' = [] := fun L => List.eq_nil_of_length_eq_zero (by have := others_len L; omega)
  cases A with
  | none _ => exact ⟨fun p e => (nomatch e), fun p m => m⟩
  | clean L _ => exact ⟨fun p e => by cases e; exact L.mem, fun p m => by rw [em L] at m; cases m⟩
  | dirty L n _ => exact absurd (fun p m => by rw [em L] at m; cases m) n
theorem start_tw (W : Nat) : tw W + tw W * tw W ≤ tw (5 * W + 1) ∧ (tw W + tw W * tw W) * (tw W * tw W * tw W) ≤ tw (5 * W + 1) := by
  have a : tw W + tw W * tw W ≤ tw (2 * W + 1) := by
    rw [tw_succ, tw_mul]
    have : tw W ≤ tw (W + W) := tw_le (by omega)
    rw [show 2 * W = W + W by omega]; omega
  refine ⟨Nat.le_trans a (tw_le (by omega)), ?_⟩
  refine Nat.le_trans (Nat.mul_le_mul_right _ a) ?_
  rw [tw_mul, tw_mul, tw_mul]
  exact tw_le (by omega)
/-- the bound of a clearing -/
def cw (W k : Nat) : Nat := if k ≤ 1 then W else 5 * W + 1
theorem Clr.bound {n N c W : Nat} {w : List Pr} (hc : c < n) (h : ∀ p, p ∈ w → Bp n N (tw W) p) : ∃ o, Clr c w o ∧ (∀ h, o.1 = some h → Bp n N (tw (cw W w.length)) h) ∧ ∀ p, p ∈ o.2 → Bp n N (tw (cw W w.length)) p := by
  obtain ⟨o, r, b1, b2⟩ := CI.ends (N := N) (F := tw (5 * W + 1)) hc _ w (.start h (start_tw W).1 (start_tw W).2)
  refine ⟨o, r, ?_⟩
  unfold cw
  by_cases k : w.length ≤ 1
  · rw [if_pos k]
    have := r.single k
    exact ⟨fun p e => h p (this.1 p e), fun p m => h p (this.2 p m)⟩
  · rw [if_neg k]; exact ⟨b1, b2⟩
theorem Bp.pos {n N b c : Nat} {p : Pr} (h : Bp n N b p) : Bp n N b (pos c p) := by
  rcases pos_or c p with e | e
  · rw [e]; exact h
  · rw [e]
    exact ⟨fun l hl => by have := h.1 l hl; show (- p.r l).natAbs ≤ b; omega, fun i hi => by have := h.2 i hi; show (- p.u i).natAbs ≤ b; omega⟩
theorem LSz.next {n b c : Nat} {bm : Mat} {w0 : List Pr} {s : List Pr × List Pr} (I : LV n w0.length bm w0 c s) (Z : LSz n w0.length b s) (hc : c < n) : ∃ s', LS c s s' ∧ LSz n w0.length b s' := by
  obtain ⟨st, w⟩ := s
  obtain ⟨o, r, b1, b2⟩ := Clr.bound hc Z.wk
  obtain ⟨oh, w'⟩ := o
  have il : st.length + w.length = w0.length := I.len
  cases oh with
  | none =>
    refine ⟨(st, w'), .skip r, Z.st, fun p m => ?_⟩
    have e : w' = w := by
      cases r with
      | none _ => rfl
      | dirty L nz r =>
        exfalso
        have key : ∀ {v : List Pr} {o}, Clr c v o → (∃ p, p ∈ v ∧ p.r c ≠ 0) → o.1.isSome := by
          intro v o K
          induction K with
          | none z => rintro ⟨p, m, hp⟩; exact absurd (z p m) hp
          | clean _ _ => intro _; rfl
          | dirty L _ _ ih => intro _; exact ih ⟨_, List.mem_cons_self, L.ne⟩
        have := key r ⟨_, List.mem_cons_self, L.ne⟩
        simp at this
    rw [e] at m
    exact Z.wk p m
  | some h =>
    have wl : 0 < w.length := by
      have := r.len
      simp at this; omega
    have ew : cw (wb w0.length b st.length) w.length = wb w0.length b (st.length + 1) := by
      show _ = (if w0.length ≤ st.length + 1 then _ else _)
      unfold cw
      by_cases k : w.length ≤ 1
      · rw [if_pos k, if_pos (by omega)]
      · rw [if_neg k, if_neg (by omega)]
    have hb : Bp n w0.length (tw (wb w0.length b (st.length + 1))) (pos c h) := by rw [← ew]; exact (b1 h rfl).pos
    have len : (eas c (pos c h) st ++ [pos c h]).length = st.length + 1 := by unfold eas; rw [List.length_append, List.length_map]; rfl
    refine ⟨_, .take r, fun p m => ?_, fun p m => ?_⟩
    · show Bp n w0.length (tw (sb w0.length b (eas c (pos c h) st ++ [pos c h]).length)) p
      rw [len]
      rcases List.mem_append.mp m with m | m
      · obtain ⟨q, mq, rfl⟩ := List.mem_map.mp m
        have zq := Z.st q mq
        have sl : st.length ≠ 0 := fun e => by rw [List.eq_nil_of_length_eq_zero e] at mq; cases mq
        have t : Bp n w0.length (tw (sb w0.length b st.length) + tw (sb w0.length b st.length) * tw (wb w0.length b (st.length + 1))) (less q (pos c h) ((q.r c).fdiv ((pos c h).r c))) := Bp.less zq hb (Nat.le_trans (fd_le (a := (pos c h).r c) (q.r c) (by have := (pos_at (r.at.2 h rfl).1).1; omega)) (zq.1 c hc))
        refine t.mono ?_
        show _ ≤ tw (if st.length = 0 then wb w0.length b 1 else sb w0.length b st.length + wb w0.length b (st.length + 1) + 1)
        rw [if_neg sl, tw_mul, tw_succ]
        have : tw (sb w0.length b st.length) ≤ tw (sb w0.length b st.length + wb w0.length b (st.length + 1)) := tw_le (by omega)
        show tw (sb w0.length b st.length) + _ ≤ _
        omega
      · obtain rfl : p = pos c h := List.mem_singleton.mp m
        exact hb.mono (tw_le (sb_wb _ _ _))
    · show Bp n w0.length (tw (wb w0.length b (eas c (pos c h) st ++ [pos c h]).length)) p
      rw [len, ← ew]; exact b2 p m
/-- the whole of laid: it ends, and what holds behind it -/
theorem laid_to {n b : Nat} {bm : Mat} {w0 : List Pr} (g : ∀ p, p ∈ w0 → Good n w0.length bm p) (z : ∀ p, p ∈ w0 → Bp n w0.length (tw b) p) : ∀ c, c ≤ n → ∃ s, LT w0 c s ∧ LV n w0.length bm w0 c s ∧ LSz n w0.length b s
  | 0, _ => ⟨_, .zero, LV.start g, fun p m => (nomatch m), z⟩
  | c + 1, h => by
    obtain ⟨s, a, i, sz⟩ := laid_to g z c (by omega)
    obtain ⟨s', ls, sz'⟩ := LSz.next i sz (by omega)
    exact ⟨s', .succ a ls, i.next ls (by omega), sz'⟩
/-- the kinds of halls -/
inductive Hk : Nat → Nat → Nat → Nat → Prop
  | a {n N : Nat} : n ≤ 6 → N ≤ 3 → Hk n N 2 4
  | b {n N : Nat} : n ≤ 3 → N ≤ 8 → Hk n N 2 4
  | c {n N : Nat} : n ≤ 3 → N ≤ 3 → Hk n N 5 30
  | d {n N : Nat} : n ≤ 2 → N ≤ 2 → Hk n N 100 (tw 100)
theorem Hk.tw {n N b M : Nat} (h : Hk n N b M) : M ≤ tw b := by
  cases h with
  | a => rw [tw_is]; decide
  | b => rw [tw_is]; decide
  | c => rw [tw_is]; decide
  | d => exact Nat.le_refl _
theorem Hk.n {n N b M : Nat} (h : Hk n N b M) : n ≤ 6 := by cases h <;> omega
theorem Hk.N {n N b M : Nat} (h : Hk n N b M) : N ≤ 8 := by cases h <;> omega
theorem wb1 (N b : Nat) : wb N b 1 ≤ 5 * b + 1 := by show (if N ≤ 1 then b else 5 * b + 1) ≤ _; split <;> omega
theorem sb1 (N b : Nat) : sb N b 1 ≤ 5 * b + 1 := wb1 N b
theorem sb2 (N b : Nat) : sb N b 2 ≤ (5 * b + 1) + (if N ≤ 2 then 5 * b + 1 else 5 * (5 * b + 1) + 1) + 1 := by
  have a := wb1 N b
  show wb N b 1 + (if N ≤ 2 then wb N b 1 else 5 * wb N b 1 + 1) + 1 ≤ _
  split <;> omega
theorem sb3 (N b : Nat) : sb N b 3 ≤ (5 * b + 1) + (5 * (5 * b + 1) + 1) + 1 + (if N ≤ 3 then 5 * (5 * b + 1) + 1 else 5 * (5 * (5 * b + 1) + 1) + 1) + 1 := by
  have a := wb1 N b
  have c : wb N b 2 ≤ 5 * (5 * b + 1) + 1 := by show (if N ≤ 2 then wb N b 1 else 5 * wb N b 1 + 1) ≤ _; split <;> omega
  show wb N b 1 + wb N b 2 + 1 + (if N ≤ 3 then wb N b 2 else 5 * wb N b 2 + 1) + 1 ≤ _
  split <;> omega
/-- which kind of grid a hall's stair makes -/
theorem grid_kind {n b M : Nat} {bm : Mat} {w0 : List Pr} {st wk : List Pr} (h : Hk n w0.length b M) (hM : ∀ q, q ∈ w0 → ∀ l, l < n → (q.r l).natAbs ≤ M) (I : LV n w0.length bm w0 n (st, wk)) (Z : LSz n w0.length b (st, wk)) (m0 : 0 < st.length) :
    ∃ cs : Cs, cs.ok st.length n ∧ First (stM st) st.length n cs.B (tb cs 0).P ∧ Bond (stM st) st.length (stM st) idm st.length n := by
  obtain ⟨hp, E, f⟩ := I.ech
  have mn : st.length ≤ n := E.le
  have mN : st.length ≤ w0.length := by have := I.len; simp at this; omega
  have bd : Bond (stM st) st.length (stM st) idm st.length n := Bond.start E.ind
  have b1 : ∀ B, sb w0.length b st.length ≤ B → B1 (stM st) 0 st.length n (tw B) := fun B hB k l _ hk _ hl => by
    obtain ⟨p, e⟩ := Ech.m hk
    rw [stM_of e]
    exact Nat.le_trans ((Z.st p (List.mem_of_getElem? e)).1 l hl) (tw_le hB)
  have low : ∀ P, M ≤ P → Low (stM st) 0 st.length n (P + 1) := fun P hP => by
    obtain ⟨p, e⟩ := Ech.m m0
    have := f p e M hM (Nat.le_refl _)
    have h0 : 0 < stM st 0 (hp 0) := E.head m0
    refine ⟨0, hp 0, Nat.le_refl _, m0, Nat.zero_le _, E.lt 0 m0, by omega, ?_⟩
    rw [stM_of e]; omega
  have s1 := sb1 w0.length b
  have s2 := sb2 w0.length b
  have s3 := sb3 w0.length b
  have hn := h.n
  have t30 : (30 : Nat) ≤ tw 100 := small_le (by decide)
  have t4 : (4 : Nat) ≤ tw 100 := small_le (by decide)
  have M100 : M ≤ tw 100 := by cases h <;> first | exact t4 | exact t30 | exact Nat.le_refl _
  rcases Nat.lt_or_ge st.length 2 with a | a
  · have e1 : st.length = 1 := by omega
    refine ⟨.one, ⟨e1, hn⟩, ⟨b1 1003 ?_, low _ (Nat.le_trans M100 (tw_le (by decide)))⟩, bd⟩
    rw [e1]; cases h <;> omega
  · rcases Nat.lt_or_ge st.length 3 with a3 | a3
    · have e2 : st.length = 2 := by omega
      refine ⟨.two, ⟨e2, hn⟩, ⟨b1 1003 ?_, low _ M100⟩, bd⟩
      rw [e2]
      cases h with
      | d h1 h2 => rw [if_pos h2] at s2; omega
      | a => split at s2 <;> omega
      | b => split at s2 <;> omega
      | c => split at s2 <;> omega
    · cases h with
      | d h1 h2 => omega
      | a h1 h2 =>
        have e3 : st.length = 3 := by omega
        refine ⟨.a, ⟨e3, hn⟩, ⟨b1 125 ?_, low _ (Nat.le_refl _)⟩, bd⟩
        rw [e3]; rw [if_pos h2] at s3; omega
      | b h1 h2 =>
        have e3 : st.length = 3 := by omega
        refine ⟨.b, ⟨e3, h1⟩, ⟨b1 350 ?_, low _ (by decide)⟩, bd⟩
        rw [e3]; split at s3 <;> omega
      | c h1 h2 =>
        have e3 : st.length = 3 := by omega
        refine ⟨.b, ⟨e3, h1⟩, ⟨b1 350 ?_, low _ (Nat.le_refl _)⟩, bd⟩
        rw [e3]; split at s3 <;> omega
end Ch

/-! by_rows over a stair; what a diagonal grid's scales tell. -/
namespace Ch
/-- what is left behind k rows -/
def byR (H : Mat) (hp : Nat → Nat) (x : Nat → Int) : Nat → Nat → Int
  | 0 => x
  | k + 1 => fun l => byR H hp x k l - (byR H hp x k (hp k)).fdiv (H k (hp k)) * H k l
/-- how often row k is taken -/
def tmR (H : Mat) (hp : Nat → Nat) (x : Nat → Int) (k : Nat) : Int := (byR H hp x k (hp k)).fdiv (H k (hp k))
theorem byR_sum (H : Mat) (hp : Nat → Nat) (x : Nat → Int) (l : Nat) : ∀ k, x l = byR H hp x k l + sm k (fun j => tmR H hp x j * H j l)
  | 0 => by show x l = x l + 0; omega
  | k + 1 => by
    have := byR_sum H hp x l k
    show x l = (byR H hp x k l - tmR H hp x k * H k l) + (sm k _ + tmR H hp x k * H k l)
    omega
theorem fd_mul {a : Int} (t : Int) (h : 0 < a) : (t * a).fdiv a = t := Int.mul_fdiv_cancel t (by omega)
theorem byR_span {st : List Pr} {n : Nat} {hp : Nat → Nat} (E : Ech st n hp) {x : Nat → Int} (S : Span (stM st) st.length n x) : ∀ l, l < n → byR (stM st) hp x st.length l = 0 := by
  obtain ⟨t, ht⟩ := S
  have key : ∀ k, k ≤ st.length → ∀ l, l < n → byR (stM st) hp x k l = sm st.length (fun j => (if j < k then 0 else t j) * stM st j l) := by
    intro k
    induction k with
    | zero =>
      intro _ l hl
      show x l = _
      rw [ht l hl]
      exact sm_congr fun j _ => by rw [if_neg (by omega)]
    | succ k ih =>
      intro hk l hl
      have ihk := ih (by omega)
      have hk' : k < st.length := by omega
      have at_ : byR (stM st) hp x k (hp k) = t k * stM st k (hp k) := by
        rw [ihk _ (E.lt k hk'), sm_one hk']
        · rw [if_neg (by omega)]
        · intro j hj ne
          by_cases c : j < k
          · rw [if_pos c]; omega
          · rw [E.lower (by omega) hj]; omega
      show byR (stM st) hp x k l - (byR (stM st) hp x k (hp k)).fdiv (stM st k (hp k)) * stM st k l = _
      rw [at_, fd_mul _ (E.head hk'), ihk l hl]
      have e : sm st.length (fun j => (if j < k then 0 else t j) * stM st j l) = sm st.length (fun j => (if j < k + 1 then 0 else t j) * stM st j l) + sm st.length (fun j => (if j = k then t k else 0) * stM st j l) := by
        rw [← sm_add]
        refine sm_congr fun j _ => ?_
        by_cases c : j < k
        · rw [if_pos c, if_pos (by omega), if_neg (by omega)]; omega
        · by_cases d : j = k
          · subst d; rw [if_neg c, if_pos (by omega), if_pos rfl]; omega
          · rw [if_neg c, if_neg (by omega), if_neg d]; omega
      have o : sm st.length (fun j => (if j = k then t k else 0) * stM st j l) = t k * stM st k l := by
        rw [sm_one hk']
        · rw [if_pos rfl]
        · intro j _ ne; rw [if_neg ne]; omega
      omega
  intro l hl
  rw [key st.length (Nat.le_refl _) l hl, sm_congr (g := fun _ => 0) fun j hj => by rw [if_pos hj]; omega, sm_zero]
theorem span_byR {st : List Pr} {n : Nat} {hp : Nat → Nat} {x : Nat → Int} (h : ∀ l, l < n → byR (stM st) hp x st.length l = 0) : Span (stM st) st.length n x :=
  ⟨tmR (stM st) hp x, fun l hl => by have := byR_sum (stM st) hp x l st.length; rw [h l hl] at this; omega⟩
/-- sizes -/
theorem byR_le {H : Mat} {hp : Nat → Nat} {x : Nat → Int} {n m e f : Nat} (hH : ∀ k l, k < m → l < n → (H k l).natAbs ≤ tw f) (hx : ∀ l, l < n → (x l).natAbs ≤ tw e) (h0 : ∀ k, k < m → hp k < n ∧ H k (hp k) ≠ 0) :
    ∀ k, k ≤ m → (∀ l, l < n → (byR H hp x k l).natAbs ≤ tw (e + k * (f + 1))) ∧ (k < m → (tmR H hp x k).natAbs ≤ tw (e + k * (f + 1)))
  | 0, h => ⟨fun l hl => by rw [Nat.zero_mul]; exact hx l hl, fun hk => by rw [Nat.zero_mul]; exact Nat.le_trans (fd_le _ (h0 0 hk).2) (hx _ (h0 0 hk).1)⟩
  | k + 1, h => by
    obtain ⟨a, b⟩ := byR_le hH hx h0 k (by omega)
    have c : ∀ l, l < n → (byR H hp x (k + 1) l).natAbs ≤ tw (e + (k + 1) * (f + 1)) := fun l hl => by
      have h1 := a l hl
      have h2 := nab_mul_le (b (by omega)) (hH k l (by omega) hl)
      rw [tw_mul] at h2
      have e1 : e + (k + 1) * (f + 1) = (e + k * (f + 1) + f) + 1 := by rw [Nat.add_mul]; omega
      rw [e1, tw_succ]
      have : tw (e + k * (f + 1)) ≤ tw (e + k * (f + 1) + f) := tw_le (by omega)
      show (byR H hp x k l - tmR H hp x k * H k l).natAbs ≤ _
      omega
    exact ⟨c, fun hk => Nat.le_trans (fd_le _ (h0 (k + 1) hk).2) (c _ (h0 (k + 1) hk).1)⟩
/-- the parts -/
def part (R : Mat) (m j : Nat) : Int := if j < m then R j j else 0
/-- even on scale j -/
def Evn (R V : Mat) (m n : Nat) (x : Nat → Int) (j : Nat) : Prop := if part R m j = 0 then xV V n x j = 0 else (xV V n x j).fmod (part R m j) = 0
section
variable {H R V : Mat} {p m n : Nat}
theorem dia_sum (D : Dia R m m n) (t : Nat → Int) {j : Nat} (hj : j < n) : sm m (fun k => t k * R k j) = if j < m then t j * R j j else 0 := by
  by_cases h : j < m
  · rw [if_pos h, sm_one h]
    intro k hk ne
    rw [D.z k j hk hj (.inl hk) ne]; omega
  · rw [if_neg h, sm_congr (g := fun _ => 0) fun k hk => by rw [D.z k j hk hj (.inl hk) (by omega)]; omega, sm_zero]
theorem fair_of (B : Bond H p R V m n) (D : Dia R m m n) {x : Nat → Int} (S : Span H p n x) {j : Nat} (hj : j < n) : Evn R V m n x j := by
  -- x by the table lies in the rows
  have sx : Span R m n (xV V n x) := by
    obtain ⟨t, ht⟩ := S
    have : Span R m n (fun l => sm p (fun i => t i * xV V n (H i) l)) := Span.sum B.fair
    refine this.congr fun l hl => ?_
    show sm n (fun c => x c * V c l) = _
    rw [sm_congr (n := n) (g := fun c => sm p (fun i => t i * (H i c * V c l))) fun c hc => ?_, sm_swap]
    · exact sm_congr fun i _ => by rw [sm_mul]; rfl
    · rw [ht c hc, ← sm_mulr]; exact sm_congr fun i _ => by rw [Int.mul_assoc]
  obtain ⟨t, ht⟩ := sx
  have e := ht j hj
  rw [dia_sum D t hj] at e
  unfold Evn part
  by_cases h : j < m
  · rw [if_pos h] at e
    have pj := D.p j h h hj
    rw [if_pos h, if_neg (by omega), e, Int.fmod_def, fd_mul _ pj, Int.mul_comm]; omega
  · rw [if_neg h] at e
    rw [if_neg h, if_pos rfl]; exact e
theorem tell_of (B : Bond H p R V m n) (D : Dia R m m n) {x : Nat → Int} (h : ∀ j, j < n → Evn R V m n x j) : Span H p n x := by
  refine B.tell x ⟨fun k => (xV V n x k).fdiv (R k k), fun j hj => ?_⟩
  rw [dia_sum D _ hj]
  have e := h j hj
  unfold Evn part at e
  by_cases c : j < m
  · have pj := D.p j c c hj
    rw [if_pos c, if_neg (by omega)] at e
    rw [if_pos c]
    have := fm_eq (xV V n x j) (R j j)
    rw [e] at this
    rw [Int.mul_comm]; omega
  · rw [if_neg c, if_pos rfl] at e
    rw [if_neg c, e]
end
end Ch

set_option maxRecDepth 100000
namespace Cw
open PySem L2
def top (i : Nat) : Stmt := PySem.Challenge.pw_changehall_k25_halls_that_do_not_fit.main.body.getD i (.Pass ⟨0, 0, 0, 0⟩)
/-! ### rules for numbers of any size -/
section
open PySem.Spec PyProof.Rows
variable {X : Cx}
theorem op_mulZ : OpR X (binaryOp .Mult) (rI (fun i j => IntMulOk i j) fun i j => .int (i * j)) := opI fun _ _ _ _ _ _ _ hc q => mul_int q hc
theorem op_fdivZ : OpR X (binaryOp .FloorDiv) (rI (fun _ j => j ≠ 0 ∧ j.natAbs.log2 < 9000) fun i j => .int (i.fdiv j)) := opI fun i j _ _ _ _ _ hc q => floordiv_int hc.1 q (.inl (PyProof.noPylong_of_log2 hc.2))
theorem op_modZ : OpR X (binaryOp .Mod) (rI (fun _ j => j ≠ 0) fun i j => .int (i.fmod j)) := opI fun i j _ _ _ _ _ hc q => mod_int hc q
theorem mulok {i j : Int} {a b : Nat} (hi : i.natAbs ≤ 2 ^ a) (hj : j.natAbs ≤ 2 ^ b) (h : a + b + 4 ≤ 134217728) : IntMulOk i j := by
  have bits : ∀ (x : Int) (e : Nat), x.natAbs ≤ 2 ^ e → Builtin.Int.intBits x ≤ e + 2 := fun x e hx => by
    unfold Builtin.Int.intBits
    split
    · omega
    · rename_i hz
      have hx0 : x.natAbs ≠ 0 := by
        intro e0
        apply hz
        simp [Int.natAbs_eq_zero.mp e0]
      have : x.natAbs.log2 < e + 1 := (Nat.log2_lt hx0).2 (Nat.lt_of_le_of_lt hx (Nat.pow_lt_pow_right (by omega) (by omega)))
      omega
  have h1 := bits i a hi
  have h2 := bits j b hj
  have e : bitsLine = 134217728 := by decide
  unfold IntMulOk
  intro z
  rw [Bool.and_eq_true] at z
  have z2 := z.2
  unfold Builtin.Int.intTooBig at z2
  have z3 := of_decide_eq_true z2
  rw [e] at z3
  omega
end
/-! ### lists of numbers -/
def Lz (n : Nat) (f : Nat → Int) : List V := (List.range n).map fun j => V.int (f j)
theorem Lz_len (n : Nat) (f : Nat → Int) : (Lz n f).length = n := by unfold Lz; rw [List.length_map, List.length_range]
theorem Lz_get {n i : Nat} (f : Nat → Int) (h : i < n) : (Lz n f)[i]? = some (.int (f i)) := by
  unfold Lz
  rw [List.getElem?_map, List.getElem?_range h]; rfl
theorem Lz_succ (n : Nat) (f : Nat → Int) : Lz (n + 1) f = Lz n f ++ [.int (f n)] := by
  unfold Lz
  rw [List.range_succ, List.map_append]; rfl
theorem Lz_congr {n : Nat} {f g : Nat → Int} (h : ∀ i, i < n → f i = g i) : Lz n f = Lz n g := by
  unfold Lz
  exact List.map_congr_left fun i hi => by rw [h i (List.mem_range.mp hi)]
theorem small {n : Nat} (h : n ≤ 1000) : n < sizeLine := Nat.lt_of_le_of_lt h (by decide)
theorem same_upd {H : Hp} {p : Addr} {o : HO} (h : H p = none) : Same H (upd H p o) := fun b x e => by
  rw [upd_ne (ne_of_none e h)]
  exact e
theorem same_rfl {H : Hp} : Same H H := fun _ _ e => e
section
variable {P : Program} {w : World} {K : PySem.W.Frag} {mg : Str → Option Value} {base : Heap}
/-- a new list of numbers -/
def NewL (H : Hp) (Q : VK) (n : Nat) (f : Nat → Int) : Prop := ∀ H' p, Same H H' → H p = none → H' p = some (.lst (Lz n f)) → Q (.ref p) H'
/-! ### noughts, single -/
abbrev sNoughts : Stmt := top 7
theorem scNoughts : FnScope ["size", "k"] ["size"] (defScope sNoughts) := ⟨rfl, rfl, rfl, by decide +kernel, rfl, by decide +kernel, by decide +kernel⟩
def spNoughts : Sp := fun vs H Q _ => ∃ n : Nat, vs = [.int n] ∧ n ≤ 100 ∧ NewL H Q n fun _ => 0
theorem ok_noughts {f : Addr} {fd : FuncData} (F : Fun K "noughts" "noughts" sNoughts f fd) (mr : mg "range" = none) : FnOk P w K mg base CX0 1 f fd ["size"] spNoughts := by
  refine F.ok scNoughts (fun vs H Q E h => ?_) (fun cdv A outer s H vs Q E hr h => ?_)
  · obtain ⟨n, rfl, _⟩ := h
    rfl
  · obtain ⟨n, rfl, hn, k⟩ := h
    refine ⟨_, pss_one (ps_ret (pe_lc (own := [("k", 1)]) (g := gName 1) (tt := tYes) (by rfl) scNoughts.nd (pi_range1 rfl mr (pa_cons (pv 0) pa_nil)) (blkOk_by (own := [("k", 1)]) (N := ["size", "k"]) (sc := defScope sNoughts) (by decide +kernel))
      (fun _ _ _ _ _ => pg_name (i := 1) scNoughts.nd rfl (Or.inl rfl)) (fun _ _ _ _ _ => pts_nil) (fun _ _ _ _ _ => pe_int))), ?_⟩
    refine ⟨_, rfl, n, rfl, by omega, by omega, fun D hD => lc_range (lo := 0) (n := n) (fun i H' => Same H H' ∧ H' D = some (.lst (Lz i fun _ => 0))) ⟨same_upd hD, upd_same⟩ (fun i H' hi p => ?_) (fun H' p => k H' D p.1 hD p.2)⟩
    refine ⟨rfl, _, p.2, small (by rw [Lz_len]; omega), fun b x e => ?_, ?_⟩
    · rw [upd_ne (ne_of_none e hD)]; exact p.1 b x e
    · rw [upd_same, Lz_succ]
end
end Cw

set_option maxRecDepth 100000
set_option maxHeartbeats 2000000
namespace Cw
open PySem L2
section
variable {P : Program} {w : World} {K : PySem.W.Frag} {mg : Str → Option Value} {base : Heap}
abbrev sSingle : Stmt := top 8
theorem scSingle : FnScope ["size", "place", "k"] ["size", "place"] (defScope sSingle) := ⟨rfl, rfl, rfl, by decide +kernel, rfl, by decide +kernel, by decide +kernel⟩
def spSingle : Sp := fun vs H Q _ => ∃ n c : Nat, vs = [.int n, .int c] ∧ n ≤ 100 ∧ NewL H Q n fun k => if k = c then 1 else 0
theorem ok_single {f : Addr} {fd : FuncData} (F : Fun K "single" "single" sSingle f fd) (mr : mg "range" = none) (mi : mg "int" = none) : FnOk P w K mg base CX0 1 f fd ["size", "place"] spSingle := by
  refine F.ok scSingle (fun vs H Q E h => ?_) (fun cdv A outer s H vs Q E hr h => ?_)
  · obtain ⟨n, c, rfl, _⟩ := h
    rfl
  · obtain ⟨n, c, rfl, hn, k⟩ := h
    refine ⟨_, pss_one (ps_ret (pe_lc (own := [("k", 2)]) (g := gName 2) (tt := tYes) (by rfl) scSingle.nd (pi_range1 rfl mr (pa_cons (pv 0) pa_nil)) (blkOk_by (own := [("k", 2)]) (N := ["size", "place", "k"]) (sc := defScope sSingle) (by decide +kernel))
      (fun _ _ _ _ _ => pg_name (i := 2) scSingle.nd rfl (Or.inl rfl)) (fun _ _ _ _ _ => pts_nil) (fun _ _ _ _ _ => pe_callTy call_int1 (by rfl) mi (by decide +kernel) (pa_cons (pe_cmpR op_eq (pv 2) (pv 1) (nomark _)) pa_nil)))), ?_⟩
    refine ⟨_, rfl, n, rfl, by omega, by omega, fun D hD => lc_range (lo := 0) (n := n) (fun i H' => Same H H' ∧ H' D = some (.lst (Lz i fun k => if k = c then 1 else 0))) ⟨same_upd hD, upd_same⟩ (fun i H' hi p => ?_) (fun H' p => k H' D p.1 hD p.2)⟩
    refine ⟨rfl, _, rfl, _, rfl, rfl, .inr ⟨_, rfl, _, p.2, small (by rw [Lz_len]; omega), fun b x e => ?_, ?_⟩⟩
    · rw [upd_ne (ne_of_none e hD)]; exact p.1 b x e
    · rw [upd_same, Lz_succ]
      by_cases e : i = c
      · subst e; simp
      · have : ¬ (V.int (0 + (i : Int)) = V.int (c : Int)) := fun h => e (by injection h with h; omega)
        rw [if_neg e, decide_eq_false this]; rfl
/-! ### taken -/
abbrev sTaken : Stmt := top 9
theorem scTaken : FnScope ["row", "other", "times", "a", "b"] ["row", "other", "times"] (defScope sTaken) := ⟨rfl, rfl, rfl, by decide +kernel, rfl, by decide +kernel, by decide +kernel⟩
def spTaken (K : PySem.W.Frag) : Sp := fun vs H Q _ => ∃ (a b : Addr) (n : Nat) (f g : Nat → Int) (t : Int), vs = [.ref a, .ref b, .int t] ∧ SqL K H a (Lz n f) ∧ SqL K H b (Lz n g) ∧ n ≤ 100 ∧ (∀ l, l < n → IntMulOk t (g l)) ∧ NewL H Q n fun l => f l - t * g l
theorem ok_taken {f : Addr} {fd : FuncData} (F : Fun K "taken" "taken" sTaken f fd) (mz : mg "zip" = none) : FnOk P w K mg base CX0 1 f fd ["row", "other", "times"] (spTaken K) := by
  refine F.ok scTaken (fun vs H Q E h => ?_) (fun cdv A outer s H vs Q E hr h => ?_)
  · obtain ⟨a, b, n, f, g, t, rfl, _⟩ := h
    rfl
  · obtain ⟨a, b, n, f, g, t, rfl, ha, hb, hn, hm, k⟩ := h
    refine ⟨_, pss_one (ps_ret (pe_lc (own := [("a", 3), ("b", 4)]) (g := gTup K 2 (gCons (gName 3) (gCons (gName 4) gNil))) (tt := tYes) (by rfl) scTaken.nd (pi_zip (by rfl) mz (pa_cons (pv 0) (pa_cons (pv 1) pa_nil))) (blkOk_by (own := [("a", 3), ("b", 4)]) (N := ["row", "other", "times", "a", "b"]) (sc := defScope sTaken) (by decide +kernel))
      (fun _ _ _ _ _ => pg_tup rfl (pgs_cons (pg_name (i := 3) scTaken.nd rfl (Or.inl rfl)) (pgs_cons (pg_name (i := 4) scTaken.nd rfl (Or.inl rfl)) pgs_nil))) (fun _ _ _ _ _ => pts_nil) (fun _ _ _ _ _ => pe_op op_sub (pv 3) (pe_op op_mulZ (pv 2) (pv 4))))), ?_⟩
    refine ⟨_, rfl, _, rfl, a, b, _, _, rfl, ha, hb, fun D hD => lc_it (walk_zip (n := n) (by rw [Lz_len, Lz_len]; omega)) (fun i H' => Same H H' ∧ H' D = some (.lst (Lz i fun l => f l - t * g l))) ⟨same_upd hD, upd_same⟩ (fun i H' _ p => ⟨p.1.seq ha, p.1.seq hb⟩) (fun i x H1 H' hi p y => ?_) (fun H' p => k H' D p.1 hD p.2)⟩
    obtain ⟨T, x1, x2, rfl, nT, rfl, e1, e2⟩ := y
    cases Option.some.inj ((Lz_get f hi).symm.trans e1)
    cases Option.some.inj ((Lz_get g hi).symm.trans e2)
    refine ⟨T, _, rfl, .inl (.inl upd_same), rfl, _, _, rfl, _, _, rfl, rfl, rfl, _, rfl, _, rfl, _, rfl, _, _, rfl, rfl, hm i hi, _, _, rfl, rfl, Lz i (fun l => f l - t * g l), ?_, small (by rw [Lz_len]; omega), fun c z e => ?_, ?_⟩
    · rw [upd_ne (ne_of_none p.2 nT)]; exact p.2
    · rw [upd_ne (ne_of_none e hD), upd_ne (ne_of_none (p.1 c z e) nT)]; exact p.1 c z e
    · rw [upd_same, Lz_succ]
end
end Cw

set_option maxRecDepth 100000
set_option maxHeartbeats 2000000
namespace Cw
open PySem L2
section
variable {P : Program} {w : World} {K : PySem.W.Frag} {mg : Str → Option Value} {base : Heap}
theorem neI {x y : Int} {A B : Prop} (h1 : x ≠ y → A) (h2 : x = y → B) : if (!decide (V.int x = V.int y)) = true then A else B := by
  rw [dec_int]
  by_cases e : x = y
  · rw [if_neg (by simp [e])]; exact h2 e
  · rw [if_pos (by simp [e])]; exact h1 e
theorem eqI {x y : Int} {A B : Prop} (h1 : x = y → A) (h2 : x ≠ y → B) : if decide (V.int x = V.int y) = true then A else B := by
  rw [dec_int]
  by_cases e : x = y
  · rw [if_pos (by simp [e])]; exact h1 e
  · rw [if_neg (by simp [e])]; exact h2 e
theorem atI0 {n i : Nat} (f : Nat → Int) (h : i < n) : atI (Lz n f) (0 + (i : Int)) = some (.int (f i)) := by
  rw [Int.zero_add]; exact atI_nat (Lz_get f h)
theorem atIz {n i : Nat} (f : Nat → Int) (h : i < n) : atI (Lz n f) (i : Int) = some (.int (f i)) := atI_nat (Lz_get f h)
abbrev sTurned : Stmt := top 10
theorem scTurned : FnScope ["row", "number"] ["row"] (defScope sTurned) := ⟨rfl, rfl, rfl, by decide +kernel, rfl, by decide +kernel, by decide +kernel⟩
def spTurned (K : PySem.W.Frag) : Sp := fun vs H Q _ => ∃ (a : Addr) (n : Nat) (f : Nat → Int), vs = [.ref a] ∧ SqL K H a (Lz n f) ∧ n ≤ 100 ∧ NewL H Q n fun l => - f l
theorem ok_turned {f : Addr} {fd : FuncData} (F : Fun K "turned" "turned" sTurned f fd) : FnOk P w K mg base CX0 1 f fd ["row"] (spTurned K) := by
  refine F.ok scTurned (fun vs H Q E h => ?_) (fun cdv A outer s H vs Q E hr h => ?_)
  · obtain ⟨a, n, f, rfl, _⟩ := h
    rfl
  · obtain ⟨a, n, f, rfl, ha, hn, k⟩ := h
    refine ⟨_, pss_one (ps_ret (pe_lc (own := [("number", 1)]) (g := gName 1) (tt := tYes) (by rfl) scTurned.nd (pi_list (pv 0)) (blkOk_by (own := [("number", 1)]) (N := ["row", "number"]) (sc := defScope sTurned) (by decide +kernel))
      (fun _ _ _ _ _ => pg_name (i := 1) scTurned.nd rfl (Or.inl rfl)) (fun _ _ _ _ _ => pts_nil) (fun _ _ _ _ _ => pe_un un_neg (pv 1)))), ?_⟩
    refine ⟨_, rfl, a, rfl, ⟨_, ha⟩, fun D hD => lc_list (xs := Lz n f) (fun i H' => Same H H' ∧ H' D = some (.lst (Lz i fun l => - f l))) ⟨same_upd hD, upd_same⟩ (fun i H' _ p => p.1.seq ha) (fun i x H' hx p => ?_) (fun H' p => k H' D p.1 hD (by rw [Lz_len] at p; exact p.2))⟩
    have hi : i < n := by have := (List.getElem?_eq_some_iff.mp hx).1; rw [Lz_len] at this; exact this
    cases Option.some.inj ((Lz_get f hi).symm.trans hx)
    refine ⟨rfl, _, rfl, _, rfl, Lz i (fun l => - f l), p.2, small (by rw [Lz_len]; omega), fun b x e => ?_, ?_⟩
    · rw [upd_ne (ne_of_none e hD)]; exact p.1 b x e
    · rw [upd_same, Lz_succ]
/-! ### weight -/
abbrev sWeight : Stmt := top 11
theorem scWeight : FnScope ["weights", "row", "made", "a", "b"] ["weights", "row"] (defScope sWeight) := ⟨rfl, rfl, rfl, by decide +kernel, rfl, by decide +kernel, by decide +kernel⟩
def spWeight (K : PySem.W.Frag) : Sp := fun vs H Q _ => ∃ (a b : Addr) (n : Nat) (f g : Nat → Int), vs = [.ref a, .ref b] ∧ SqL K H a (Lz n f) ∧ SqL K H b (Lz n g) ∧ n ≤ 100 ∧ (∀ l, l < n → IntMulOk (f l) (g l)) ∧ ∀ H', Same H H' → Q (.int (Ch.sm n fun l => f l * g l)) H'
theorem ok_weight {f : Addr} {fd : FuncData} (F : Fun K "weight" "weight" sWeight f fd) (mz : mg "zip" = none) : FnOk P w K mg base CX0 1 f fd ["weights", "row"] (spWeight K) := by
  refine F.ok scWeight (fun vs H Q E h => ?_) (fun cdv A outer s H vs Q E hr h => ?_)
  · obtain ⟨a, b, n, f, g, rfl, _⟩ := h
    rfl
  · obtain ⟨a, b, n, f, g, rfl, ha, hb, hn, hm, k⟩ := h
    refine ⟨_, pss_cons (ps_set (i := 2) scWeight.nd rfl (Or.inl rfl) pe_int) (pss_cons (ps_for PassesOwn.never rfl (pi_zip (by rfl) mz (pa_cons (pv 0) (pa_cons (pv 1) pa_nil)))
      (pg_tup rfl (pgs_cons (pg_name (i := 3) scWeight.nd rfl (Or.inl rfl)) (pgs_cons (pg_name (i := 4) scWeight.nd rfl (Or.inl rfl)) pgs_nil)))
      (pss_one (ps_set (i := 2) scWeight.nd rfl (Or.inl rfl) (pe_op op_add (pv 2) (pe_op op_mulZ (pv 3) (pv 4)))))) (pss_one (ps_ret (pv 2)))), ?_⟩
    refine ⟨_, rfl, _, rfl, a, b, _, _, rfl, ha, hb, for_it (walk_zip (n := n) (by rw [Lz_len, Lz_len]; omega)) (fun i σ H' => ∃ u v, σ = [some (.ref a), some (.ref b), some (.int (Ch.sm i fun l => f l * g l)), u, v] ∧ Same H H') ⟨none, none, rfl, same_rfl⟩ (fun i σ H' _ ⟨_, _, _, p⟩ => ⟨p.seq ha, p.seq hb⟩) ?_ ?_⟩
    · rintro i x σ H1 H' hi ⟨u, v, rfl, p⟩ ⟨T, x1, x2, rfl, nT, rfl, e1, e2⟩
      cases Option.some.inj ((Lz_get f hi).symm.trans e1)
      cases Option.some.inj ((Lz_get g hi).symm.trans e2)
      refine ⟨T, _, rfl, .inl (.inl upd_same), rfl, _, _, rfl, _, _, rfl, rfl, _, rfl, _, rfl, _, rfl, _, _, rfl, rfl, hm i hi, _, _, rfl, rfl, ?_⟩
      exact ⟨_, _, rfl, fun c z e => by rw [upd_ne (ne_of_none (p c z e) nT)]; exact p c z e⟩
    · rintro σ H' ⟨u, v, rfl, p⟩
      exact ⟨_, rfl, k H' p⟩
/-! ### head_of, is_nought -/
abbrev sHead : Stmt := top 13
theorem scHead : FnScope ["row", "k"] ["row"] (defScope sHead) := ⟨rfl, rfl, rfl, by decide +kernel, rfl, by decide +kernel, by decide +kernel⟩
def spHead (K : PySem.W.Frag) : Sp := fun vs H Q _ => ∃ (a : Addr) (n : Nat) (f : Nat → Int), vs = [.ref a] ∧ SqL K H a (Lz n f) ∧ n ≤ 100 ∧ ∀ k, k ≤ n → (∀ j, j < k → f j = 0) → (k < n → f k ≠ 0) → Q (.int k) H
theorem ok_head {f : Addr} {fd : FuncData} (F : Fun K "head_of" "head_of" sHead f fd) (mr : mg "range" = none) (ml : mg "len" = none) : FnOk P w K mg base CX0 1 f fd ["row"] (spHead K) := by
  refine F.ok scHead (fun vs H Q E h => ?_) (fun cdv A outer s H vs Q E hr h => ?_)
  · obtain ⟨a, n, f, rfl, _⟩ := h
    rfl
  · obtain ⟨a, n, f, rfl, ha, hn, k⟩ := h
    refine ⟨_, pss_cons (ps_for PassesOwn.never rfl (pi_range1 rfl mr (pa_cons (pe_callB call_len_seq (by rfl) ml PySem.boot_len (pa_cons (pv 0) pa_nil)) pa_nil)) (pg_name (i := 1) scHead.nd rfl (Or.inl rfl))
      (pss_one (ps_if (pt_cmpR op_ne (pe_ix ix_list (pv 0) (pv 1) (fun _ _ => rfl)) pe_int (nomark _)) (pss_one (ps_ret (pv 1))) pss_nil)))
      (pss_one (ps_ret (pe_callB call_len_seq (by rfl) ml PySem.boot_len (pa_cons (pv 0) pa_nil)))), ?_⟩
    refine ⟨_, rfl, a, _, rfl, .inl ha, n, by rw [Lz_len], by omega, by omega, for_range (lo := 0) (n := n) (fun i σ H' => ∃ u, σ = [some (.ref a), u] ∧ H' = H ∧ ∀ j, j < i → f j = 0) ⟨none, rfl, rfl, fun j h => by omega⟩ ?_ ?_⟩
    · rintro i σ H' hi ⟨u, rfl, rfl, z⟩
      refine ⟨_, rfl, _, rfl, a, _, _, _, rfl, rfl, ha, atI0 f hi, rfl, _, rfl, ?_⟩
      refine neI (fun e => ?_) (fun e => ?_)
      · refine ⟨_, rfl, ?_⟩
        rw [Int.zero_add]
        exact k i (Nat.le_of_lt hi) z (fun _ => e)
      · refine ⟨_, rfl, rfl, fun j hj => ?_⟩
        rcases Nat.lt_or_ge j i with q | q
        · exact z j q
        · obtain rfl : j = i := by omega
          exact e
    · rintro σ H' ⟨u, rfl, rfl, z⟩
      refine ⟨_, rfl, a, _, rfl, .inl ha, ?_⟩
      have := k n (Nat.le_refl _) z (fun h => by omega)
      rw [Lz_len]; exact this
abbrev sIsN : Stmt := top 14
theorem scIsN : FnScope ["row"] ["row"] (defScope sIsN) := ⟨rfl, rfl, rfl, by decide +kernel, rfl, by decide +kernel, by decide +kernel⟩
def spIsN (K : PySem.W.Frag) : Sp := fun vs H Q _ => ∃ (a : Addr) (n : Nat) (f : Nat → Int), vs = [.ref a] ∧ SqL K H a (Lz n f) ∧ n ≤ 100 ∧ ∀ b : Bool, (b = true ↔ ∀ l, l < n → f l = 0) → Q (.bl b) H
theorem ok_isN {f fH : Addr} {fd fdH : FuncData} (F : Fun K "is_nought" "is_nought" sIsN f fd) (G : FnOk P w K mg base CX0 1 fH fdH ["row"] (spHead K)) (gH : mg "head_of" = some (.ref fH)) (kH : PySem.W.keepIn K (.ref fH) = true) (bH : Binds K fdH ["row"] []) (ml : mg "len" = none) : FnOk P w K mg base CX0 2 f fd ["row"] (spIsN K) := by
  refine F.ok scIsN (fun vs H Q E h => ?_) (fun cdv A outer s H vs Q E hr h => ?_)
  · obtain ⟨a, n, f, rfl, _⟩ := h
    rfl
  · obtain ⟨a, n, f, rfl, ha, hn, k⟩ := h
    refine ⟨_, pss_one (ps_ret (pe_cmpR op_eq (pe_call G hr rfl gH kH bH .nil pass0 (pa_cons (pv 0) pa_nil)) (pe_callB call_len_seq (by rfl) ml PySem.boot_len (pa_cons (pv 0) pa_nil)) (nomark _))), ?_⟩
    refine ⟨_, rfl, a, n, f, rfl, ha, hn, fun j hj z nz => ?_⟩
    refine ⟨_, rfl, a, _, rfl, .inl ha, rfl, k _ ?_⟩
    rw [dec_int, Lz_len]
    constructor
    · intro e l hl
      have : j = n := by have e := eq_of_beq e; omega
      exact z l (by omega)
    · intro h
      have : j = n := by
        rcases Nat.lt_or_eq_of_le hj with q | q
        · exact absurd (h j q) (nz q)
        · exact q
      simp [this]
end
end Cw

set_option maxRecDepth 100000
set_option maxHeartbeats 2000000
namespace Cw
open PySem L2
/-- a def that may be called by its name -/
def Cal (P : Program) (w : World) (K : PySem.W.Frag) (mg : Str → Option Value) (base : Heap) (name : Str) (k : Nat) (ps : List Str) (sp : Sp) : Prop :=
  ∃ f fd, FnOk P w K mg base CX0 k f fd ps sp ∧ mg name = some (.ref f) ∧ PySem.W.keepIn K (.ref f) = true ∧ Binds K fd ps []
/-- lists of objects -/
def Rz (m : Nat) (r : Nat → Addr) : List V := (List.range m).map fun j => V.ref (r j)
theorem Rz_len (n : Nat) (f : Nat → Addr) : (Rz n f).length = n := by unfold Rz; rw [List.length_map, List.length_range]
theorem Rz_get {n i : Nat} (f : Nat → Addr) (h : i < n) : (Rz n f)[i]? = some (.ref (f i)) := by
  unfold Rz
  rw [List.getElem?_map, List.getElem?_range h]; rfl
theorem Rz_succ (n : Nat) (f : Nat → Addr) : Rz (n + 1) f = Rz n f ++ [.ref (f n)] := by
  unfold Rz
  rw [List.range_succ, List.map_append]; rfl
theorem Rz_congr {n : Nat} {f g : Nat → Addr} (h : ∀ i, i < n → f i = g i) : Rz n f = Rz n g := by
  unfold Rz
  exact List.map_congr_left fun i hi => by rw [h i (List.mem_range.mp hi)]
/-- rows of numbers at their places -/
def Rows (K : PySem.W.Frag) (H : Hp) (m n : Nat) (r : Nat → Addr) (R : Nat → Nat → Int) : Prop := ∀ k, k < m → SqL K H (r k) (Lz n (R k))
theorem Rows.same {K : PySem.W.Frag} {H H' : Hp} {m n : Nat} {r : Nat → Addr} {R : Nat → Nat → Int} (h : Rows K H m n r R) (s : Same H H') : Rows K H' m n r R := fun k a => s.seq (h k a)
def mixF (U : Nat → Nat → Int) (t : Nat → Int) : Nat → Nat → Int
  | 0 => fun _ => 0
  | k + 1 => fun l => mixF U t k l - (- t k) * U k l
theorem mixF_sm (U : Nat → Nat → Int) (t : Nat → Int) (l : Nat) : ∀ k, mixF U t k l = Ch.sm k fun j => t j * U j l
  | 0 => rfl
  | k + 1 => by
    show mixF U t k l - (- t k) * U k l = Ch.sm k _ + t k * U k l
    rw [mixF_sm U t l k, Int.neg_mul]; omega
theorem same_tr {A B C : Hp} (h : Same A B) (k : Same B C) : Same A C := fun b x e => k b x (h b x e)
section
variable {P : Program} {w : World} {K : PySem.W.Frag} {mg : Str → Option Value} {base : Heap}
abbrev sMixed : Stmt := top 12
theorem scMixed : FnScope ["size", "rows", "times", "made", "row", "many"] ["size", "rows", "times"] (defScope sMixed) := ⟨rfl, rfl, rfl, by decide +kernel, rfl, by decide +kernel, by decide +kernel⟩
def spMixed (K : PySem.W.Frag) : Sp := fun vs H Q _ => ∃ (a b : Addr) (n m : Nat) (r : Nat → Addr) (U : Nat → Nat → Int) (t : Nat → Int), vs = [.int n, .ref a, .ref b] ∧ SqL K H a (Rz m r) ∧ Rows K H m n r U ∧ SqL K H b (Lz m t) ∧ n ≤ 100 ∧
  (∀ k l, k < m → l < n → IntMulOk (- t k) (U k l)) ∧ NewL H Q n (mixF U t m)
theorem ok_mixed {f : Addr} {fd : FuncData} (F : Fun K "mixed" "mixed" sMixed f fd) (mz : mg "zip" = none) (cN : Cal P w K mg base "noughts" 1 ["size"] spNoughts) (cT : Cal P w K mg base "taken" 1 ["row", "other", "times"] (spTaken K)) : FnOk P w K mg base CX0 2 f fd ["size", "rows", "times"] (spMixed K) := by
  obtain ⟨fN, fdN, GN, gN, kN, bN⟩ := cN
  obtain ⟨fT, fdT, GT, gT, kT, bT⟩ := cT
  refine F.ok scMixed (fun vs H Q E h => ?_) (fun cdv A outer s H vs Q E hr h => ?_)
  · obtain ⟨a, b, n, m, r, U, t, rfl, _⟩ := h
    rfl
  · obtain ⟨a, b, n, m, r, U, t, rfl, ha, hR, hb, hn, hm, k⟩ := h
    refine ⟨_, pss_cons (ps_set (i := 3) scMixed.nd rfl (Or.inl rfl) (pe_call GN hr rfl gN kN bN .nil pass0 (pa_cons (pv 0) pa_nil)))
      (pss_cons (ps_for PassesOwn.never rfl (pi_zip (by rfl) mz (pa_cons (pv 1) (pa_cons (pv 2) pa_nil))) (pg_tup rfl (pgs_cons (pg_name (i := 4) scMixed.nd rfl (Or.inl rfl)) (pgs_cons (pg_name (i := 5) scMixed.nd rfl (Or.inl rfl)) pgs_nil)))
        (pss_one (ps_set (i := 3) scMixed.nd rfl (Or.inl rfl) (pe_call GT hr rfl gT kT bT .nil pass0 (pa_cons (pv 3) (pa_cons (pv 4) (pa_cons (pe_un un_neg (pv 5)) pa_nil)))))))
      (pss_one (ps_ret (pv 3)))), ?_⟩
    refine ⟨_, rfl, n, rfl, hn, fun H1 p s1 np e1 => ?_⟩
    refine ⟨_, rfl, _, rfl, a, b, _, _, rfl, s1.seq ha, s1.seq hb, for_it (walk_zip (n := m) (by rw [Rz_len, Lz_len]; omega))
      (fun i σ H' => ∃ (p : Addr) (u v : Option V), σ = [some (.int n), some (.ref a), some (.ref b), some (.ref p), u, v] ∧ Same H H' ∧ H p = none ∧ H' p = some (.lst (Lz n (mixF U t i)))) ⟨p, none, none, rfl, s1, np, e1⟩ (fun i σ H' _ ⟨_, _, _, _, q, _⟩ => ⟨q.seq ha, q.seq hb⟩) ?_ ?_⟩
    · rintro i x σ H2 H3 hi ⟨p, u, v, rfl, s2, np, e⟩ ⟨T, x1, x2, rfl, nT, rfl, q1, q2⟩
      cases Option.some.inj ((Rz_get r hi).symm.trans q1)
      cases Option.some.inj ((Lz_get t hi).symm.trans q2)
      have s3 : Same H (upd H2 T (.tup [.ref (r i), .int (t i)])) := same_tr s2 (same_upd nT)
      have e3 : (upd H2 T (.tup [.ref (r i), .int (t i)])) p = some (.lst (Lz n (mixF U t i))) := by rw [upd_ne (ne_of_none e nT)]; exact e
      refine ⟨T, _, rfl, .inl (.inl upd_same), rfl, _, _, rfl, _, _, rfl, rfl, _, rfl, _, rfl, _, rfl, _, rfl, ?_⟩
      refine ⟨p, r i, n, _, _, _, rfl, SqL.of e3, (hR.same s3) i hi, hn, fun l hl => hm i l hi hl, fun H4 p4 s4 np4 e4 => ?_⟩
      refine ⟨p4, _, _, rfl, same_tr s3 s4, ?_, e4⟩
      exact s3.free np4
    · rintro σ H' ⟨p, u, v, rfl, s2, np, e⟩
      exact ⟨_, rfl, k H' p s2 np e⟩
end
end Cw

set_option maxRecDepth 100000
set_option maxHeartbeats 2000000
namespace Cw
open PySem L2
/-- what is_whole answers -/
inductive Wh : V → Bool → Prop where
  | int (i : Int) : Wh (.int i) true
  | bl (b : Bool) : Wh (.bl b) false
  | str (z : Str) : Wh (.str z) false
  | non : Wh .non false
/-- a row's things, and whether all are whole -/
def AllW (xs : List V) (b : Bool) : Prop := ∃ ws : List Bool, ws.length = xs.length ∧ (∀ (i : Nat) (x : V), xs[i]? = some x → ∃ c, ws[i]? = some c ∧ Wh x c) ∧ b = ws.all id
section
variable {P : Program} {w : World} {K : PySem.W.Frag} {mg : Str → Option Value} {base : Heap}
abbrev sIsW : Stmt := top 19
theorem scIsW : FnScope ["thing"] ["thing"] (defScope sIsW) := ⟨rfl, rfl, rfl, by decide +kernel, rfl, by decide +kernel, by decide +kernel⟩
def spIsW : Sp := fun vs H Q _ => ∃ v b, vs = [v] ∧ Wh v b ∧ Q (.bl b) H
theorem ok_isW {f : Addr} {fd : FuncData} (F : Fun K "is_whole" "is_whole" sIsW f fd) (ms : mg "isinstance" = none) (mi : mg "int" = none) (mb : mg "bool" = none) : FnOk P w K mg base CX0 1 f fd ["thing"] spIsW := by
  refine F.ok scIsW (fun vs H Q E h => ?_) (fun cdv A outer s H vs Q E hr h => ?_)
  · obtain ⟨v, b, rfl, _⟩ := h
    rfl
  · obtain ⟨v, b, rfl, hw, k⟩ := h
    refine ⟨_, pss_one (ps_ret (pe_and (pe_callB call_isi (by rfl) ms (by decide +kernel) (pa_cons (pv 0) (pa_cons (pe_bltn (v := .ty "int") (by rfl) mi (by decide +kernel) rfl) pa_nil)))
      (pe_one (pe_not (pe_callB call_isi (by rfl) ms (by decide +kernel) (pa_cons (pv 0) (pa_cons (pe_bltn (v := .ty "bool") (by rfl) mb (by decide +kernel) rfl) pa_nil))))))), ?_⟩
    cases hw with
    | int i => exact ⟨_, rfl, _, _, _, _, _, rfl, .ty _, .base (.int i), kit_ty (r := true) (by decide +kernel), _, rfl, iteT ⟨_, rfl, _, _, _, _, _, rfl, .ty _, .base (.int i), kit_ty (r := false) (by decide +kernel), _, rfl, k⟩⟩
    | bl c => exact ⟨_, rfl, _, _, _, _, _, rfl, .ty _, .base (.bl c), kit_ty (r := true) (by decide +kernel), _, rfl, iteT ⟨_, rfl, _, _, _, _, _, rfl, .ty _, .base (.bl c), kit_ty (r := true) (by decide +kernel), _, rfl, k⟩⟩
    | str z => exact ⟨_, rfl, _, _, _, _, _, rfl, .ty _, .base (.str z), kit_ty (r := false) (by decide +kernel), _, rfl, iteF k⟩
    | non => exact ⟨_, rfl, _, _, _, _, _, rfl, .ty _, .base .non, kit_ty (r := false) (by decide +kernel), _, rfl, iteF k⟩
/-! ### is_row -/
abbrev sIsR : Stmt := top 20
theorem scIsR : FnScope ["size", "thing", "number"] ["size", "thing"] (defScope sIsR) := ⟨rfl, rfl, rfl, by decide +kernel, rfl, by decide +kernel, by decide +kernel⟩
/-- no list -/
def NoLst (K : PySem.W.Frag) (H : Hp) (v : V) : Prop := ∃ t, TyX K H v t ∧ PySem.W.kitOne K t (.type "list") = some false
def spIsR (K : PySem.W.Frag) : Sp := fun vs H Q _ => ∃ (n : Nat) (v : V), vs = [.int n, v] ∧ n ≤ 100 ∧
  ((NoLst K H v ∧ Q (.bl false) H) ∨ ∃ (a : Addr) (xs : List V) (b : Bool), v = .ref a ∧ H a = some (.lst xs) ∧ AllW xs b ∧ Q (.bl (decide (xs.length = n) && b)) H)
theorem ok_isR {f : Addr} {fd : FuncData} (F : Fun K "is_row" "is_row" sIsR f fd) (ms : mg "isinstance" = none) (mli : mg "list" = none) (ml : mg "len" = none) (cW : Cal P w K mg base "is_whole" 1 ["thing"] spIsW) : FnOk P w K mg base CX0 2 f fd ["size", "thing"] (spIsR K) := by
  obtain ⟨fW, fdW, GW, gW, kW, bW⟩ := cW
  refine F.ok scIsR (fun vs H Q E h => ?_) (fun cdv A outer s H vs Q E hr h => ?_)
  · obtain ⟨n, v, rfl, _⟩ := h
    rfl
  · obtain ⟨n, v, rfl, hn, h⟩ := h
    refine ⟨_, pss_cons (ps_if (PW.pt (pw_or (pt_not (pt_val (pe_callB call_isi (by rfl) ms (by decide +kernel) (pa_cons (pv 1) (pa_cons (pe_bltn (v := .ty "list") (by rfl) mli (by decide +kernel) rfl) pa_nil)))))
        (pw_or1 (pt_cmpR op_ne (pe_callB call_len_seq (by rfl) ml PySem.boot_len (pa_cons (pv 1) pa_nil)) (pv 0) (nomark _))))) (pss_one (ps_ret pe_bl)) pss_nil)
      (pss_cons (ps_for PassesOwn.never rfl (pi_list (pv 1)) (pg_name (i := 2) scIsR.nd rfl (Or.inl rfl)) (pss_one (ps_if (pt_not (pt_val (pe_call GW hr rfl gW kW bW .nil pass0 (pa_cons (pv 2) pa_nil)))) (pss_one (ps_ret pe_bl)) pss_nil)))
      (pss_one (ps_ret pe_bl))), ?_⟩
    rcases h with ⟨⟨t, ht, hk⟩, k⟩ | ⟨a, xs, b, rfl, ha, ⟨ws, wl, hw, hb⟩, k⟩
    · exact ⟨_, rfl, _, _, _, _, _, rfl, .ty _, ht, hk, _, rfl, iteT (iteT k)⟩
    · refine ⟨_, rfl, _, _, _, _, _, rfl, .ty _, .base (.lst ha), kit_ty (r := true) (by decide +kernel), _, rfl, iteF ?_⟩
      refine ⟨_, rfl, a, _, rfl, .inl (SqL.of ha), _, rfl, rfl, _, rfl, ?_⟩
      refine neI (fun e => ?_) (fun e => ?_)
      · have : decide (xs.length = n) = false := decide_eq_false fun q => e (by rw [q])
        rw [this] at k
        exact k
      · have en : xs.length = n := by omega
        have : decide (xs.length = n) = true := decide_eq_true en
        rw [this, Bool.true_and] at k
        refine ⟨_, rfl, a, rfl, ⟨_, SqL.of ha⟩, for_list (K := K) (a := a) (xs := xs) (fun i σ H' => ∃ u, σ = [some (.int n), some (.ref a), u] ∧ H' = H ∧ ∀ (j : Nat) (c : Bool), j < i → ws[j]? = some c → c = true) ⟨none, rfl, rfl, fun j c h => by omega⟩ (fun i σ H' _ ⟨_, _, e, _⟩ => by rw [e]; exact SqL.of ha) ?_ ?_⟩
        · rintro i x σ H' hx ⟨u, rfl, rfl, z⟩
          obtain ⟨c, hc, hW⟩ := hw i x hx
          refine ⟨_, rfl, x, c, rfl, hW, _, rfl, ?_⟩
          cases c with
          | true =>
            refine iteF ⟨_, rfl, rfl, fun j d hj hd => ?_⟩
            rcases Nat.lt_or_ge j i with q | q
            · exact z j d q hd
            · obtain rfl : j = i := by omega
              exact Option.some.inj (hd.symm.trans hc)
          | false =>
            refine iteT ?_
            have : b = false := by
              rw [hb]
              refine Bool.eq_false_iff.mpr fun q => ?_
              have := List.all_eq_true.mp q false (List.mem_of_getElem? hc)
              cases this
            rw [this] at k
            exact k
        · rintro σ H' ⟨u, rfl, rfl, z⟩
          have : b = true := by
            rw [hb]
            refine List.all_eq_true.mpr fun c m => ?_
            obtain ⟨j, hj⟩ := List.mem_iff_getElem?.mp m
            have := (List.getElem?_eq_some_iff.mp hj).1
            exact z j c (by omega) hj
          rw [this] at k
          exact k
/-! ### is_small -/
abbrev sIsS : Stmt := top 21
theorem scIsS : FnScope ["row", "number"] ["row"] (defScope sIsS) := ⟨rfl, rfl, rfl, by decide +kernel, rfl, by decide +kernel, by decide +kernel⟩
def spIsS (K : PySem.W.Frag) : Sp := fun vs H Q _ => ∃ (a : Addr) (n : Nat) (f : Nat → Int), vs = [.ref a] ∧ SqL K H a (Lz n f) ∧ (∀ l, l < n → -(10 ^ 30) < f l ∧ f l < 10 ^ 30) ∧ Q (.bl true) H
theorem ok_isS {f : Addr} {fd : FuncData} {tk : Tok} (F : Fun K "is_small" "is_small" sIsS f fd) (mL : mg "LIMIT" = some (.int 1000000000000000000000000000000 tk)) : FnOk P w K mg base CX0 1 f fd ["row"] (spIsS K) := by
  refine F.ok scIsS (fun vs H Q E h => ?_) (fun cdv A outer s H vs Q E hr h => ?_)
  · obtain ⟨a, n, f, rfl, _⟩ := h
    rfl
  · obtain ⟨a, n, f, rfl, ha, hs, k⟩ := h
    refine ⟨_, pss_cons (ps_for PassesOwn.never rfl (pi_list (pv 0)) (pg_name (i := 1) scIsS.nd rfl (Or.inl rfl))
      (pss_one (ps_if (PW.pt (pw_or (pt_cmpR op_le (pv 1) (pe_un un_neg (pe_glob (v := .int 1000000000000000000000000000000) rfl mL ⟨_, rfl⟩)) (nomark _)) (pw_or1 (pt_cmpR op_ge (pv 1) (pe_glob (v := .int 1000000000000000000000000000000) rfl mL ⟨_, rfl⟩) (nomark _))))) (pss_one (ps_ret pe_bl)) pss_nil)))
      (pss_one (ps_ret pe_bl)), ?_⟩
    refine ⟨_, rfl, a, rfl, ⟨_, ha⟩, for_list (K := K) (a := a) (xs := Lz n f) (fun i σ H' => ∃ u, σ = [some (.ref a), u] ∧ H' = H) ⟨none, rfl, rfl⟩ (fun i σ H' _ ⟨_, _, e⟩ => by rw [e]; exact ha) ?_ ?_⟩
    · rintro i x σ H' hx ⟨u, rfl, rfl⟩
      have hi : i < n := by have := (List.getElem?_eq_some_iff.mp hx).1; rw [Lz_len] at this; exact this
      cases Option.some.inj ((Lz_get f hi).symm.trans hx)
      obtain ⟨h1, h2⟩ := hs i hi
      refine ⟨_, rfl, _, rfl, _, _, rfl, rfl, _, rfl, ?_⟩
      rw [decide_eq_false (by omega)]
      refine iteF ⟨_, rfl, _, _, rfl, rfl, _, rfl, ?_⟩
      rw [decide_eq_false (by omega)]
      exact iteF ⟨_, rfl, rfl⟩
    · rintro σ H' ⟨u, rfl, rfl⟩
      exact k
end
end Cw

set_option maxRecDepth 100000
set_option maxHeartbeats 2000000
namespace Cw
open PySem L2
/-- a hall at h: n kinds, N bills -/
structure Hall (H : Hp) (h : Addr) (n N : Nat) (b : Nat → Nat → Int) : Prop where
  n1 : 1 ≤ n
  n6 : n ≤ 6
  N8 : N ≤ 8
  at_ : ∃ (tb : Addr) (r : Nat → Addr), H h = some (.tup [.int n, .ref tb]) ∧ H tb = some (.tup (Rz N r)) ∧ ∀ i, i < N → H (r i) = some (.tup (Lz n (b i)))
theorem Hall.same {H H' : Hp} {h : Addr} {n N : Nat} {b : Nat → Nat → Int} (x : Hall H h n N b) (s : Same H H') : Hall H' h n N b :=
  ⟨x.n1, x.n6, x.N8, let ⟨tb, r, a, c, d⟩ := x.at_; ⟨tb, r, s _ _ a, s _ _ c, fun i hi => s _ _ (d i hi)⟩⟩
section
variable {P : Program} {w : World} {K : PySem.W.Frag} {mg : Str → Option Value} {base : Heap}
abbrev rTupOf (K : PySem.W.Frag) : List V → Hp → VK → Prop := fun xs H Q => ∃ p ys, xs = [.ref p] ∧ ((SqL K H p ys ∧ ∀ l, H l = none → Q (.ref l) (upd H l (.tup ys))) ∨ (SqT K H p ys ∧ Q (.ref p) H))
abbrev sTold : Stmt := top 23
theorem scTold : FnScope ["kinds", "rows", "row"] ["kinds", "rows"] (defScope sTold) := ⟨rfl, rfl, rfl, by decide +kernel, rfl, by decide +kernel, by decide +kernel⟩
def spTold (K : PySem.W.Frag) : Sp := fun vs H Q _ => ∃ (a : Addr) (n N : Nat) (r : Nat → Addr) (b : Nat → Nat → Int), vs = [.int n, .ref a] ∧ SqL K H a (Rz N r) ∧ Rows K H N n r b ∧ 1 ≤ n ∧ n ≤ 6 ∧ N ≤ 8 ∧ ∀ H' p, Same H H' → Hall H' p n N b → Q (.ref p) H'
theorem ok_told {f : Addr} {fd : FuncData} (F : Fun K "told" "told" sTold f fd) (mt : mg "tuple" = none) : FnOk P w K mg base CX0 1 f fd ["kinds", "rows"] (spTold K) := by
  refine F.ok scTold (fun vs H Q E h => ?_) (fun cdv A outer s H vs Q E hr h => ?_)
  · obtain ⟨a, n, N, r, b, rfl, _⟩ := h
    rfl
  · obtain ⟨a, n, N, r, b, rfl, ha, hR, n1, n6, N8, k⟩ := h
    refine ⟨_, pss_one (ps_ret (pe_tup (pa_cons (pv 0) (pa_cons (pe_callTy call_tuple_of (by rfl) mt (by decide +kernel) (pa_cons (pe_lc (own := [("row", 2)]) (g := gName 2) (tt := tYes) (te := tCB (rTupOf K) (tCons (tVar 2) tNil)) (by rfl) scTold.nd (pi_list (pv 1)) (blkOk_by (own := [("row", 2)]) (N := ["kinds", "rows", "row"]) (sc := defScope sTold) (by decide +kernel))
      (fun _ _ _ _ _ => pg_name (i := 2) scTold.nd rfl (Or.inl rfl)) (fun _ _ _ _ _ => pts_nil) (fun _ _ _ _ _ => pe_callTy call_tuple_of (by rfl) mt (by decide +kernel) (pa_cons (pv 2) pa_nil))) pa_nil)) pa_nil)))), ?_⟩
    refine ⟨_, rfl, _, rfl, a, rfl, ⟨_, ha⟩, fun D hD => lc_list (xs := Rz N r) (fun i H' => Same H H' ∧ ∃ r' : Nat → Addr, H' D = some (.lst (Rz i r')) ∧ ∀ j, j < i → H' (r' j) = some (.tup (Lz n (b j)))) ⟨same_upd hD, fun _ => 0, upd_same, fun j h => by omega⟩ (fun i H' _ p => p.1.seq ha) (fun i x H' hx p => ?_) (fun H' p => ?_)⟩
    · have hi : i < N := by have := (List.getElem?_eq_some_iff.mp hx).1; rw [Rz_len] at this; exact this
      cases Option.some.inj ((Rz_get r hi).symm.trans hx)
      obtain ⟨s1, r', e, z⟩ := p
      refine ⟨rfl, _, rfl, r i, _, rfl, .inl ⟨(hR.same s1) i hi, fun l hl => ?_⟩⟩
      have nD : D ≠ l := ne_of_none e hl
      refine ⟨Rz i r', by rw [upd_ne nD]; exact e, small (by rw [Rz_len]; omega), ?_, fun j => if j < i then r' j else l, ?_, fun j hj => ?_⟩
      · intro c z' e'
        rw [upd_ne (ne_of_none e' hD), upd_ne (ne_of_none (s1 c z' e') hl)]
        exact s1 c z' e'
      · rw [upd_same, Rz_succ]
        have e1 : Rz i (fun j => if j < i then r' j else l) = Rz i r' := Rz_congr fun j hj => if_pos hj
        show some (HO.lst (Rz i r' ++ [V.ref l])) = some (HO.lst (Rz i (fun j => if j < i then r' j else l) ++ [V.ref (if i < i then r' i else l)]))
        rw [e1, if_neg (Nat.lt_irrefl i)]
      · show (upd (upd H' l (.tup (Lz n (b i)))) D _) (if j < i then r' j else l) = _
        by_cases q : j < i
        · rw [if_pos q]
          have zj := z j q
          rw [upd_ne (fun q' => by rw [q', e] at zj; cases zj), upd_ne (ne_of_none zj hl)]
          exact zj
        · obtain rfl : j = i := by omega
          rw [if_neg q, upd_ne nD.symm, upd_same]
    · rw [Rz_len] at p
      obtain ⟨s1, r', e, z⟩ := p
      refine ⟨D, _, rfl, .inl ⟨SqL.of e, fun l hl => ?_⟩⟩
      refine ⟨by show 2 ≤ sizeLine; decide, fun t ht => ?_⟩
      have s2 : Same H' (upd (upd H' l (.tup (Rz N r'))) t (.tup [.int n, .ref l])) := same_tr (same_upd hl) (same_upd ht)
      have lt : l ≠ t := fun q => by rw [← q, upd_same] at ht; cases ht
      refine k _ t (same_tr s1 s2) ⟨n1, n6, N8, l, r', upd_same, by rw [upd_ne lt, upd_same], fun i hi => s2 _ _ (z i hi)⟩
/-! ### hall_of -/
abbrev sHallOf : Stmt := top 22
theorem scHallOf : FnScope ["kinds", "bills", "bill"] ["kinds", "bills"] (defScope sHallOf) := ⟨rfl, rfl, rfl, by decide +kernel, rfl, by decide +kernel, by decide +kernel⟩
theorem allW_Lz (n : Nat) (f : Nat → Int) : AllW (Lz n f) true := by
  refine ⟨List.replicate n true, by rw [List.length_replicate, Lz_len], fun i x hx => ?_, ?_⟩
  · have hi : i < n := by have := (List.getElem?_eq_some_iff.mp hx).1; rw [Lz_len] at this; exact this
    cases Option.some.inj ((Lz_get f hi).symm.trans hx)
    exact ⟨true, by rw [List.getElem?_replicate, if_pos hi], .int _⟩
  · symm
    refine List.all_eq_true.mpr fun c m => ?_
    exact (List.eq_of_mem_replicate m)
def spHallOf : Sp := fun vs H Q _ => ∃ (a : Addr) (n N : Nat) (r : Nat → Addr) (b : Nat → Nat → Int), vs = [.int n, .ref a] ∧ H a = some (.lst (Rz N r)) ∧ (∀ i, i < N → H (r i) = some (.lst (Lz n (b i)))) ∧ 1 ≤ n ∧ n ≤ 6 ∧ N ≤ 8 ∧
  (∀ i l, i < N → l < n → -(10 ^ 30) < b i l ∧ b i l < 10 ^ 30) ∧ ∀ H' p, Same H H' → Hall H' p n N b → Q (.ref p) H'
theorem ok_hallOf {f : Addr} {fd : FuncData} {tk1 tk2 : Tok} (F : Fun K "hall_of" "hall_of" sHallOf f fd) (mK : mg "KINDS" = some (.int 6 tk1)) (mB : mg "BILLS" = some (.int 8 tk2)) (ms : mg "isinstance" = none) (mli : mg "list" = none) (ml : mg "len" = none)
    (cW : Cal P w K mg base "is_whole" 1 ["thing"] spIsW) (cR : Cal P w K mg base "is_row" 2 ["size", "thing"] (spIsR K)) (cS : Cal P w K mg base "is_small" 1 ["row"] (spIsS K)) (cT : Cal P w K mg base "told" 1 ["kinds", "rows"] (spTold K)) : FnOk P w K mg base CX0 3 f fd ["kinds", "bills"] spHallOf := by
  obtain ⟨fW, fdW, GW, gW, kW, bW⟩ := cW
  obtain ⟨fR, fdR, GR, gR, kR, bR⟩ := cR
  obtain ⟨fS, fdS, GS, gS, kS, bS⟩ := cS
  obtain ⟨fT, fdT, GT, gT, kT, bT⟩ := cT
  refine F.ok scHallOf (fun vs H Q E h => ?_) (fun cdv A outer s H vs Q E hr h => ?_)
  · obtain ⟨a, n, N, r, b, rfl, _⟩ := h
    rfl
  · obtain ⟨a, n, N, r, b, rfl, ha, hR, n1, n6, N8, hb, k⟩ := h
    have hr1 : Room 1 _ := hr.mono (by decide)
    refine ⟨_, pss_cons (ps_if (PW.pt (pw_or (pt_not (pt_val (pe_call GW hr1 rfl gW kW bW .nil pass0 (pa_cons (pv 0) pa_nil)))) (pw_or (pt_cmpR op_lt (pv 0) pe_int (nomark _)) (pw_or1 (pt_cmpR op_gt (pv 0) (pe_glob (v := .int 6) rfl mK ⟨_, rfl⟩) (nomark _)))))) (pss_one ps_never) pss_nil)
      (pss_cons (ps_if (PW.pt (pw_or (pt_not (pt_val (pe_callB call_isi (by rfl) ms (by decide +kernel) (pa_cons (pv 1) (pa_cons (pe_bltn (v := .ty "list") (by rfl) mli (by decide +kernel) rfl) pa_nil)))))
        (pw_or1 (pt_cmpR op_gt (pe_callB call_len_seq (by rfl) ml PySem.boot_len (pa_cons (pv 1) pa_nil)) (pe_glob (v := .int 8) rfl mB ⟨_, rfl⟩) (nomark _))))) (pss_one ps_never) pss_nil)
      (pss_cons (ps_for PassesOwn.never rfl (pi_list (pv 1)) (pg_name (i := 2) scHallOf.nd rfl (Or.inl rfl))
        (pss_one (ps_if (PW.pt (pw_or (pt_not (pt_val (pe_call GR hr rfl gR kR bR .nil pass0 (pa_cons (pv 0) (pa_cons (pv 2) pa_nil))))) (pw_or1 (pt_not (pt_val (pe_call GS hr1 rfl gS kS bS .nil pass0 (pa_cons (pv 2) pa_nil))))))) (pss_one ps_never) pss_nil)))
      (pss_one (ps_ret (pe_call GT hr1 rfl gT kT bT .nil pass0 (pa_cons (pv 0) (pa_cons (pv 1) pa_nil))))))), ?_⟩
    refine ⟨_, rfl, _, true, rfl, .int _, _, rfl, iteF ⟨_, rfl, _, _, rfl, rfl, _, rfl, ?_⟩⟩
    rw [decide_eq_false (by omega)]
    refine iteF ⟨_, rfl, _, _, rfl, rfl, _, rfl, ?_⟩
    rw [decide_eq_false (by omega)]
    refine iteF ⟨_, rfl, _, _, _, _, _, rfl, .ty _, .base (.lst ha), kit_ty (r := true) (by decide +kernel), _, rfl, iteF ?_⟩
    refine ⟨_, rfl, a, _, rfl, .inl (SqL.of ha), _, _, rfl, rfl, _, rfl, ?_⟩
    rw [decide_eq_false (by rw [Rz_len]; omega)]
    refine iteF ⟨_, rfl, a, rfl, ⟨_, SqL.of ha⟩, for_list (K := K) (a := a) (xs := Rz N r) (fun i σ H' => ∃ u, σ = [some (.int n), some (.ref a), u] ∧ H' = H) ⟨none, rfl, rfl⟩ (fun i σ H' _ ⟨_, _, e⟩ => by rw [e]; exact SqL.of ha) ?_ ?_⟩
    · rintro i x σ H' hx ⟨u, rfl, rfl⟩
      have hi : i < N := by have := (List.getElem?_eq_some_iff.mp hx).1; rw [Rz_len] at this; exact this
      cases Option.some.inj ((Rz_get r hi).symm.trans hx)
      refine ⟨_, rfl, _, rfl, n, _, rfl, by omega, .inr ⟨r i, _, true, rfl, hR i hi, allW_Lz n (b i), _, rfl, ?_⟩⟩
      rw [decide_eq_true (Lz_len n (b i))]
      refine iteF ⟨_, rfl, r i, n, _, rfl, SqL.of (hR i hi), fun l hl => hb i l hi hl, _, rfl, iteF ⟨_, rfl, rfl⟩⟩
    · rintro σ H' ⟨u, rfl, rfl⟩
      exact ⟨_, rfl, _, rfl, a, n, N, r, b, rfl, SqL.of ha, fun i hi => SqL.of (hR i hi), n1, n6, N8, k⟩
end
end Cw

set_option maxRecDepth 100000
set_option maxHeartbeats 4000000
namespace Cw
open PySem L2
/-- a pair of a row and its uses -/
def PrAt (H : Hp) (n N : Nat) (a : Addr) (p : Ch.Pr) : Prop := ∃ ra ua, H a = some (.tup [.ref ra, .ref ua]) ∧ H ra = some (.lst (Lz n p.r)) ∧ H ua = some (.lst (Lz N p.u))
theorem PrAt.same {H H' : Hp} {n N : Nat} {a : Addr} {p : Ch.Pr} (x : PrAt H n N a p) (s : Same H H') : PrAt H' n N a p := let ⟨ra, ua, h1, h2, h3⟩ := x; ⟨ra, ua, s _ _ h1, s _ _ h2, s _ _ h3⟩
/-- a list of pairs -/
def WkAt (H : Hp) (l : Addr) (n N : Nat) (w : List Ch.Pr) : Prop := ∃ r : Nat → Addr, H l = some (.lst (Rz w.length r)) ∧ ∀ k p, w[k]? = some p → PrAt H n N (r k) p
theorem WkAt.same {H H' : Hp} {n N : Nat} {a : Addr} {p : List Ch.Pr} (x : WkAt H a n N p) (s : Same H H') : WkAt H' a n N p := let ⟨r, h1, h2⟩ := x; ⟨r, s _ _ h1, fun k p e => (h2 k p e).same s⟩
theorem absI (i : Int) : (if i < 0 then -i else i) = (i.natAbs : Int) := by split <;> omega
section
variable {P : Program} {w : World} {K : PySem.W.Frag} {mg : Str → Option Value} {base : Heap}
abbrev sChk : Stmt := top 24
theorem scChk : FnScope ["hall", "basket"] ["hall", "basket"] (defScope sChk) := ⟨rfl, rfl, rfl, by decide +kernel, rfl, by decide +kernel, by decide +kernel⟩
def spChk : Sp := fun vs H Q _ => ∃ (h a : Addr) (n N : Nat) (b : Nat → Nat → Int) (f : Nat → Int), vs = [.ref h, .ref a] ∧ Hall H h n N b ∧ H a = some (.lst (Lz n f)) ∧ Q (.ref a) H
theorem ok_chk {f : Addr} {fd : FuncData} (F : Fun K "checked" "checked" sChk f fd) (cR : Cal P w K mg base "is_row" 2 ["size", "thing"] (spIsR K)) : FnOk P w K mg base CX0 3 f fd ["hall", "basket"] spChk := by
  obtain ⟨fR, fdR, GR, gR, kR, bR⟩ := cR
  refine F.ok scChk (fun vs H Q E h => ?_) (fun cdv A outer s H vs Q E hr h => ?_)
  · obtain ⟨h, a, n, N, b, f, rfl, _⟩ := h
    rfl
  · obtain ⟨h, a, n, N, b, f, rfl, hH, ha, k⟩ := h
    refine ⟨_, pss_cons (ps_if (pt_not (pt_val (pe_call GR hr rfl gR kR bR .nil pass0 (pa_cons (pe_ix ix_tup (pv 0) pe_int (fun _ _ => rfl)) (pa_cons (pv 1) pa_nil))))) (pss_one ps_never) pss_nil) (pss_one (ps_ret (pv 1))), ?_⟩
    obtain ⟨tb, r, h1, _⟩ := hH.at_
    have n6 := hH.n6
    refine ⟨_, rfl, h, _, _, _, rfl, rfl, SqT.of h1, rfl, _, rfl, n, _, rfl, by omega, .inr ⟨a, _, true, rfl, ha, allW_Lz n f, _, rfl, ?_⟩⟩
    rw [decide_eq_true (Lz_len n f)]
    exact iteF ⟨_, rfl, k⟩
abbrev sApart : Stmt := top 25
theorem scApart : FnScope ["hall", "one", "other"] ["hall", "one", "other"] (defScope sApart) := ⟨rfl, rfl, rfl, by decide +kernel, rfl, by decide +kernel, by decide +kernel⟩
theorem mul1 (x : Int) : IntMulOk 1 x := IntMulOk.of_left (by decide +kernel)
def spApart : Sp := fun vs H Q _ => ∃ (h a c : Addr) (n N : Nat) (b : Nat → Nat → Int) (f g : Nat → Int), vs = [.ref h, .ref a, .ref c] ∧ Hall H h n N b ∧ H a = some (.lst (Lz n f)) ∧ H c = some (.lst (Lz n g)) ∧ NewL H Q n fun l => g l - 1 * f l
theorem ok_apart {f : Addr} {fd : FuncData} (F : Fun K "apart" "apart" sApart f fd) (cC : Cal P w K mg base "checked" 3 ["hall", "basket"] spChk) (cT : Cal P w K mg base "taken" 1 ["row", "other", "times"] (spTaken K)) : FnOk P w K mg base CX0 4 f fd ["hall", "one", "other"] spApart := by
  obtain ⟨fC, fdC, GC, gC, kC, bC⟩ := cC
  obtain ⟨fT, fdT, GT, gT, kT, bT⟩ := cT
  refine F.ok scApart (fun vs H Q E h => ?_) (fun cdv A outer s H vs Q E hr h => ?_)
  · obtain ⟨h, a, c, n, N, b, f, g, rfl, _⟩ := h
    rfl
  · obtain ⟨h, a, c, n, N, b, f, g, rfl, hH, ha, hc, k⟩ := h
    have hr1 : Room 1 _ := hr.mono (by decide)
    refine ⟨_, pss_cons (ps_expr (pe_call GC hr rfl gC kC bC .nil pass0 (pa_cons (pv 0) (pa_cons (pv 1) pa_nil)))) (pss_cons (ps_expr (pe_call GC hr rfl gC kC bC .nil pass0 (pa_cons (pv 0) (pa_cons (pv 2) pa_nil))))
      (pss_one (ps_ret (pe_call GT hr1 rfl gT kT bT .nil pass0 (pa_cons (pv 2) (pa_cons (pv 1) (pa_cons pe_int pa_nil))))))), ?_⟩
    have n6 := hH.n6
    refine ⟨_, rfl, _, rfl, h, a, n, N, b, f, rfl, hH, ha, _, rfl, _, rfl, h, c, n, N, b, g, rfl, hH, hc, _, rfl, _, rfl, ?_⟩
    exact ⟨c, a, n, g, f, 1, rfl, SqL.of hc, SqL.of ha, by omega, fun l _ => mul1 _, k⟩
/-! ### least_at -/
abbrev sLeastAt : Stmt := top 27
theorem scLeastAt : FnScope ["work", "place", "found", "k", "size"] ["work", "place"] (defScope sLeastAt) := ⟨rfl, rfl, rfl, by decide +kernel, rfl, by decide +kernel, by decide +kernel⟩
def spLeastAt : Sp := fun vs H Q _ => ∃ (l : Addr) (n N c : Nat) (v : List Ch.Pr), vs = [.ref l, .int c] ∧ WkAt H l n N v ∧ c < n ∧ v.length ≤ 100 ∧ ((∀ p, p ∈ v → p.r c = 0) → Q (.int (-1)) H) ∧ ∀ k h, Ch.LeastAt v c k h → Q (.int k) H
theorem ok_leastAt {f : Addr} {fd : FuncData} (F : Fun K "least_at" "least_at" sLeastAt f fd) (mr : mg "range" = none) (ml : mg "len" = none) (ma : mg "abs" = none) : FnOk P w K mg base CX0 1 f fd ["work", "place"] spLeastAt := by
  refine F.ok scLeastAt (fun vs H Q E h => ?_) (fun cdv A outer s H vs Q E hr h => ?_)
  · obtain ⟨l, n, N, c, v, rfl, _⟩ := h
    rfl
  · obtain ⟨l, n, N, c, v, rfl, ⟨r, hl, hp⟩, hc, hv, k0, k1⟩ := h
    refine ⟨_, pss_cons (ps_set (i := 2) scLeastAt.nd rfl (Or.inl rfl) (pe_un un_neg pe_int)) (pss_cons (ps_for PassesOwn.never rfl (pi_range1 rfl mr (pa_cons (pe_callB call_len_seq (by rfl) ml PySem.boot_len (pa_cons (pv 0) pa_nil)) pa_nil)) (pg_name (i := 3) scLeastAt.nd rfl (Or.inl rfl))
      (pss_cons (ps_set (i := 4) scLeastAt.nd rfl (Or.inl rfl) (pe_callB call_abs (by rfl) ma (by decide +kernel) (pa_cons (pe_ix ix_list (pe_ix ix_tup (pe_ix ix_list (pv 0) (pv 3) (fun _ _ => rfl)) pe_int (fun _ _ => rfl)) (pv 1) (fun _ _ => rfl)) pa_nil)))
      (pss_one (ps_if (PW.pt (pw_and (pt_cmpR op_gt (pv 4) pe_int (nomark _)) (pw_and1 (PW.pt (pw_or (pt_cmpR op_lt (pv 2) pe_int (nomark _)) (pw_or1 (pt_cmpR op_lt (pv 4) (pe_callB call_abs (by rfl) ma (by decide +kernel) (pa_cons (pe_ix ix_list (pe_ix ix_tup (pe_ix ix_list (pv 0) (pv 2) (fun _ _ => rfl)) pe_int (fun _ _ => rfl)) (pv 1) (fun _ _ => rfl)) pa_nil)) (nomark _))))))))
        (pss_one (ps_set (i := 2) scLeastAt.nd rfl (Or.inl rfl) (pv 3))) pss_nil)))) (pss_one (ps_ret (pv 2)))), ?_⟩
    refine ⟨1, rfl, ?_⟩
    refine ⟨_, rfl, l, _, rfl, .inl (SqL.of hl), v.length, by rw [Rz_len], by omega, by omega, for_range (lo := 0) (n := v.length) (fun i σ H' => ∃ (z : Int) (u t : Option V), σ = [some (.ref l), some (.int c), some (.int z), u, t] ∧ H' = H ∧
      ((z = -1 ∧ ∀ j p, j < i → v[j]? = some p → p.r c = 0) ∨ ∃ (kk : Nat) (h : Ch.Pr), z = kk ∧ kk < i ∧ v[kk]? = some h ∧ h.r c ≠ 0 ∧ (∀ j p, j < i → v[j]? = some p → p.r c ≠ 0 → (h.r c).natAbs ≤ (p.r c).natAbs) ∧ (∀ j p, j < kk → v[j]? = some p → p.r c ≠ 0 → (h.r c).natAbs < (p.r c).natAbs)))
      ⟨-1, none, none, rfl, rfl, .inl ⟨rfl, fun j p h => by omega⟩⟩ ?_ ?_⟩
    · rintro i σ H' hi ⟨z, u, t, rfl, rfl, inv⟩
      obtain ⟨p, ep⟩ := Ch.Ech.m hi
      obtain ⟨ra, ua, p1, p2, p3⟩ := hp i p ep
      refine ⟨_, rfl, _, rfl, l, _, _, _, rfl, rfl, SqL.of hl, (by rw [Int.zero_add]; exact atI_nat (Rz_get r hi)), r i, _, _, _, rfl, rfl, SqT.of p1, rfl, _, rfl, ra, _, _, _, rfl, rfl, SqL.of p2, atIz p.r hc, _, rfl, ?_⟩
      rw [absI]
      refine ⟨_, rfl, _, _, rfl, rfl, _, rfl, ?_⟩
      by_cases pz : p.r c = 0
      · rw [decide_eq_false (by rw [pz]; decide)]
        refine iteF (iteF ⟨z, _, _, rfl, rfl, ?_⟩)
        rcases inv with ⟨e, zz⟩ | ⟨kk, h, e, lt, eh, nz, le, ls⟩
        · refine .inl ⟨e, fun j q hj eq => ?_⟩
          rcases Nat.lt_or_ge j i with a | a
          · exact zz j q a eq
          · obtain rfl : j = i := by omega
            cases Option.some.inj (eq.symm.trans ep); exact pz
        · refine .inr ⟨kk, h, e, by omega, eh, nz, fun j q hj eq nq => ?_, ls⟩
          rcases Nat.lt_or_ge j i with a | a
          · exact le j q a eq nq
          · obtain rfl : j = i := by omega
            cases Option.some.inj (eq.symm.trans ep); exact absurd pz nq
      · rw [decide_eq_true (by omega)]
        refine iteT ⟨_, rfl, _, _, rfl, rfl, _, rfl, ?_⟩
        rcases inv with ⟨rfl, zz⟩ | ⟨kk, h, rfl, lt, eh, nz, le, ls⟩
        · refine iteT (iteT ⟨_, rfl, i, _, _, by rw [Int.zero_add]; rfl, rfl, .inr ⟨i, p, rfl, by omega, ep, pz, fun j q hj eq nq => ?_, fun j q hj eq nq => absurd (zz j q hj eq) nq⟩⟩)
          rcases Nat.lt_or_ge j i with a | a
          · exact absurd (zz j q a eq) nq
          · obtain rfl : j = i := by omega
            cases Option.some.inj (eq.symm.trans ep); exact Nat.le_refl _
        · rw [decide_eq_false (by omega)]
          obtain ⟨rb, ub, q1, q2, q3⟩ := hp kk h eh
          have hk : kk < v.length := by omega
          refine iteF ⟨_, rfl, _, rfl, _, rfl, l, _, _, _, rfl, rfl, SqL.of hl, atI_nat (Rz_get r hk), r kk, _, _, _, rfl, rfl, SqT.of q1, rfl, _, rfl, rb, _, _, _, rfl, rfl, SqL.of q2, atIz h.r hc, _, rfl, ?_⟩
          rw [absI]
          refine ⟨_, _, rfl, rfl, _, rfl, ?_⟩
          by_cases s : (p.r c).natAbs < (h.r c).natAbs
          · rw [decide_eq_true (by omega)]
            refine iteT ⟨_, rfl, i, _, _, by rw [Int.zero_add]; rfl, rfl, .inr ⟨i, p, rfl, by omega, ep, pz, fun j q hj eq nq => ?_, fun j q hj eq nq => ?_⟩⟩
            · rcases Nat.lt_or_ge j i with a | a
              · have := le j q a eq nq; omega
              · obtain rfl : j = i := by omega
                cases Option.some.inj (eq.symm.trans ep); exact Nat.le_refl _
            · have := le j q hj eq nq; omega
          · rw [decide_eq_false (by omega)]
            refine iteF ⟨kk, _, _, rfl, rfl, .inr ⟨kk, h, rfl, by omega, eh, nz, fun j q hj eq nq => ?_, ls⟩⟩
            rcases Nat.lt_or_ge j i with a | a
            · exact le j q a eq nq
            · obtain rfl : j = i := by omega
              cases Option.some.inj (eq.symm.trans ep); omega
    · rintro σ H' ⟨z, u, t, rfl, rfl, inv⟩
      refine ⟨_, rfl, ?_⟩
      rcases inv with ⟨rfl, zz⟩ | ⟨kk, h, rfl, lt, eh, nz, le, ls⟩
      · refine k0 fun p m => ?_
        obtain ⟨j, hj⟩ := List.mem_iff_getElem?.mp m
        exact zz j p (List.getElem?_eq_some_iff.mp hj).1 hj
      · exact k1 kk h ⟨eh, nz, fun j q eq nq => le j q (List.getElem?_eq_some_iff.mp eq).1 eq nq, ls⟩
end
end Cw

set_option maxRecDepth 100000
set_option maxHeartbeats 4000000
namespace Cw
open PySem L2
theorem mulT {i j : Int} {a b : Nat} (hi : i.natAbs ≤ Ch.tw a) (hj : j.natAbs ≤ Ch.tw b) (h : a + b + 4 ≤ 134217728) : IntMulOk i j := by
  rw [Ch.tw_is] at hi hj
  exact mulok hi hj h
theorem logT {j : Int} {a : Nat} (hj : j.natAbs ≤ Ch.tw a) (h : a < 8999) : j.natAbs.log2 < 9000 := by
  rw [Ch.tw_is] at hj
  by_cases z : j.natAbs = 0
  · rw [z]; decide +kernel
  · exact (Nat.log2_lt z).2 (Nat.lt_of_le_of_lt hj (Nat.pow_lt_pow_right (by omega) (by omega)))
/-- a pair that is new behind H -/
def PrNw (H H' : Hp) (n N : Nat) (a : Addr) (p : Ch.Pr) : Prop := ∃ ra ua, H a = none ∧ H ra = none ∧ H ua = none ∧ H' a = some (.tup [.ref ra, .ref ua]) ∧ H' ra = some (.lst (Lz n p.r)) ∧ H' ua = some (.lst (Lz N p.u))
/-- a pair apart from an object -/
def PrAp (O : Addr) (H : Hp) (n N : Nat) (a : Addr) (p : Ch.Pr) : Prop := ∃ ra ua, a ≠ O ∧ ra ≠ O ∧ ua ≠ O ∧ H a = some (.tup [.ref ra, .ref ua]) ∧ H ra = some (.lst (Lz n p.r)) ∧ H ua = some (.lst (Lz N p.u))
theorem PrAp.at_ {O : Addr} {H : Hp} {n N : Nat} {a : Addr} {p : Ch.Pr} (x : PrAp O H n N a p) : PrAt H n N a p := let ⟨ra, ua, _, _, _, h1, h2, h3⟩ := x; ⟨ra, ua, h1, h2, h3⟩
theorem PrAp.same {O : Addr} {H H' : Hp} {n N : Nat} {a : Addr} {p : Ch.Pr} (x : PrAp O H n N a p) (s : Same H H') : PrAp O H' n N a p := let ⟨ra, ua, n1, n2, n3, h1, h2, h3⟩ := x; ⟨ra, ua, n1, n2, n3, s _ _ h1, s _ _ h2, s _ _ h3⟩
theorem PrAp.upd {O : Addr} {H : Hp} {n N : Nat} {a : Addr} {p : Ch.Pr} {o : HO} (x : PrAp O H n N a p) : PrAp O (upd H O o) n N a p := let ⟨ra, ua, n1, n2, n3, h1, h2, h3⟩ := x; ⟨ra, ua, n1, n2, n3, by rw [upd_ne n1]; exact h1, by rw [upd_ne n2]; exact h2, by rw [upd_ne n3]; exact h3⟩
theorem PrNw.ap {O : Addr} {H H' : Hp} {n N : Nat} {a : Addr} {p : Ch.Pr} {o : HO} (x : PrNw H H' n N a p) (h : H O = some o) : PrAp O H' n N a p := let ⟨ra, ua, n1, n2, n3, h1, h2, h3⟩ := x; ⟨ra, ua, (ne_of_none h n1).symm, (ne_of_none h n2).symm, (ne_of_none h n3).symm, h1, h2, h3⟩
theorem PrNw.at_ {H H' : Hp} {n N : Nat} {a : Addr} {p : Ch.Pr} (x : PrNw H H' n N a p) : PrAt H' n N a p := let ⟨ra, ua, n1, n2, n3, h1, h2, h3⟩ := x; ⟨ra, ua, h1, h2, h3⟩
section
variable {P : Program} {w : World} {K : PySem.W.Frag} {mg : Str → Option Value} {base : Heap}
abbrev sLess : Stmt := top 28
theorem scLess : FnScope ["pair", "head", "times"] ["pair", "head", "times"] (defScope sLess) := ⟨rfl, rfl, rfl, by decide +kernel, rfl, by decide +kernel, by decide +kernel⟩
def spLess : Sp := fun vs H Q _ => ∃ (a b : Addr) (n N : Nat) (p h : Ch.Pr) (t : Int), vs = [.ref a, .ref b, .int t] ∧ PrAt H n N a p ∧ PrAt H n N b h ∧ n ≤ 100 ∧ N ≤ 100 ∧ (∀ l, l < n → IntMulOk t (h.r l)) ∧ (∀ i, i < N → IntMulOk t (h.u i)) ∧
  ∀ H' q, Same H H' → PrNw H H' n N q (Ch.less p h t) → Q (.ref q) H'
theorem ok_less {f : Addr} {fd : FuncData} (F : Fun K "less" "less" sLess f fd) (cT : Cal P w K mg base "taken" 1 ["row", "other", "times"] (spTaken K)) : FnOk P w K mg base CX0 2 f fd ["pair", "head", "times"] spLess := by
  obtain ⟨fT, fdT, GT, gT, kT, bT⟩ := cT
  refine F.ok scLess (fun vs H Q E h => ?_) (fun cdv A outer s H vs Q E hr h => ?_)
  · obtain ⟨a, b, n, N, p, h, t, rfl, _⟩ := h
    rfl
  · obtain ⟨a, b, n, N, p, h, t, rfl, ⟨ra, ua, a1, a2, a3⟩, ⟨rb, ub, b1, b2, b3⟩, hn, hN, m1, m2, k⟩ := h
    refine ⟨_, pss_one (ps_ret (pe_tup (pa_cons (pe_call GT hr rfl gT kT bT .nil pass0 (pa_cons (pe_ix ix_tup (pv 0) pe_int (fun _ _ => rfl)) (pa_cons (pe_ix ix_tup (pv 1) pe_int (fun _ _ => rfl)) (pa_cons (pv 2) pa_nil))))
      (pa_cons (pe_call GT hr rfl gT kT bT .nil pass0 (pa_cons (pe_ix ix_tup (pv 0) pe_int (fun _ _ => rfl)) (pa_cons (pe_ix ix_tup (pv 1) pe_int (fun _ _ => rfl)) (pa_cons (pv 2) pa_nil)))) pa_nil)))), ?_⟩
    refine ⟨_, rfl, a, _, _, _, rfl, rfl, SqT.of a1, rfl, _, rfl, b, _, _, _, rfl, rfl, SqT.of b1, rfl, _, rfl, ra, rb, n, p.r, h.r, t, rfl, SqL.of a2, SqL.of b2, hn, m1, fun H1 p1 s1 np1 e1 => ?_⟩
    refine ⟨_, rfl, a, _, _, _, rfl, rfl, SqT.of (s1 _ _ a1), rfl, _, rfl, b, _, _, _, rfl, rfl, SqT.of (s1 _ _ b1), rfl, _, rfl, ua, ub, N, p.u, h.u, t, rfl, SqL.of (s1 _ _ a3), SqL.of (s1 _ _ b3), hN, m2, fun H2 p2 s2 np2 e2 => ?_⟩
    refine ⟨by show 2 ≤ sizeLine; decide, fun q hq => ?_⟩
    have s3 : Same H2 (upd H2 q (.tup [.ref p1, .ref p2])) := same_upd hq
    exact k _ q (same_tr s1 (same_tr s2 s3)) ⟨p1, p2, (same_tr s1 s2).free hq, np1, s1.free np2, upd_same, s3 _ _ (s2 _ _ e1), s3 _ _ e2⟩
/-! ### cleared -/
/-- what cleared hands back -/
def OutAt (H : Hp) (t : Addr) (n N : Nat) (o : Option Ch.Pr × List Ch.Pr) : Prop := ∃ L, WkAt H L n N o.2 ∧ match o.1 with
  | none => H t = some (.tup [.non, .ref L])
  | some h => ∃ a, H t = some (.tup [.ref a, .ref L]) ∧ PrAt H n N a h
abbrev sClr : Stmt := top 29
theorem scClr : FnScope ["work", "place", "left", "at", "head", "others", "clean", "k", "pair"] ["work", "place"] (defScope sClr) := ⟨rfl, rfl, rfl, by decide +kernel, rfl, by decide +kernel, by decide +kernel⟩
def spClr : Sp := fun vs H Q _ => ∃ (l : Addr) (n N c e : Nat) (v : List Ch.Pr), vs = [.ref l, .int c] ∧ WkAt H l n N v ∧ c < n ∧ n ≤ 100 ∧ N ≤ 100 ∧ v.length ≤ 100 ∧ (∀ p, p ∈ v → Ch.Bp n N (Ch.tw e) p) ∧ 5 * e + 1 ≤ 8000 ∧
  ∀ H' t o, Same H H' → OutAt H' t n N o → Ch.Clr c v o → Q (.ref t) H'
theorem others_take {v : List Ch.Pr} {c k : Nat} {h p : Ch.Pr} {i : Nat} (ep : v[i]? = some p) (hk : k < v.length) : Ch.others (v.take (i + 1)) c k h = if i = k then Ch.others (v.take i) c k h else Ch.others (v.take i) c k h ++ [Ch.less p h ((p.r c).fdiv (h.r c))] := by
  have hi : i < v.length := (List.getElem?_eq_some_iff.mp ep).1
  have e : v.take (i + 1) = v.take i ++ [p] := by rw [List.take_add_one, ep]; rfl
  have lt : (v.take i).length = i := by rw [List.length_take]; omega
  unfold Ch.others
  rw [e]
  by_cases q : i = k
  · subst q
    have e1 : (v.take i ++ [p]).eraseIdx i = v.take i := by
      rw [List.eraseIdx_append_of_length_le (by omega), lt, Nat.sub_self]
      simp
    have e2 : (v.take i).eraseIdx i = v.take i := List.eraseIdx_of_length_le (by omega)
    rw [if_pos rfl, e1, e2]
  · rw [if_neg q]
    rcases Nat.lt_or_gt_of_ne q with z | z
    · have e1 : (v.take i ++ [p]).eraseIdx k = v.take i ++ [p] := List.eraseIdx_of_length_le (by rw [List.length_append, lt]; simp; omega)
      have e2 : (v.take i).eraseIdx k = v.take i := List.eraseIdx_of_length_le (by omega)
      rw [e1, e2, List.map_append]; rfl
    · rw [List.eraseIdx_append_of_lt_length (by omega), List.map_append]; rfl
end
end Cw

set_option maxRecDepth 100000
set_option maxHeartbeats 8000000
namespace Cw
open PySem L2
section
variable {P : Program} {w : World} {K : PySem.W.Frag} {mg : Str → Option Value} {base : Heap}
theorem PrAt.ap {O : Addr} {H : Hp} {n N : Nat} {a : Addr} {p : Ch.Pr} (x : PrAt H n N a p) (h : H O = none) : PrAp O H n N a p := let ⟨ra, ua, h1, h2, h3⟩ := x; ⟨ra, ua, ne_of_none h1 h, ne_of_none h2 h, ne_of_none h3 h, h1, h2, h3⟩
/-- a list of pairs, all apart from it -/
def WkAp (H : Hp) (l : Addr) (n N : Nat) (w : List Ch.Pr) : Prop := ∃ r : Nat → Addr, H l = some (.lst (Rz w.length r)) ∧ ∀ k p, w[k]? = some p → PrAp l H n N (r k) p
theorem WkAp.at_ {H : Hp} {l : Addr} {n N : Nat} {w : List Ch.Pr} (x : WkAp H l n N w) : WkAt H l n N w := let ⟨r, h1, h2⟩ := x; ⟨r, h1, fun k p e => (h2 k p e).at_⟩
theorem WkAp.more {H : Hp} {l q : Addr} {n N : Nat} {w : List Ch.Pr} {p : Ch.Pr} {r : Nat → Addr} (h1 : H l = some (.lst (Rz w.length r))) (h2 : ∀ k p, w[k]? = some p → PrAp l H n N (r k) p) (hq : PrAp l H n N q p) : WkAp (upd H l (.lst (Rz w.length r ++ [.ref q]))) l n N (w ++ [p]) := by
  refine ⟨fun j => if j < w.length then r j else q, ?_, fun k p' e => ?_⟩
  · rw [upd_same, List.length_append, List.length_singleton, Rz_succ, if_neg (Nat.lt_irrefl _)]
    rw [show Rz w.length (fun j => if j < w.length then r j else q) = Rz w.length r from Rz_congr fun j hj => if_pos hj]
  · by_cases c : k < w.length
    · rw [List.getElem?_append_left c] at e
      show PrAp l _ n N (if k < w.length then r k else q) p'
      rw [if_pos c]; exact (h2 k p' e).upd
    · have : k < (w ++ [p]).length := (List.getElem?_eq_some_iff.mp e).1
      rw [List.length_append, List.length_singleton] at this
      obtain rfl : k = w.length := by omega
      rw [List.getElem?_append_right (Nat.le_refl _), Nat.sub_self] at e
      cases e
      show PrAp l _ n N (if w.length < w.length then r _ else q) p
      rw [if_neg (Nat.lt_irrefl _)]; exact hq.upd
theorem ok_clr {f : Addr} {fd : FuncData} (F : Fun K "cleared" "cleared" sClr f fd) (mli : mg "list" = none) (mr : mg "range" = none) (ml : mg "len" = none) (cL : Cal P w K mg base "least_at" 1 ["work", "place"] spLeastAt) (cS : Cal P w K mg base "less" 2 ["pair", "head", "times"] spLess) : FnOk P w K mg base CX0 3 f fd ["work", "place"] spClr := by
  obtain ⟨fL, fdL, GL, gL, kL, bL⟩ := cL
  obtain ⟨fS, fdS, GS, gS, kS, bS⟩ := cS
  refine F.ok scClr (fun vs H Q E h => ?_) (fun cdv A outer s H vs Q E hr h => ?_)
  · obtain ⟨l, n, N, c, e, v, rfl, _⟩ := h
    rfl
  · obtain ⟨l, n, N, c, e, v, rfl, ⟨r0, hl, hp⟩, hc, hn, hN, hv, hb, he, k⟩ := h
    have hr1 : Room 1 _ := hr.mono (by decide)
    refine ⟨_, pss_cons (ps_set (i := 2) scClr.nd rfl (Or.inl rfl) (pe_callTy call_list_of (by rfl) mli (by decide +kernel) (pa_cons (pv 0) pa_nil)))
      (pss_one (ps_while PassesOwn.never (pt_val pe_bl)
        (pss_cons (ps_set (i := 3) scClr.nd rfl (Or.inl rfl) (pe_call GL hr1 rfl gL kL bL .nil pass0 (pa_cons (pv 2) (pa_cons (pv 1) pa_nil))))
        (pss_cons (ps_if (pt_cmpR op_lt (pv 3) pe_int (nomark _)) (pss_one (ps_ret (pe_tup (pa_cons pe_non (pa_cons (pv 2) pa_nil))))) pss_nil)
        (pss_cons (ps_set (i := 4) scClr.nd rfl (Or.inl rfl) (pe_ix ix_list (pv 2) (pv 3) (fun _ _ => rfl)))
        (pss_cons (ps_set (i := 5) scClr.nd rfl (Or.inl rfl) (pe_lst pa_nil))
        (pss_cons (ps_set (i := 6) scClr.nd rfl (Or.inl rfl) pe_bl)
        (pss_cons (ps_for PassesOwn.never rfl (pi_range1 rfl mr (pa_cons (pe_callB call_len_seq (by rfl) ml PySem.boot_len (pa_cons (pv 2) pa_nil)) pa_nil)) (pg_name (i := 7) scClr.nd rfl (Or.inl rfl))
          (pss_one (ps_if (pt_cmpR op_ne (pv 7) (pv 3) (nomark _))
            (pss_cons (ps_set (i := 8) scClr.nd rfl (Or.inl rfl) (pe_call GS hr rfl gS kS bS .nil pass0 (pa_cons (pe_ix ix_list (pv 2) (pv 7) (fun _ _ => rfl)) (pa_cons (pv 4) (pa_cons (pe_op op_fdivZ
              (pe_ix ix_list (pe_ix ix_tup (pe_ix ix_list (pv 2) (pv 7) (fun _ _ => rfl)) pe_int (fun _ _ => rfl)) (pv 1) (fun _ _ => rfl)) (pe_ix ix_list (pe_ix ix_tup (pv 4) pe_int (fun _ _ => rfl)) (pv 1) (fun _ _ => rfl))) pa_nil)))))
            (pss_cons (ps_set (i := 6) scClr.nd rfl (Or.inl rfl) (pe_and (pv 6) (pe_one (pe_cmpR op_eq (pe_ix ix_list (pe_ix ix_tup (pv 8) pe_int (fun _ _ => rfl)) (pv 1) (fun _ _ => rfl)) pe_int (nomark _)))))
            (pss_one (ps_expr (pe_bm PySem.F.plainAttrs_list PySem.F.slot_list_append PySem.F.type_list_append mt_append (pv 5) (pa_cons (pv 8) pa_nil)))))) pss_nil)))
        (pss_cons (ps_if (pt_val (pv 6)) (pss_one (ps_ret (pe_tup (pa_cons (pv 4) (pa_cons (pv 5) pa_nil))))) pss_nil)
        (pss_one (ps_set (i := 2) scClr.nd rfl (Or.inl rfl) (pe_op op_cat (pe_lst (pa_cons (pv 4) pa_nil)) (pv 5))))))))))))), ?_⟩
    refine ⟨_, rfl, l, _, rfl, .inl (SqL.of hl), fun L hL => ?_⟩
    have sL : Same H (upd H L (.lst (Rz v.length r0))) := same_upd hL
    refine ⟨fun m σ H' => ∃ (L : Addr) (v' : List Ch.Pr) (u3 u4 u5 u6 u7 u8 : Option V), σ = [some (.ref l), some (.int c), some (.ref L), u3, u4, u5, u6, u7, u8] ∧ Same H H' ∧ WkAt H' L n N v' ∧ Ch.CI n N c (Ch.tw (5 * e + 1)) v' m ∧ v'.length = v.length ∧ ∀ o, Ch.Clr c v' o → Ch.Clr c v o,
      ⟨_, L, v, none, none, none, none, none, none, rfl, sL, ⟨r0, upd_same, fun kk p ep => (hp kk p ep).same sL⟩, .start hb (Ch.start_tw e).1 (Ch.start_tw e).2, rfl, fun o h => h⟩, ?_⟩
    rintro m σ H' ⟨L, v', u3, u4, u5, u6, u7, u8, rfl, s1, wk, ci, vl, cont⟩
    refine ⟨_, rfl, iteT ?_⟩
    refine ⟨fun σ' H'' => ∃ m', m' < m ∧ ∃ (L : Addr) (v' : List Ch.Pr) (u3 u4 u5 u6 u7 u8 : Option V), σ' = [some (.ref l), some (.int c), some (.ref L), u3, u4, u5, u6, u7, u8] ∧ Same H H'' ∧ WkAt H'' L n N v' ∧ Ch.CI n N c (Ch.tw (5 * e + 1)) v' m' ∧ v'.length = v.length ∧ ∀ o, Ch.Clr c v' o → Ch.Clr c v o, fun σ' H'' h => h, ?_⟩
    refine ⟨_, rfl, _, rfl, L, n, N, c, v', rfl, wk, hc, by omega, fun zz => ?_, fun kk h lst => ?_⟩
    · -- nothing at the place
      refine ⟨_, rfl, _, _, rfl, rfl, _, rfl, iteT ⟨_, rfl, ?_⟩⟩
      refine ⟨by show 2 ≤ sizeLine; decide, fun t ht => ?_⟩
      have s2 : Same H' (upd H' t (.tup [.non, .ref L])) := same_upd ht
      exact k _ t (none, v') (same_tr s1 s2) ⟨L, wk.same s2, upd_same⟩ (cont _ (.none zz))
    · refine ⟨_, rfl, _, _, rfl, rfl, _, rfl, ?_⟩
      rw [decide_eq_false (by omega)]
      refine iteF ?_
      obtain ⟨r, hL', hP⟩ := wk
      have hk : kk < v'.length := (List.getElem?_eq_some_iff.mp lst.is).1
      refine ⟨_, rfl, _, rfl, L, _, _, _, rfl, rfl, SqL.of hL', atI_nat (Rz_get r hk), ?_⟩
      refine ⟨Nat.zero_le _, fun O hO => ?_⟩
      have sO : Same H' (upd H' O (.lst [])) := same_upd hO
      refine ⟨_, rfl, L, _, rfl, .inl (SqL.of (sO _ _ hL')), v'.length, by rw [Rz_len], by omega, by omega, ?_⟩
      have bd := ci.bd
      have hbh := bd h lst.mem
      obtain ⟨rb, ub, q1, q2, q3⟩ := hP kk h lst.is
      refine for_range (lo := 0) (n := v'.length) (fun i σ H2 => ∃ (b : Bool) (u7 u8 : Option V), σ = [some (.ref l), some (.int c), some (.ref L), some (.int kk), some (.ref (r kk)), some (.ref O), some (.bl b), u7, u8] ∧ Same H' H2 ∧
        WkAp H2 O n N (Ch.others (v'.take i) c kk h) ∧ (b = true ↔ ∀ p, p ∈ Ch.others (v'.take i) c kk h → p.r c = 0)) ⟨true, _, _, rfl, sO, ⟨fun _ => 0, upd_same, fun k p e => by cases e⟩, ⟨fun _ p m => (by cases m), fun _ => rfl⟩⟩ ?_ ?_
      · rintro i σ H2 hi ⟨b, u7, u8, rfl, s2, wO, bz⟩
        obtain ⟨p, ep⟩ := Ch.Ech.m hi
        have ot := others_take (c := c) (h := h) ep hk
        obtain ⟨ra, ua, p1, p2, p3⟩ := hP i p ep
        have hbp := bd p (List.mem_of_getElem? ep)
        have tle : ((p.r c).fdiv (h.r c)).natAbs ≤ Ch.tw (5 * e + 1) := Nat.le_trans (Ch.fd_le _ lst.ne) (hbp.1 c hc)
        refine ⟨_, rfl, _, rfl, rfl, _, rfl, ?_⟩
        refine neI (fun ne => ?_) (fun eq => ?_)
        · have nik : i ≠ kk := fun q => ne (by rw [q, Int.zero_add])
          rw [if_neg nik] at ot
          refine ⟨_, rfl, _, rfl, L, _, _, _, rfl, rfl, SqL.of (s2 _ _ hL'), (by rw [Int.zero_add]; exact atI_nat (Rz_get r hi)), _, rfl, _, rfl, _, rfl, L, _, _, _, rfl, rfl, SqL.of (s2 _ _ hL'), (by rw [Int.zero_add]; exact atI_nat (Rz_get r hi)),
            r i, _, _, _, rfl, rfl, SqT.of (s2 _ _ p1), rfl, _, rfl, ra, _, _, _, rfl, rfl, SqL.of (s2 _ _ p2), atIz p.r hc, _, rfl, r kk, _, _, _, rfl, rfl, SqT.of (s2 _ _ q1), rfl, _, rfl, rb, _, _, _, rfl, rfl, SqL.of (s2 _ _ q2), atIz h.r hc, _, _, rfl, rfl, ⟨lst.ne, logT (hbh.1 c hc) (by omega)⟩, ?_⟩
          refine ⟨r i, r kk, n, N, p, h, _, rfl, ⟨ra, ua, s2 _ _ p1, s2 _ _ p2, s2 _ _ p3⟩, ⟨rb, ub, s2 _ _ q1, s2 _ _ q2, s2 _ _ q3⟩, hn, hN, fun l hl => mulT tle (hbh.1 l hl) (by omega), fun j hj => mulT tle (hbh.2 j hj) (by omega), fun H3 q s3 nw => ?_⟩
          obtain ⟨r', eO, zO⟩ := wO
          have eO3 := s3 _ _ eO
          have nwa := nw.ap eO
          obtain ⟨rz, uz, _, _, _, z1, z2, z3⟩ := nw
          have more := WkAp.more eO3 (fun k p e => (zO k p e).same s3) nwa
          rw [← ot] at more
          have s4 : Same H' (upd H3 O (.lst (Rz (Ch.others (v'.take i) c kk h).length r' ++ [.ref q]))) := fun b z e => by
            rw [upd_ne (ne_of_none e hO)]; exact s3 _ _ (s2 _ _ e)
          have olen : (Ch.others (v'.take i) c kk h).length ≤ 100 := by
            unfold Ch.others
            rw [List.length_map]
            have := List.length_eraseIdx_le (v'.take i) kk
            rw [List.length_take] at this
            omega
          have fz : (b && decide ((Ch.less p h ((p.r c).fdiv (h.r c))).r c = 0)) = true ↔ ∀ p, p ∈ Ch.others (v'.take (i + 1)) c kk h → p.r c = 0 := by
            rw [ot, Bool.and_eq_true, bz, decide_eq_true_iff]
            constructor
            · rintro ⟨a, d⟩ y m
              rcases List.mem_append.mp m with m | m
              · exact a y m
              · rw [List.mem_singleton.mp m]; exact d
            · intro a
              exact ⟨fun y m => a y (List.mem_append_left _ m), a _ (List.mem_append_right _ (List.mem_singleton.mpr rfl))⟩
          cases b with
          | true =>
            refine ⟨_, rfl, true, rfl, iteT ⟨_, rfl, q, _, _, _, rfl, rfl, SqT.of z1, rfl, _, rfl, rz, _, _, _, rfl, rfl, SqL.of z2, atIz _ hc, rfl, ?_⟩⟩
            refine ⟨.ref O, rfl, .inl ⟨rfl, _, SqL.of eO3⟩, _, rfl, O, _, _, rfl, rfl, eO3, small (by rw [Rz_len]; omega), ?_⟩
            refine ⟨_, _, _, rfl, s4, more, ?_⟩
            rw [← fz, dec_int]
            simp
          | false =>
            refine ⟨_, rfl, false, rfl, iteF ?_⟩
            refine ⟨.ref O, rfl, .inl ⟨rfl, _, SqL.of eO3⟩, _, rfl, O, _, _, rfl, rfl, eO3, small (by rw [Rz_len]; omega), ?_⟩
            refine ⟨_, _, _, rfl, s4, more, ?_⟩
            rw [← fz]
            simp
        · have nik : i = kk := by omega
          rw [if_pos nik] at ot
          refine ⟨b, _, _, rfl, s2, by rw [ot]; exact wO, by rw [ot]; exact bz⟩
      · rintro σ H2 ⟨b, u7, u8, rfl, s2, wO, bz⟩
        rw [List.take_length] at wO bz
        refine ⟨_, rfl, b, rfl, ?_⟩
        have s5 := same_tr s1 s2
        cases b with
        | true =>
          refine iteT ⟨_, rfl, _, rfl, by show 2 ≤ sizeLine; decide, fun t ht => ?_⟩
          have s6 : Same H2 (upd H2 t (.tup [.ref (r kk), .ref O])) := same_upd ht
          exact k _ t (some h, Ch.others v' c kk h) (same_tr s5 s6) ⟨O, wO.at_.same s6, r kk, upd_same, rb, ub, s6 _ _ (s2 _ _ q1), s6 _ _ (s2 _ _ q2), s6 _ _ (s2 _ _ q3)⟩ (cont _ (.clean lst (bz.mp rfl)))
        | false =>
          have nc : ¬ ∀ p, p ∈ Ch.others v' c kk h → p.r c = 0 := fun q => by cases (bz.mpr q)
          obtain ⟨z', lz, ci'⟩ := ci.next hc lst nc
          obtain ⟨r', eO, zO⟩ := wO
          have olen := Ch.others_len lst
          refine iteF ⟨_, rfl, by show 1 ≤ sizeLine; decide, fun D hD => ?_⟩
          have sD : Same H2 (upd H2 D (.lst [.ref (r kk)])) := same_upd hD
          refine ⟨_, rfl, D, O, _, _, rfl, rfl, upd_same, sD _ _ eO, ?_, fun M hM => ?_⟩
          · rw [Rz_len]; exact Nat.le_of_lt (small (by simp; omega))
          · have sM : Same H2 (upd (upd H2 D (.lst [.ref (r kk)])) M (.lst ([.ref (r kk)] ++ Rz (Ch.others v' c kk h).length r'))) := same_tr sD (same_upd hM)
            refine ⟨z', lz, M, h :: Ch.others v' c kk h, _, _, _, _, _, _, rfl, same_tr s5 sM, ⟨fun j => match j with | 0 => r kk | j + 1 => r' j, ?_, fun j p e => ?_⟩, ci', by rw [List.length_cons]; omega, fun o ho => cont _ (.dirty lst nc ho)⟩
            · rw [upd_same]
              congr 2
              unfold Rz
              rw [List.length_cons, List.range_succ_eq_map, List.map_cons, List.map_map]
              rfl
            · cases j with
              | zero =>
                cases e
                exact ⟨rb, ub, sM _ _ (s2 _ _ q1), sM _ _ (s2 _ _ q2), sM _ _ (s2 _ _ q3)⟩
              | succ j => exact ((zO j p e).at_).same sM
end
end Cw

set_option maxRecDepth 100000
set_option maxHeartbeats 8000000
namespace Cw
open PySem L2
/-- the pairs that laid begins with -/
def w0 (b : Nat → Nat → Int) (N : Nat) : List Ch.Pr := (List.range N).map fun i => ⟨b i, fun j => if j = i then 1 else 0⟩
theorem w0_len (b : Nat → Nat → Int) (N : Nat) : (w0 b N).length = N := by unfold w0; rw [List.length_map, List.length_range]
theorem w0_succ (b : Nat → Nat → Int) (N : Nat) : w0 b (N + 1) = w0 b N ++ [⟨b N, fun j => if j = N then 1 else 0⟩] := by
  unfold w0
  rw [List.range_succ, List.map_append]; rfl
theorem w0_mem {b : Nat → Nat → Int} {N : Nat} {p : Ch.Pr} (m : p ∈ w0 b N) : ∃ i, i < N ∧ p = ⟨b i, fun j => if j = i then 1 else 0⟩ := by
  obtain ⟨i, hi, e⟩ := List.mem_map.mp m
  exact ⟨i, List.mem_range.mp hi, e.symm⟩
theorem w0_good (b : Nat → Nat → Int) (n N : Nat) : ∀ p, p ∈ w0 b N → Ch.Good n N b p := fun p m l _ => by
  obtain ⟨i, hi, rfl⟩ := w0_mem m
  show b i l = Ch.sm N (fun k => (if k = i then 1 else 0) * b k l)
  rw [Ch.sm_one hi]
  · simp
  · intro j _ ne; simp [ne]
theorem w0_bp {b : Nat → Nat → Int} {n N B M : Nat} (h : ∀ i l, i < N → l < n → (b i l).natAbs ≤ M) (hM : M ≤ Ch.tw B) : ∀ p, p ∈ w0 b N → Ch.Bp n N (Ch.tw B) p := fun p m => by
  obtain ⟨i, hi, rfl⟩ := w0_mem m
  refine ⟨fun l hl => Nat.le_trans (h i l hi hl) hM, fun j _ => ?_⟩
  have := Ch.tw_pos B
  show (if j = i then (1 : Int) else 0).natAbs ≤ _
  split <;> omega
/-- bits of the working rows -/
theorem wb_le {n N B M : Nat} (h : Ch.Hk n N B M) (i : Nat) (hn : i ≤ n) (hN : i ≤ N) : Ch.wb N B i ≤ 600 := by
  have z : Ch.wb N B 0 = B := rfl
  have h1 : Ch.wb N B 1 = if N ≤ 1 then B else 5 * B + 1 := rfl
  have h2 : Ch.wb N B 2 = if N ≤ 2 then Ch.wb N B 1 else 5 * Ch.wb N B 1 + 1 := rfl
  have h3 : Ch.wb N B 3 = if N ≤ 3 then Ch.wb N B 2 else 5 * Ch.wb N B 2 + 1 := rfl
  have B0 : B ≤ 600 := by cases h <;> omega
  have B1 : 1 ≤ n → Ch.wb N B 1 ≤ 600 := fun _ => by cases h <;> (rw [h1]; split <;> omega)
  have B2 : 2 ≤ n → Ch.wb N B 2 ≤ 600 := fun _ => by cases h <;> (rw [h2, h1]; (repeat' split) <;> omega)
  have B3 : 3 ≤ n → Ch.wb N B 3 ≤ 600 := fun _ => by cases h <;> (rw [h3, h2, h1]; (repeat' split) <;> omega)
  have i3 : i ≤ 3 := by cases h <;> omega
  match i, i3 with
  | 0, _ => exact B0
  | 1, _ => exact B1 hn
  | 2, _ => exact B2 hn
  | 3, _ => exact B3 hn
theorem sb_le {n N B M : Nat} (h : Ch.Hk n N B M) (i : Nat) (hn : i ≤ n) (hN : i ≤ N) : Ch.sb N B i ≤ 1900 := by
  have w := wb_le h
  have h1 : Ch.sb N B 1 = Ch.wb N B 1 := rfl
  have h2 : Ch.sb N B 2 = Ch.wb N B 1 + Ch.wb N B 2 + 1 := rfl
  have h3 : Ch.sb N B 3 = Ch.wb N B 1 + Ch.wb N B 2 + 1 + Ch.wb N B 3 + 1 := rfl
  have i3 : i ≤ 3 := by cases h <;> omega
  match i, i3 with
  | 0, _ => exact Nat.zero_le _
  | 1, _ => have := w 1 hn hN; omega
  | 2, _ => have := w 1 (by omega) (by omega); have := w 2 hn hN; omega
  | 3, _ => have := w 1 (by omega) (by omega); have := w 2 (by omega) (by omega); have := w 3 hn hN; omega
abbrev rListOf (K : PySem.W.Frag) : List V → Hp → VK → Prop := fun xs H Q => ∃ p ys, xs = [.ref p] ∧ (SqL K H p ys ∨ SqT K H p ys) ∧ ∀ l, H l = none → Q (.ref l) (upd H l (.lst ys))
section
variable {P : Program} {w : World} {K : PySem.W.Frag} {mg : Str → Option Value} {base : Heap}
abbrev sLaid : Stmt := top 30
theorem scLaid : FnScope ["kinds", "rows", "size", "k", "work", "stand", "place", "found", "head", "pair"] ["kinds", "rows"] (defScope sLaid) := ⟨rfl, rfl, rfl, by decide +kernel, rfl, by decide +kernel, by decide +kernel⟩
/-- bills as a tuple of tuples -/
def Bills (H : Hp) (a : Addr) (n N : Nat) (b : Nat → Nat → Int) : Prop := ∃ r : Nat → Addr, H a = some (.tup (Rz N r)) ∧ ∀ i, i < N → H (r i) = some (.tup (Lz n (b i)))
/-- a hall's bounds -/
def HB (n N : Nat) (b : Nat → Nat → Int) (B M : Nat) : Prop := Ch.Hk n N B M ∧ ∀ i l, i < N → l < n → (b i l).natAbs ≤ M
def spLaid : Sp := fun vs H Q _ => ∃ (a : Addr) (n N : Nat) (b : Nat → Nat → Int) (B M : Nat), vs = [.int n, .ref a] ∧ Bills H a n N b ∧ HB n N b B M ∧
  ∀ H' t S U st wk, Same H H' → H' t = some (.tup [.ref S, .ref U]) → WkAt H' S n N st → Ch.LT (w0 b N) n (st, wk) → Ch.LV n N b (w0 b N) n (st, wk) → Ch.LSz n N B (st, wk) → Q (.ref t) H'
theorem ok_laid {f : Addr} {fd : FuncData} (F : Fun K "laid" "laid" sLaid f fd) (mli : mg "list" = none) (mr : mg "range" = none) (ml : mg "len" = none) (cI : Cal P w K mg base "single" 1 ["size", "place"] spSingle) (cC : Cal P w K mg base "cleared" 3 ["work", "place"] spClr) (cN : Cal P w K mg base "turned" 1 ["row"] (spTurned K)) (cS : Cal P w K mg base "less" 2 ["pair", "head", "times"] spLess) : FnOk P w K mg base CX0 4 f fd ["kinds", "rows"] spLaid := by
  obtain ⟨fI, fdI, GI, gI, kI, bI⟩ := cI
  obtain ⟨fC, fdC, GC, gC, kC, bC⟩ := cC
  obtain ⟨fN, fdN, GN, gN, kN, bN⟩ := cN
  obtain ⟨fS, fdS, GS, gS, kS, bS⟩ := cS
  refine F.ok scLaid (fun vs H Q E h => ?_) (fun cdv A outer s H vs Q E hr h => ?_)
  · obtain ⟨a, n, N, b, B, M, rfl, _⟩ := h
    rfl
  · obtain ⟨a, n, N, b, B, M, rfl, ⟨rr, hA, hR⟩, ⟨hk, hM⟩, k⟩ := h
    have hr1 : Room 1 _ := hr.mono (by decide)
    have hr2 : Room 2 _ := hr.mono (by decide)
    have N8 := hk.N
    have n6 := hk.n
    refine ⟨_, pss_cons (ps_set (i := 2) scLaid.nd rfl (Or.inr rfl) (pe_callB call_len_seq (by rfl) ml PySem.boot_len (pa_cons (pv 1) pa_nil)))
      (pss_cons (ps_setLc (i := 4) (own := [("k", 3)]) (g := gName 3) (tt := tYes) (te := tTup (tCons (tCB (rListOf K) (tCons (tOp (rIxT K) (tVar 1) (tVar 3)) tNil)) (tCons (tCall spSingle [] _ (tCons (tVar 2) (tCons (tVar 3) tNil))) tNil))) (by rfl) scLaid.nd rfl rfl (sw_true rfl rfl rfl (by decide +kernel)) (pi_range1 rfl mr (pa_cons (pv 2) pa_nil))
        (blkOk_by (own := [("k", 3)]) (N := ["kinds", "rows", "size", "k", "work", "stand", "place", "found", "head", "pair"]) (sc := defScope sLaid) (by decide +kernel)) (fun _ _ _ _ _ => pg_name (i := 3) scLaid.nd rfl (Or.inl rfl)) (fun _ _ _ _ _ => pts_nil)
        (fun _ _ _ _ _ => pe_tup (pa_cons (pe_callTy call_list_of (by rfl) mli (by decide +kernel) (pa_cons (pe_ix ix_tup (pv 1) (pv 3) (fun _ _ => rfl)) pa_nil)) (pa_cons (pe_call GI hr1 rfl gI kI bI .nil pass0 (pa_cons (pv 2) (pa_cons (pv 3) pa_nil))) pa_nil))))
      (pss_cons (ps_set (i := 5) scLaid.nd rfl (Or.inl rfl) (pe_lst pa_nil))
      (pss_cons (ps_for PassesOwn.never rfl (pi_range1 rfl mr (pa_cons (pv 0) pa_nil)) (pg_name (i := 6) scLaid.nd rfl (Or.inr rfl))
        (pss_cons (ps_set (i := 7) scLaid.nd rfl (Or.inl rfl) (pe_call GC hr rfl gC kC bC .nil pass0 (pa_cons (pv 4) (pa_cons (pv 6) pa_nil))))
        (pss_cons (ps_set (i := 4) scLaid.nd rfl (Or.inl rfl) (pe_ix ix_tup (pv 7) pe_int (fun _ _ => rfl)))
        (pss_one (ps_if (pt_cmpR op_notN (pe_ix ix_tup (pv 7) pe_int (fun _ _ => rfl)) pe_non (nomark _))
          (pss_cons (ps_set (i := 8) scLaid.nd rfl (Or.inr rfl) (pe_ix ix_tup (pv 7) pe_int (fun _ _ => rfl)))
          (pss_cons (ps_if (pt_cmpR op_lt (pe_ix ix_list (pe_ix ix_tup (pv 8) pe_int (fun _ _ => rfl)) (pv 6) (fun _ _ => rfl)) pe_int (nomark _))
            (pss_one (ps_set (i := 8) scLaid.nd rfl (Or.inr rfl) (pe_tup (pa_cons (pe_call GN hr1 rfl gN kN bN .nil pass0 (pa_cons (pe_ix ix_tup (pv 8) pe_int (fun _ _ => rfl)) pa_nil)) (pa_cons (pe_call GN hr1 rfl gN kN bN .nil pass0 (pa_cons (pe_ix ix_tup (pv 8) pe_int (fun _ _ => rfl)) pa_nil)) pa_nil))))) pss_nil)
          (pss_cons (ps_setLc (i := 5) (own := [("pair", 9)]) (g := gName 9) (tt := tYes) (te := tCall spLess [] _ (tCons (tVar 9) (tCons (tVar 8) (tCons (tOp (rI (fun _ j => j ≠ 0 ∧ j.natAbs.log2 < 9000) fun i j => .int (i.fdiv j)) (tOp (rIxL K) (tOp (rIxT K) (tVar 9) (tC (.int 0))) (tVar 6)) (tOp (rIxL K) (tOp (rIxT K) (tVar 8) (tC (.int 0))) (tVar 6))) tNil))))
            (by rfl) scLaid.nd rfl rfl (sw_true rfl rfl rfl (by decide +kernel)) (pi_list (pv 5)) (blkOk_by (own := [("pair", 9)]) (N := ["kinds", "rows", "size", "k", "work", "stand", "place", "found", "head", "pair"]) (sc := defScope sLaid) (by decide +kernel)) (fun _ _ _ _ _ => pg_name (i := 9) scLaid.nd rfl (Or.inl rfl)) (fun _ _ _ _ _ => pts_nil)
            (fun _ _ _ _ _ => pe_call GS hr2 rfl gS kS bS .nil pass0 (pa_cons (pv 9) (pa_cons (pv 8) (pa_cons (pe_op op_fdivZ (pe_ix ix_list (pe_ix ix_tup (pv 9) pe_int (fun _ _ => rfl)) (pv 6) (fun _ _ => rfl)) (pe_ix ix_list (pe_ix ix_tup (pv 8) pe_int (fun _ _ => rfl)) (pv 6) (fun _ _ => rfl))) pa_nil)))))
          (pss_one (ps_expr (pe_bm PySem.F.plainAttrs_list PySem.F.slot_list_append PySem.F.type_list_append mt_append (pv 5) (pa_cons (pv 8) pa_nil))))))) pss_nil)))))
      (pss_one (ps_ret (pe_tup (pa_cons (pv 5) (pa_cons (pe_lc (own := [("pair", 9)]) (g := gName 9) (tt := tYes) (te := tOp (rIxT K) (tVar 9) (tC (.int 1))) (by rfl) scLaid.nd (pi_list (pv 4)) (blkOk_by (own := [("pair", 9)]) (N := ["kinds", "rows", "size", "k", "work", "stand", "place", "found", "head", "pair"]) (sc := defScope sLaid) (by decide +kernel))
        (fun _ _ _ _ _ => pg_name (i := 9) scLaid.nd rfl (Or.inl rfl)) (fun _ _ _ _ _ => pts_nil) (fun _ _ _ _ _ => pe_ix ix_tup (pv 9) pe_int (fun _ _ => rfl))) pa_nil)))))))), ?_⟩
    refine ⟨_, rfl, a, _, rfl, .inr (SqT.of hA), ?_⟩
    rw [Rz_len]
    refine ⟨_, rfl, N, rfl, by omega, by omega, fun W0 hW0 => lc_range (lo := 0) (n := N) (fun i H' => Same H H' ∧ WkAp H' W0 n N (w0 b i)) ⟨same_upd hW0, fun _ => 0, upd_same, fun k p e => by cases e⟩ (fun i H' hi p => ?_) (fun H1 p1 => ?_)⟩
    · obtain ⟨s1, r', e, z⟩ := p
      refine ⟨rfl, _, rfl, _, rfl, a, _, _, _, rfl, rfl, SqT.of (s1 _ _ hA), (by rw [Int.zero_add]; exact atI_nat (Rz_get rr hi)), rr i, _, rfl, .inr (SqT.of (s1 _ _ (hR i hi))), fun l hl => ?_⟩
      refine ⟨_, rfl, _, rfl, N, i, (by rw [Int.zero_add]; rfl), by omega, fun H2 p s2 np e2 => ?_⟩
      refine ⟨by show 2 ≤ sizeLine; decide, fun t ht => ?_⟩
      have sl : Same H' (upd H' l (.lst (Lz n (b i)))) := same_upd hl
      have s3 : Same H2 (upd H2 t (.tup [.ref l, .ref p])) := same_upd ht
      have sA : Same H' (upd H2 t (.tup [.ref l, .ref p])) := same_tr sl (same_tr s2 s3)
      have eD := sA _ _ e
      have n1 : t ≠ W0 := (ne_of_none (s2 _ _ (sl _ _ e)) ht).symm
      have n2 : l ≠ W0 := (ne_of_none e hl).symm
      have n3 : p ≠ W0 := (ne_of_none (sl _ _ e) np).symm
      have more := WkAp.more (q := t) (p := ⟨b i, fun j => if j = i then 1 else 0⟩) eD (fun k p e => (z k p e).same sA) ⟨l, p, n1, n2, n3, upd_same, s3 _ _ (s2 _ _ upd_same), s3 _ _ e2⟩
      rw [← w0_succ] at more
      refine ⟨_, eD, small (by rw [Rz_len, w0_len]; omega), fun c z' e' => ?_, more⟩
      rw [upd_ne (ne_of_none e' hW0)]; exact sA _ _ (s1 _ _ e')
    · obtain ⟨s1, wap⟩ := p1
      refine ⟨Nat.zero_le _, fun S0 hS0 => ?_⟩
      have sS : Same H1 (upd H1 S0 (.lst [])) := same_upd hS0
      have zb := w0_bp (b := b) (n := n) (N := N) hM hk.tw
      have gd := w0_good b n N
      have wl : (w0 b N).length = N := w0_len b N
      refine ⟨_, rfl, n, rfl, by omega, by omega, for_range (lo := 0) (n := n) (fun i σ H' => ∃ (W S : Addr) (st wk : List Ch.Pr) (u3 u6 u7 u8 u9 : Option V), σ = [some (.int n), some (.ref a), some (.int N), u3, some (.ref W), some (.ref S), u6, u7, u8, u9] ∧ Same H H' ∧ WkAt H' W n N wk ∧ WkAp H' S n N st ∧
        Ch.LT (w0 b N) i (st, wk) ∧ Ch.LV n N b (w0 b N) i (st, wk) ∧ Ch.LSz n N B (st, wk)) ⟨W0, S0, [], w0 b N, _, _, _, _, _, rfl, same_tr s1 sS, wap.at_.same sS, ⟨fun _ => 0, upd_same, fun k p e => by cases e⟩, .zero, ?_, ⟨fun p m => (by cases m), ?_⟩⟩ ?_ ?_⟩
      · have := Ch.LV.start (n := n) (b := b) (w0 := w0 b N) (by rw [wl]; exact gd)
        rw [wl] at this; exact this
      · exact zb
      · rintro i σ H2 hi ⟨W, S, st, wk, u3, u6, u7, u8, u9, rfl, s2, wkA, sAp, lt, lv, ls⟩
        have len := lv.len
        rw [wl] at len
        simp at len
        obtain ⟨hp, ech, _⟩ := lv.ech
        have si : st.length ≤ i := ech.le
        obtain ⟨s', lss, ls'⟩ := Ch.LSz.next (w0 := w0 b N) (bm := b) (b := B) (by rw [wl]; exact lv) (by rw [wl]; exact ls) hi
        rw [wl] at ls'
        have lv' := lv.next lss hi
        refine ⟨_, rfl, _, rfl, W, n, N, i, Ch.wb N B st.length, wk, (by rw [Int.zero_add]; rfl), wkA, hi, by omega, by omega, by omega, ls.wk, by have := wb_le hk st.length (by omega) (by omega); omega, fun H3 t o s3 out clr => ?_⟩
        obtain ⟨oh, wk'⟩ := o
        obtain ⟨L, wL, ot⟩ := out
        have s23 := same_tr s2 s3
        cases oh with
        | none =>
          have e' := lss.uni (.skip clr)
          subst e'
          refine ⟨_, rfl, t, _, _, _, rfl, rfl, SqT.of ot, rfl, _, rfl, t, _, _, _, rfl, rfl, SqT.of ot, rfl, rfl, _, rfl, iteF ?_⟩
          exact ⟨L, S, st, wk', _, _, _, _, _, rfl, s23, wL, (let ⟨r, h1, h2⟩ := sAp; ⟨r, s3 _ _ h1, fun k p e => (h2 k p e).same s3⟩), .succ lt (.skip clr), lv', ls'⟩
        | some h =>
          have e' := lss.uni (.take clr)
          subst e'
          obtain ⟨hd, ot, ph⟩ := ot
          obtain ⟨ra, ua, h1, h2, h3⟩ := ph
          have hne := (clr.at.2 h rfl).1
          have hps := Ch.pos_at hne
          obtain ⟨hp', ech', _⟩ := lv'.ech
          have len' := lv'.len
          have le' := ech'.le
          rw [wl] at len'
          simp only at len' le'
          have mem' : Ch.pos i h ∈ (Ch.eas i (Ch.pos i h) st ++ [Ch.pos i h], wk').1 := List.mem_append_right _ (List.mem_singleton.mpr rfl)
          have sbl := sb_le hk (Ch.eas i (Ch.pos i h) st ++ [Ch.pos i h]).length (by omega) (by omega)
          have hbd : Ch.Bp n N (Ch.tw 1900) (Ch.pos i h) := (ls'.st _ mem').mono (Ch.tw_le sbl)
          have sb0 := sb_le hk st.length (by omega) (by omega)
          obtain ⟨rS, hS, zS⟩ := sAp
          refine ⟨_, rfl, t, _, _, _, rfl, rfl, SqT.of ot, rfl, _, rfl, t, _, _, _, rfl, rfl, SqT.of ot, rfl, rfl, _, rfl, iteT ?_⟩
          refine ⟨_, rfl, t, _, _, _, rfl, rfl, SqT.of ot, rfl, ?_⟩
          refine ⟨_, rfl, hd, _, _, _, rfl, rfl, SqT.of h1, rfl, _, rfl, ra, _, _, _, rfl, rfl, SqL.of h2, atI0 h.r hi, _, _, rfl, rfl, _, rfl, ?_⟩
          by_cases sg : h.r i < 0
          case' pos =>
            rw [decide_eq_true sg]
            refine iteT ⟨_, rfl, hd, _, _, _, rfl, rfl, SqT.of h1, rfl, ra, n, h.r, rfl, SqL.of h2, by omega, fun H4 p4 s4 np4 e4 => ?_⟩
            refine ⟨_, rfl, hd, _, _, _, rfl, rfl, SqT.of (s4 _ _ h1), rfl, ua, N, h.u, rfl, SqL.of (s4 _ _ h3), by omega, fun H5 p5 s5 np5 e5 => ?_⟩
            refine ⟨by show 2 ≤ sizeLine; decide, fun hd4 ht2 => ?_⟩
            have s34 : Same H3 (upd H5 hd4 (.tup [.ref p4, .ref p5])) := same_tr s4 (same_tr s5 (same_upd ht2))
            have ph4 : PrAt (upd H5 hd4 (.tup [.ref p4, .ref p5])) n N hd4 (Ch.pos i h) := by
              have e : Ch.pos i h = Ch.neg h := by unfold Ch.pos; rw [if_pos sg]
              rw [e]
              exact ⟨p4, p5, upd_same, (same_upd ht2) _ _ (s5 _ _ e4), (same_upd ht2) _ _ e5⟩
            generalize upd H5 hd4 (.tup [.ref p4, .ref p5]) = H4' at *
            clear s4 np4 e4 s5 np5 e5 ht2 H4 H5 p4 p5
            rename Hp => H4
          case' neg =>
            rw [decide_eq_false sg]
            refine iteF ?_
            have s34 : Same H3 H3 := same_rfl
            have ph4 : PrAt H3 n N hd (Ch.pos i h) := by
              have e : Ch.pos i h = h := by unfold Ch.pos; rw [if_neg sg]
              rw [e]
              exact ⟨ra, ua, h1, h2, h3⟩
          all_goals (
            obtain ⟨rb, ub, g1, g2, g3⟩ := ph4
            have s24 := same_tr s3 s34
            refine ⟨_, rfl, S, rfl, ⟨_, SqL.of (s24 _ _ hS)⟩, fun D hD => lc_list (xs := Rz st.length rS) (fun j H' => Same _ H' ∧ WkAp H' D n N (Ch.eas i (Ch.pos i h) (st.take j))) ⟨same_upd hD, fun _ => 0, upd_same, fun k p e => by cases e⟩ (fun j H' _ p => SqL.of (p.1 _ _ (s24 _ _ hS))) (fun j x H' hx p => ?_) (fun H' p => ?_)⟩
            · have hj : j < st.length := by have := (List.getElem?_eq_some_iff.mp hx).1; rw [Rz_len] at this; exact this
              cases Option.some.inj ((Rz_get rS hj).symm.trans hx)
              obtain ⟨p0, ep⟩ := Ch.Ech.m hj
              obtain ⟨pa, pu, _, _, _, k1, k2, k3⟩ := zS j p0 ep
              obtain ⟨sD, r', eD, zD⟩ := p
              have sD2 := same_tr s24 sD
              have pb : Ch.Bp n N (Ch.tw 1900) p0 := (ls.st p0 (List.mem_of_getElem? ep)).mono (Ch.tw_le sb0)
              have nz : (Ch.pos i h).r i ≠ 0 := by omega
              have tle : ((p0.r i).fdiv ((Ch.pos i h).r i)).natAbs ≤ Ch.tw 1900 := Nat.le_trans (Ch.fd_le _ nz) (pb.1 i hi)
              refine ⟨rfl, _, rfl, _, rfl, _, rfl, rS j, _, _, _, rfl, rfl, SqT.of (sD2 _ _ k1), rfl, _, rfl, pa, _, _, _, rfl, rfl, SqL.of (sD2 _ _ k2), atI0 p0.r hi, _, rfl, _, _, _, _, rfl, rfl, SqT.of (sD _ _ g1), rfl, _, rfl, rb, _, _, _, rfl, rfl, SqL.of (sD _ _ g2), atI0 _ hi, _, _, rfl, rfl, ⟨nz, logT (hbd.1 i hi) (by omega)⟩, ?_⟩
              refine ⟨rS j, _, n, N, p0, Ch.pos i h, _, rfl, ⟨pa, pu, sD2 _ _ k1, sD2 _ _ k2, sD2 _ _ k3⟩, ⟨rb, ub, sD _ _ g1, sD _ _ g2, sD _ _ g3⟩, by omega, by omega, fun l hl => mulT tle (hbd.1 l hl) (by omega), fun l hl => mulT tle (hbd.2 l hl) (by omega), fun H6 q s6 nw => ?_⟩
              have eD6 := s6 _ _ eD
              have more := WkAp.more eD6 (fun k p e => (zD k p e).same s6) (nw.ap eD)
              have et : Ch.eas i (Ch.pos i h) (st.take (j + 1)) = Ch.eas i (Ch.pos i h) (st.take j) ++ [Ch.less p0 (Ch.pos i h) ((p0.r i).fdiv ((Ch.pos i h).r i))] := by
                unfold Ch.eas
                rw [List.take_add_one, ep, List.map_append]; rfl
              rw [← et] at more
              refine ⟨_, eD6, small (by rw [Rz_len]; unfold Ch.eas; rw [List.length_map, List.length_take]; omega), fun c z e => ?_, more⟩
              rw [upd_ne (ne_of_none e hD)]; exact s6 _ _ (sD _ _ e)
            · rw [Rz_len, List.take_length] at p
              obtain ⟨sD, r', eD, zD⟩ := p
              refine ⟨.ref D, rfl, .inl ⟨rfl, _, SqL.of eD⟩, _, rfl, D, _, _, rfl, rfl, eD, small (by rw [Rz_len]; unfold Ch.eas; rw [List.length_map]; omega), ?_⟩
              have more := WkAp.more eD zD (((show PrAt _ n N _ (Ch.pos i h) from ⟨rb, ub, g1, g2, g3⟩).ap hD).same sD)
              have sF : ∀ o, Same H2 (upd H' D o) := fun o c z e => by
                rw [upd_ne (ne_of_none (s24 _ _ e) hD)]; exact sD _ _ (s24 _ _ e)
              exact ⟨L, D, _, wk', _, _, _, _, _, rfl, same_tr s2 (sF _), wL.same (fun c z e => by rw [upd_ne (ne_of_none (s34 _ _ e) hD)]; exact sD _ _ (s34 _ _ e)), more, .succ lt (.take clr), lv', ls'⟩)
      · rintro σ H2 ⟨W, S, st, wk, u3, u6, u7, u8, u9, rfl, s2, ⟨rw_, hW, hPW⟩, sAp, lt, lv, ls⟩
        refine ⟨_, rfl, _, rfl, W, rfl, ⟨_, SqL.of hW⟩, fun D hD => lc_list (xs := Rz wk.length rw_) (fun i H' => Same H2 H' ∧ ∃ acc, H' D = some (.lst acc) ∧ acc.length = i) ⟨same_upd hD, _, upd_same, rfl⟩ (fun i H' _ p => SqL.of (p.1 _ _ hW)) (fun i x H' hx p => ?_) (fun H' p => ?_)⟩
        · have hi : i < wk.length := by have := (List.getElem?_eq_some_iff.mp hx).1; rw [Rz_len] at this; exact this
          cases Option.some.inj ((Rz_get rw_ hi).symm.trans hx)
          obtain ⟨p', ep⟩ := Ch.Ech.m hi
          obtain ⟨ra, ua, p1, p2, p3⟩ := hPW i p' ep
          obtain ⟨sD, acc, eD, la⟩ := p
          have len := lv.len
          rw [wl] at len
          simp at len
          refine ⟨rfl, _, rfl, rw_ i, _, _, _, rfl, rfl, SqT.of (sD _ _ p1), rfl, acc, eD, small (by omega), fun c z e => ?_, _, upd_same, by rw [List.length_append, la]; rfl⟩
          rw [upd_ne (ne_of_none e hD)]; exact sD _ _ e
        · obtain ⟨sD, acc, eD, la⟩ := p
          refine ⟨by show 2 ≤ sizeLine; decide, fun t ht => ?_⟩
          have st' : Same H2 (upd H' t (.tup [.ref S, .ref D])) := same_tr sD (same_upd ht)
          exact k _ t S D st wk (same_tr s2 st') upd_same (sAp.at_.same st') lt lv ls
end
end Cw

set_option maxRecDepth 100000
set_option maxHeartbeats 8000000
namespace Cw
open PySem L2
section
variable {P : Program} {w : World} {K : PySem.W.Frag} {mg : Str → Option Value} {base : Heap}
abbrev sByRows : Stmt := top 31
theorem scByRows : FnScope ["rows", "basket", "left", "times", "row", "at", "many"] ["rows", "basket"] (defScope sByRows) := ⟨rfl, rfl, rfl, by decide +kernel, rfl, by decide +kernel, by decide +kernel⟩
/-- a stair's rows as a list of lists -/
def StR (K : PySem.W.Frag) (H : Hp) (a : Addr) (n : Nat) (st : List Ch.Pr) : Prop := ∃ r : Nat → Addr, SqL K H a (Rz st.length r) ∧ Rows K H st.length n r (Ch.stM st)
theorem StR.same {H H' : Hp} {a : Addr} {n : Nat} {st : List Ch.Pr} (h : StR K H a n st) (s : Same H H') : StR K H' a n st := let ⟨r, h1, h2⟩ := h; ⟨r, s.seq h1, h2.same s⟩
def spByRows (K : PySem.W.Frag) : Sp := fun vs H Q _ => ∃ (a b : Addr) (n e f : Nat) (st : List Ch.Pr) (hp : Nat → Nat) (x : Nat → Int), vs = [.ref a, .ref b] ∧ StR K H a n st ∧ (SqL K H b (Lz n x) ∨ SqT K H b (Lz n x)) ∧ Ch.Ech st n hp ∧ n ≤ 100 ∧ st.length ≤ 100 ∧
  (∀ l, l < n → (x l).natAbs ≤ Ch.tw e) ∧ (∀ k l, k < st.length → l < n → (Ch.stM st k l).natAbs ≤ Ch.tw f) ∧ f ≤ 8000 ∧ e ≤ 100000 ∧
  ∀ H' t L D, Same H H' → H' t = some (.tup [.ref L, .ref D]) → H' L = some (.lst (Lz n (Ch.byR (Ch.stM st) hp x st.length))) → H' D = some (.lst (Lz st.length (Ch.tmR (Ch.stM st) hp x))) → Q (.ref t) H'
theorem ok_byRows {f : Addr} {fd : FuncData} (F : Fun K "by_rows" "by_rows" sByRows f fd) (mli : mg "list" = none) (cH : Cal P w K mg base "head_of" 1 ["row"] (spHead K)) (cT : Cal P w K mg base "taken" 1 ["row", "other", "times"] (spTaken K)) : FnOk P w K mg base CX0 2 f fd ["rows", "basket"] (spByRows K) := by
  obtain ⟨fH, fdH, GH, gH, kH, bH⟩ := cH
  obtain ⟨fT, fdT, GT, gT, kT, bT⟩ := cT
  refine F.ok scByRows (fun vs H Q E h => ?_) (fun cdv A outer s H vs Q E hr h => ?_)
  · obtain ⟨a, b, n, e, f, st, hp, x, rfl, _⟩ := h
    rfl
  · obtain ⟨a, b, n, e, f, st, hp, x, rfl, ⟨r, ha, hR⟩, hb, ech, hn, hm, hx, hf, f8, he, k⟩ := h
    refine ⟨_, pss_cons (ps_set (i := 2) scByRows.nd rfl (Or.inl rfl) (pe_callTy call_list_of (by rfl) mli (by decide +kernel) (pa_cons (pv 1) pa_nil)))
      (pss_cons (ps_set (i := 3) scByRows.nd rfl (Or.inl rfl) (pe_lst pa_nil))
      (pss_cons (ps_for PassesOwn.never rfl (pi_list (pv 0)) (pg_name (i := 4) scByRows.nd rfl (Or.inl rfl))
        (pss_cons (ps_set (i := 5) scByRows.nd rfl (Or.inl rfl) (pe_call GH hr rfl gH kH bH .nil pass0 (pa_cons (pv 4) pa_nil)))
        (pss_cons (ps_set (i := 6) scByRows.nd rfl (Or.inl rfl) (pe_op op_fdivZ (pe_ix ix_list (pv 2) (pv 5) (fun _ _ => rfl)) (pe_ix ix_list (pv 4) (pv 5) (fun _ _ => rfl))))
        (pss_cons (ps_set (i := 2) scByRows.nd rfl (Or.inl rfl) (pe_call GT hr rfl gT kT bT .nil pass0 (pa_cons (pv 2) (pa_cons (pv 4) (pa_cons (pv 6) pa_nil)))))
        (pss_one (ps_expr (pe_bm PySem.F.plainAttrs_list PySem.F.slot_list_append PySem.F.type_list_append mt_append (pv 3) (pa_cons (pv 6) pa_nil))))))))
      (pss_one (ps_ret (pe_tup (pa_cons (pv 2) (pa_cons (pv 3) pa_nil))))))), ?_⟩
    refine ⟨_, rfl, b, _, rfl, hb, fun L0 hL0 => ?_⟩
    have s0 : Same H (upd H L0 (.lst (Lz n x))) := same_upd hL0
    refine ⟨Nat.zero_le _, fun D hD => ?_⟩
    have s1 : Same H (upd (upd H L0 (.lst (Lz n x))) D (.lst [])) := same_tr s0 (same_upd hD)
    have hD0 : H D = none := s0.free hD
    have nLD : L0 ≠ D := ne_of_none upd_same hD
    refine ⟨_, rfl, a, rfl, ⟨_, s1.seq ha⟩, for_list (K := K) (a := a) (xs := Rz st.length r) (fun i σ H' => ∃ (L : Addr) (u4 u5 u6 : Option V), σ = [some (.ref a), some (.ref b), some (.ref L), some (.ref D), u4, u5, u6] ∧ Same H H' ∧ L ≠ D ∧ H L = none ∧ H' L = some (.lst (Lz n (Ch.byR (Ch.stM st) hp x i))) ∧ H' D = some (.lst (Lz i (Ch.tmR (Ch.stM st) hp x)))) ⟨L0, _, _, _, rfl, s1, nLD, hL0, by rw [upd_ne nLD]; exact upd_same, upd_same⟩ (fun i σ H' _ ⟨_, _, _, _, _, q, _⟩ => q.seq ha) ?_ ?_⟩
    · rintro i v σ H2 hv ⟨L, u4, u5, u6, rfl, s2, ne, nL, eL, eD⟩
      have hi : i < st.length := by have := (List.getElem?_eq_some_iff.mp hv).1; rw [Rz_len] at this; exact this
      cases Option.some.inj ((Rz_get r hi).symm.trans hv)
      have hpn := ech.lt i hi
      have hpos := ech.head hi
      obtain ⟨p, ep⟩ := Ch.Ech.m hi
      have bl := Ch.byR_le (n := n) (m := st.length) (e := e) (f := f) (H := Ch.stM st) (hp := hp) (x := x) hf hx (fun k hk => ⟨ech.lt k hk, by have := ech.head hk; omega⟩) i (Nat.le_of_lt hi)
      have im : i * (f + 1) ≤ 100 * 8001 := Nat.mul_le_mul (by omega) (by omega)
      refine ⟨_, rfl, r i, n, _, rfl, (hR.same s2) i hi, hn, fun kk hkk hz hnz => ?_⟩
      have ek : kk = hp i := by
        rcases Nat.lt_trichotomy kk (hp i) with c | c | c
        · exact absurd (by rw [Ch.stM_of ep]; exact ech.z i p kk ep c) (hnz (by omega))
        · exact c
        · have := hz _ c; omega
      subst ek
      refine ⟨_, rfl, _, rfl, L, _, _, _, rfl, rfl, SqL.of eL, atIz _ hpn, _, rfl, _, rfl, r i, _, _, _, rfl, rfl, (hR.same s2) i hi, atIz _ hpn, _, _, rfl, rfl, ⟨by omega, logT (hf i _ hi hpn) (by omega)⟩, ?_⟩
      refine ⟨_, rfl, _, rfl, _, rfl, L, r i, n, _, _, _, rfl, SqL.of eL, (hR.same s2) i hi, hn, fun l hl => mulT (bl.2 hi) (hf i l hi hl) (by omega), fun H3 p3 s3 np3 e3 => ?_⟩
      have ne3 : p3 ≠ D := (ne_of_none eD np3).symm
      refine ⟨_, rfl, .inl ⟨rfl, _, SqL.of (s3 _ _ eD)⟩, _, rfl, D, _, _, rfl, rfl, s3 _ _ eD, small (by rw [Lz_len]; omega), ?_⟩
      refine ⟨p3, _, _, _, rfl, fun c z e' => ?_, ne3, s2.free np3, by rw [upd_ne ne3]; exact e3, by rw [upd_same, Lz_succ]; rfl⟩
      rw [upd_ne (ne_of_none e' hD0)]; exact s3 _ _ (s2 _ _ e')
    · rintro σ H' ⟨L, u4, u5, u6, rfl, s2, ne, nL, eL, eD⟩
      rw [Rz_len] at eL eD
      refine ⟨_, rfl, _, rfl, by show 2 ≤ sizeLine; decide, fun t ht => ?_⟩
      have st' : Same H' (upd H' t (.tup [.ref L, .ref D])) := same_upd ht
      exact k _ t L D (same_tr s2 st') upd_same (st' _ _ eL) (st' _ _ eD)
end
end Cw

set_option maxRecDepth 100000
set_option maxHeartbeats 8000000
namespace Cw
open PySem L2
theorem WkAt.q {H : Hp} {l : Addr} {n N : Nat} {w : List Ch.Pr} (x : WkAt H l n N w) : ∃ (r q1 q2 : Nat → Addr), H l = some (.lst (Rz w.length r)) ∧ ∀ k p, w[k]? = some p → H (r k) = some (.tup [.ref (q1 k), .ref (q2 k)]) ∧ H (q1 k) = some (.lst (Lz n p.r)) ∧ H (q2 k) = some (.lst (Lz N p.u)) := by
  obtain ⟨r, h1, h2⟩ := x
  have : ∀ k, ∃ q : Addr × Addr, ∀ p, w[k]? = some p → H (r k) = some (.tup [.ref q.1, .ref q.2]) ∧ H q.1 = some (.lst (Lz n p.r)) ∧ H q.2 = some (.lst (Lz N p.u)) := fun k => by
    cases e : w[k]? with
    | none => exact ⟨(r k, r k), fun p h => by cases h⟩
    | some p =>
      obtain ⟨a, b, c⟩ := h2 k p e
      exact ⟨(a, b), fun p' h => by cases h; exact c⟩
  obtain ⟨f, hf⟩ := Classical.skolem.mp this
  exact ⟨r, fun k => (f k).1, fun k => (f k).2, h1, fun k p e => hf k p e⟩
section
variable {P : Program} {w : World} {K : PySem.W.Frag} {mg : Str → Option Value} {base : Heap}
abbrev sRowsOf : Stmt := top 32
theorem scRowsOf : FnScope ["kinds", "rows", "pair"] ["kinds", "rows"] (defScope sRowsOf) := ⟨rfl, rfl, rfl, by decide +kernel, rfl, by decide +kernel, by decide +kernel⟩
/-- what a stair's call gives -/
def StQ (K : PySem.W.Frag) (H : Hp) (Q : VK) (n N : Nat) (b : Nat → Nat → Int) (B : Nat) : Prop := ∀ H' p st wk, Same H H' → H' p ≠ none → H p = none → StR K H' p n st → Ch.LT (w0 b N) n (st, wk) → Ch.LV n N b (w0 b N) n (st, wk) → Ch.LSz n N B (st, wk) → Q (.ref p) H'
def spRowsOf (K : PySem.W.Frag) : Sp := fun vs H Q _ => ∃ (a : Addr) (n N : Nat) (b : Nat → Nat → Int) (B M : Nat), vs = [.int n, .ref a] ∧ Bills H a n N b ∧ HB n N b B M ∧ StQ K H Q n N b B
theorem ok_rowsOf {f : Addr} {fd : FuncData} (F : Fun K "rows_of" "rows_of" sRowsOf f fd) (cL : Cal P w K mg base "laid" 4 ["kinds", "rows"] spLaid) : FnOk P w K mg base CX0 5 f fd ["kinds", "rows"] (spRowsOf K) := by
  obtain ⟨fL, fdL, GL, gL, kL, bL⟩ := cL
  refine F.ok scRowsOf (fun vs H Q E h => ?_) (fun cdv A outer s H vs Q E hr h => ?_)
  · obtain ⟨a, n, N, b, B, M, rfl, _⟩ := h
    rfl
  · obtain ⟨a, n, N, b, B, M, rfl, hb, hB, k⟩ := h
    refine ⟨_, pss_one (ps_ret (pe_lc (own := [("pair", 2)]) (g := gName 2) (tt := tYes) (te := tOp (rIxT K) (tVar 2) (tC (.int 0))) (by rfl) scRowsOf.nd (pi_list (pe_ix ix_tup (pe_call GL hr rfl gL kL bL .nil pass0 (pa_cons (pv 0) (pa_cons (pv 1) pa_nil))) pe_int (fun _ _ => rfl))) (blkOk_by (own := [("pair", 2)]) (N := ["kinds", "rows", "pair"]) (sc := defScope sRowsOf) (by decide +kernel))
        (fun _ _ _ _ _ => pg_name (i := 2) scRowsOf.nd rfl (Or.inl rfl)) (fun _ _ _ _ _ => pts_nil) (fun _ _ _ _ _ => pe_ix ix_tup (pv 2) pe_int (fun _ _ => rfl)))), ?_⟩
    refine ⟨_, rfl, _, rfl, a, n, N, b, B, M, rfl, hb, hB, fun H1 t S U st wk s1 ht hS lt lv ls => ?_⟩
    obtain ⟨r, q1, q2, h1, h2⟩ := hS.q
    refine ⟨t, _, _, _, rfl, rfl, SqT.of ht, rfl, S, rfl, ⟨_, SqL.of h1⟩, fun D hD => lc_list (xs := Rz st.length r) (fun i H' => Same H1 H' ∧ H' D = some (.lst (Rz i q1))) ⟨same_upd hD, upd_same⟩ (fun i H' _ p => SqL.of (p.1 _ _ h1)) (fun i x H' hx p => ?_) (fun H' p => ?_)⟩
    · have hi : i < st.length := by have := (List.getElem?_eq_some_iff.mp hx).1; rw [Rz_len] at this; exact this
      cases Option.some.inj ((Rz_get r hi).symm.trans hx)
      obtain ⟨p', ep⟩ := Ch.Ech.m hi
      obtain ⟨e1, e2, e3⟩ := h2 i p' ep
      obtain ⟨hp, ech, _⟩ := lv.ech
      have : st.length ≤ n := ech.le
      have len := hB.1.n
      refine ⟨rfl, _, rfl, r i, _, _, _, rfl, rfl, SqT.of (p.1 _ _ e1), rfl, _, p.2, small (by rw [Rz_len]; omega), fun c z e => ?_, ?_⟩
      · rw [upd_ne (ne_of_none e hD)]; exact p.1 _ _ e
      · rw [upd_same, Rz_succ]
    · rw [Rz_len] at p
      refine k H' D st wk (same_tr s1 p.1) (by rw [p.2]; exact nofun) (s1.free hD) ⟨q1, SqL.of p.2, fun j hj => ?_⟩ lt lv ls
      obtain ⟨p', ep⟩ := Ch.Ech.m hj
      rw [Ch.stM_of ep]
      exact SqL.of (p.1 _ _ (h2 j p' ep).2.1)
abbrev sStair : Stmt := top 33
theorem scStair : FnScope ["hall"] ["hall"] (defScope sStair) := ⟨rfl, rfl, rfl, by decide +kernel, rfl, by decide +kernel, by decide +kernel⟩
def spStair (K : PySem.W.Frag) : Sp := fun vs H Q _ => ∃ (h : Addr) (n N : Nat) (b : Nat → Nat → Int) (B M : Nat), vs = [.ref h] ∧ Hall H h n N b ∧ HB n N b B M ∧ StQ K H Q n N b B
theorem ok_stair {f : Addr} {fd : FuncData} (F : Fun K "stair" "stair" sStair f fd) (cL : Cal P w K mg base "rows_of" 5 ["kinds", "rows"] (spRowsOf K)) : FnOk P w K mg base CX0 6 f fd ["hall"] (spStair K) := by
  obtain ⟨fL, fdL, GL, gL, kL, bL⟩ := cL
  refine F.ok scStair (fun vs H Q E h => ?_) (fun cdv A outer s H vs Q E hr h => ?_)
  · obtain ⟨a, n, N, b, B, M, rfl, _⟩ := h
    rfl
  · obtain ⟨h, n, N, b, B, M, rfl, ⟨n1, n6, N8, a, r, hh, hb, hR⟩, hB, k⟩ := h
    refine ⟨_, pss_one (ps_ret (pe_call GL hr rfl gL kL bL .nil pass0 (pa_cons (pe_ix ix_tup (pv 0) pe_int (fun _ _ => rfl)) (pa_cons (pe_ix ix_tup (pv 0) pe_int (fun _ _ => rfl)) pa_nil)))), ?_⟩
    refine ⟨_, rfl, h, _, _, _, rfl, rfl, SqT.of hh, rfl, _, rfl, h, _, _, _, rfl, rfl, SqT.of hh, rfl, a, n, N, b, B, M, rfl, ⟨r, hb, hR⟩, hB, k⟩
end
end Cw

set_option maxRecDepth 100000
set_option maxHeartbeats 8000000
namespace Cw
open PySem L2
/-- the uses found lead to the basket -/
theorem uses_lead {n N : Nat} {b : Nat → Nat → Int} {w0 : List Ch.Pr} {st wk : List Ch.Pr} {hp : Nat → Nat} {g : Nat → Int} {U : Nat → Nat → Int} (lv : Ch.LV n N b w0 n (st, wk)) (hU : ∀ k p, st[k]? = some p → U k = p.u) (z : ∀ l, l < n → Ch.byR (Ch.stM st) hp g st.length l = 0) :
    ∀ l, l < n → g l = Ch.sm N fun i => mixF U (Ch.tmR (Ch.stM st) hp g) st.length i * b i l := fun l hl => by
  have h := Ch.byR_sum (Ch.stM st) hp g l st.length
  rw [z l hl, Int.zero_add] at h
  rw [h]
  have e1 : ∀ k, k < st.length → Ch.tmR (Ch.stM st) hp g k * Ch.stM st k l = Ch.sm N fun i => Ch.tmR (Ch.stM st) hp g k * (U k i * b i l) := fun k hk => by
    obtain ⟨p, ep⟩ := Ch.Ech.m hk
    rw [Ch.sm_mul, Ch.stM_of ep, lv.good p (Or.inl (List.mem_of_getElem? ep)) l hl, hU k p ep]
  rw [Ch.sm_congr e1, Ch.sm_swap]
  refine Ch.sm_congr fun i _ => ?_
  rw [mixF_sm, ← Ch.sm_mulr]
  exact Ch.sm_congr fun k _ => by rw [Int.mul_assoc]
theorem mix_le {U : Nat → Nat → Int} {t : Nat → Int} {m a c i : Nat} (hm : m ≤ 6) (ht : ∀ k, k < m → (t k).natAbs ≤ Ch.tw a) (hU : ∀ k, k < m → (U k i).natAbs ≤ Ch.tw c) : ∀ k, k ≤ m → a + c + 6 ≤ 200000 → (mixF U t k i).natAbs ≤ Ch.tw 200000 := by
  have key : ∀ k, k ≤ m → (mixF U t k i).natAbs ≤ k * Ch.tw (a + c) := by
    intro k
    induction k with
    | zero => intro _; show (0 : Int).natAbs ≤ _; simp
    | succ k ih =>
      intro hk
      have h1 := ih (by omega)
      have h2 := Ch.nab_mul_le (a := - t k) (b := U k i) (x := Ch.tw a) (y := Ch.tw c) (by rw [Int.natAbs_neg]; exact ht k hk) (hU k hk)
      rw [Ch.tw_mul] at h2
      have e : (k + 1) * Ch.tw (a + c) = k * Ch.tw (a + c) + Ch.tw (a + c) := by rw [Nat.add_mul, Nat.one_mul]
      show (mixF U t k i - (- t k) * U k i).natAbs ≤ _
      omega
  intro k hk h
  refine Nat.le_trans (key k hk) (Nat.le_trans (Nat.mul_le_mul_right _ (show k ≤ 8 by omega)) ?_)
  rw [show (8 : Nat) * Ch.tw (a + c) = Ch.tw (a + c + 3) by rw [Ch.tw_succ, Ch.tw_succ, Ch.tw_succ]; omega]
  exact Ch.tw_le (by omega)
section
variable {P : Program} {w : World} {K : PySem.W.Frag} {mg : Str → Option Value} {base : Heap}
abbrev sUses : Stmt := top 45
theorem scUses : FnScope ["kinds", "rows", "basket", "pairs", "pair", "found"] ["kinds", "rows", "basket"] (defScope sUses) := ⟨rfl, rfl, rfl, by decide +kernel, rfl, by decide +kernel, by decide +kernel⟩
/-- the end of a search for uses -/
def UsE (H : Hp) (Q : VK) (n N : Nat) (b : Nat → Nat → Int) (B : Nat) (g : Nat → Int) : Prop :=
  (∀ H' st wk, Same H H' → Ch.LT (w0 b N) n (st, wk) → Ch.LV n N b (w0 b N) n (st, wk) → Ch.LSz n N B (st, wk) → ¬ Ch.Span (Ch.stM st) st.length n g → Q .non H') ∧
  ∀ H' p st wk u, Same H H' → H p = none → H' p = some (.lst (Lz N u)) → Ch.LT (w0 b N) n (st, wk) → Ch.LV n N b (w0 b N) n (st, wk) → Ch.LSz n N B (st, wk) → Ch.Span (Ch.stM st) st.length n g → (∀ l, l < n → g l = Ch.sm N fun i => u i * b i l) → (∀ i, i < N → (u i).natAbs ≤ Ch.tw 200000) → Q (.ref p) H'
def spUses (K : PySem.W.Frag) : Sp := fun vs H Q _ => ∃ (a x : Addr) (n N : Nat) (b : Nat → Nat → Int) (B M e : Nat) (g : Nat → Int), vs = [.int n, .ref a, .ref x] ∧ Bills H a n N b ∧ HB n N b B M ∧ SqL K H x (Lz n g) ∧ (∀ l, l < n → (g l).natAbs ≤ Ch.tw e) ∧ e ≤ 100000 ∧ UsE H Q n N b B g
theorem ok_uses {f : Addr} {fd : FuncData} (F : Fun K "uses_for" "uses_for" sUses f fd) (ml : mg "len" = none) (cL : Cal P w K mg base "laid" 4 ["kinds", "rows"] spLaid) (cB : Cal P w K mg base "by_rows" 2 ["rows", "basket"] (spByRows K)) (cN : Cal P w K mg base "is_nought" 2 ["row"] (spIsN K)) (cM : Cal P w K mg base "mixed" 2 ["size", "rows", "times"] (spMixed K)) : FnOk P w K mg base CX0 5 f fd ["kinds", "rows", "basket"] (spUses K) := by
  obtain ⟨fL, fdL, GL, gL, kL, bL⟩ := cL
  obtain ⟨fB, fdB, GB, gB, kB, bB⟩ := cB
  obtain ⟨fN, fdN, GN, gN, kN, bN⟩ := cN
  obtain ⟨fM, fdM, GM, gM, kM, bM⟩ := cM
  refine F.ok scUses (fun vs H Q E h => ?_) (fun cdv A outer s H vs Q E hr h => ?_)
  · obtain ⟨a, x, n, N, b, B, M, e, g, rfl, _⟩ := h
    rfl
  · obtain ⟨a, x, n, N, b, B, M, e, g, rfl, hb, hB, hx, hg, he, kn, ks⟩ := h
    have hr2 : Room 2 _ := hr.mono (by decide)
    refine ⟨_, pss_cons (ps_set (i := 3) scUses.nd rfl (Or.inl rfl) (pe_ix ix_tup (pe_call GL hr rfl gL kL bL .nil pass0 (pa_cons (pv 0) (pa_cons (pv 1) pa_nil))) pe_int (fun _ _ => rfl)))
      (pss_cons (ps_set (i := 5) scUses.nd rfl (Or.inl rfl) (pe_call GB hr2 rfl gB kB bB .nil pass0 (pa_cons
        (pe_lc (own := [("pair", 4)]) (g := gName 4) (tt := tYes) (te := tOp (rIxT K) (tVar 4) (tC (.int 0))) (by rfl) scUses.nd (pi_list (pv 3)) (blkOk_by (own := [("pair", 4)]) (N := ["kinds", "rows", "basket", "pairs", "pair", "found"]) (sc := defScope sUses) (by decide +kernel)) (fun _ _ _ _ _ => pg_name (i := 4) scUses.nd rfl (Or.inl rfl)) (fun _ _ _ _ _ => pts_nil) (fun _ _ _ _ _ => pe_ix ix_tup (pv 4) pe_int (fun _ _ => rfl)))
        (pa_cons (pv 2) pa_nil))))
      (pss_cons (ps_if (pt_not (pt_val (pe_call GN hr2 rfl gN kN bN .nil pass0 (pa_cons (pe_ix ix_tup (pv 5) pe_int (fun _ _ => rfl)) pa_nil)))) (pss_one (ps_ret pe_non)) pss_nil)
      (pss_one (ps_ret (pe_call GM hr2 rfl gM kM bM .nil pass0 (pa_cons (pe_callB call_len_seq (by rfl) ml PySem.boot_len (pa_cons (pv 1) pa_nil)) (pa_cons
        (pe_lc (own := [("pair", 4)]) (g := gName 4) (tt := tYes) (te := tOp (rIxT K) (tVar 4) (tC (.int 1))) (by rfl) scUses.nd (pi_list (pv 3)) (blkOk_by (own := [("pair", 4)]) (N := ["kinds", "rows", "basket", "pairs", "pair", "found"]) (sc := defScope sUses) (by decide +kernel)) (fun _ _ _ _ _ => pg_name (i := 4) scUses.nd rfl (Or.inl rfl)) (fun _ _ _ _ _ => pts_nil) (fun _ _ _ _ _ => pe_ix ix_tup (pv 4) pe_int (fun _ _ => rfl)))
        (pa_cons (pe_ix ix_tup (pv 5) pe_int (fun _ _ => rfl)) pa_nil)))))))), ?_⟩
    refine ⟨_, rfl, _, rfl, a, n, N, b, B, M, rfl, hb, hB, fun H1 t S U st wk s1 ht hS lt lv ls => ?_⟩
    obtain ⟨r, q1, q2, h1, h2⟩ := hS.q
    obtain ⟨hp, ech, _⟩ := lv.ech
    replace ech : Ch.Ech st n hp := ech
    have hk := hB.1
    have n6 := hk.n
    have N8 := hk.N
    have sn : st.length ≤ n := ech.le
    have len := lv.len
    rw [w0_len] at len
    simp only at len
    have sbl := sb_le hk st.length sn (by omega)
    have hf : ∀ k l, k < st.length → l < n → (Ch.stM st k l).natAbs ≤ Ch.tw 1900 := fun k l hk' hl => by
      obtain ⟨p, ep⟩ := Ch.Ech.m hk'
      rw [Ch.stM_of ep]
      exact Nat.le_trans ((ls.st p (List.mem_of_getElem? ep)).1 l hl) (Ch.tw_le sbl)
    refine ⟨t, _, _, _, rfl, rfl, SqT.of ht, rfl, _, rfl, S, rfl, ⟨_, SqL.of h1⟩, fun D hD => lc_list (xs := Rz st.length r) (fun i H' => Same H1 H' ∧ H' D = some (.lst (Rz i q1))) ⟨same_upd hD, upd_same⟩ (fun i H' _ p => SqL.of (p.1 _ _ h1)) (fun i v H' hv p => ?_) (fun H2 p => ?_)⟩
    · have hi : i < st.length := by have := (List.getElem?_eq_some_iff.mp hv).1; rw [Rz_len] at this; exact this
      cases Option.some.inj ((Rz_get r hi).symm.trans hv)
      obtain ⟨p', ep⟩ := Ch.Ech.m hi
      obtain ⟨e1, e2, e3⟩ := h2 i p' ep
      refine ⟨rfl, _, rfl, r i, _, _, _, rfl, rfl, SqT.of (p.1 _ _ e1), rfl, _, p.2, small (by rw [Rz_len]; omega), fun c z e => ?_, ?_⟩
      · rw [upd_ne (ne_of_none e hD)]; exact p.1 _ _ e
      · rw [upd_same, Rz_succ]
    · rw [Rz_len] at p
      obtain ⟨s2, eD⟩ := p
      have s12 := same_tr s1 s2
      refine ⟨_, rfl, D, x, n, e, 1900, st, hp, g, rfl, ⟨q1, SqL.of eD, fun j hj => ?_⟩, .inl (s12.seq hx), ech, by omega, by omega, hg, hf, by omega, he, fun H3 t3 L D3 s3 e3 eL eD3 => ?_⟩
      · obtain ⟨p', ep⟩ := Ch.Ech.m hj
        rw [Ch.stM_of ep]
        exact SqL.of (s2 _ _ (h2 j p' ep).2.1)
      have s13 := same_tr s12 s3
      have s23 := same_tr s2 s3
      refine ⟨_, rfl, t3, _, _, _, rfl, rfl, SqT.of e3, rfl, L, n, _, rfl, SqL.of eL, by omega, fun c hc => ?_⟩
      by_cases z : ∀ l, l < n → Ch.byR (Ch.stM st) hp g st.length l = 0
      · rw [hc.mpr z]
        refine ⟨_, rfl, iteF ?_⟩
        have sp : Ch.Span (Ch.stM st) st.length n g := Ch.span_byR z
        obtain ⟨rr, hA, hR⟩ := hb
        refine ⟨_, rfl, a, _, rfl, .inr (SqT.of (s13 _ _ hA)), ?_⟩
        rw [Rz_len]
        refine ⟨_, rfl, S, rfl, ⟨_, SqL.of (s23 _ _ h1)⟩, fun D2 hD2 => lc_list (xs := Rz st.length r) (fun i H' => Same H3 H' ∧ H' D2 = some (.lst (Rz i q2))) ⟨same_upd hD2, upd_same⟩ (fun i H' _ p => SqL.of (p.1 _ _ (s23 _ _ h1))) (fun i v H' hv p => ?_) (fun H4 p => ?_)⟩
        · have hi : i < st.length := by have := (List.getElem?_eq_some_iff.mp hv).1; rw [Rz_len] at this; exact this
          cases Option.some.inj ((Rz_get r hi).symm.trans hv)
          obtain ⟨p', ep⟩ := Ch.Ech.m hi
          obtain ⟨e1, e2, e3⟩ := h2 i p' ep
          refine ⟨rfl, _, rfl, r i, _, _, _, rfl, rfl, SqT.of (p.1 _ _ (s23 _ _ e1)), rfl, _, p.2, small (by rw [Rz_len]; omega), fun c z e => ?_, ?_⟩
          · rw [upd_ne (ne_of_none e hD2)]; exact p.1 _ _ e
          · rw [upd_same, Rz_succ]
        · rw [Rz_len] at p
          obtain ⟨s4, eD2⟩ := p
          have s24 := same_tr s23 s4
          have uU : ∀ k p, st[k]? = some p → (fun k => (st.getD k Ch.zPr).u) k = p.u := fun k p ep => by
            show (st.getD k Ch.zPr).u = p.u
            rw [List.getD_eq_getElem?_getD, ep]; rfl
          refine ⟨_, rfl, t3, _, _, _, rfl, rfl, SqT.of (s4 _ _ e3), rfl, D2, D3, N, st.length, q2, fun k => (st.getD k Ch.zPr).u, Ch.tmR (Ch.stM st) hp g, rfl, SqL.of eD2, fun k hk' => ?_, SqL.of (s4 _ _ eD3), by omega, fun k l hk' hl => ?_, fun H5 p5 s5 np5 e5 => ?_⟩
          · obtain ⟨p', ep⟩ := Ch.Ech.m hk'
            rw [uU k p' ep]
            exact SqL.of (s24 _ _ (h2 k p' ep).2.2)
          · obtain ⟨p', ep⟩ := Ch.Ech.m hk'
            have bl := Ch.byR_le (n := n) (m := st.length) (e := e) (f := 1900) (H := Ch.stM st) (hp := hp) (x := g) hf hg (fun k hk => ⟨ech.lt k hk, by have := ech.head hk; omega⟩) k (Nat.le_of_lt hk')
            have im : k * (1900 + 1) ≤ 6 * 1901 := Nat.mul_le_mul (by omega) (by omega)
            have ub := (ls.st p' (List.mem_of_getElem? ep)).2 l hl
            rw [← uU k p' ep] at ub
            have tb := bl.2 hk'
            exact mulT (by rw [Int.natAbs_neg]; exact tb) (Nat.le_trans ub (Ch.tw_le sbl)) (by omega)
          · refine ks H5 p5 st wk _ (same_tr s13 (same_tr s4 s5)) ((same_tr s13 s4).free np5) e5 lt lv ls sp (uses_lead lv uU z) (fun i hi => mix_le (a := e + 11406) (c := 1900) (m := st.length) (by omega) (fun k hk' => ?_) (fun k hk' => ?_) st.length (Nat.le_refl _) (by omega))
            · have bl := Ch.byR_le (n := n) (m := st.length) (e := e) (f := 1900) (H := Ch.stM st) (hp := hp) (x := g) hf hg (fun k hk => ⟨ech.lt k hk, by have := ech.head hk; omega⟩) k (Nat.le_of_lt hk')
              have im : k * (1900 + 1) ≤ 6 * 1901 := Nat.mul_le_mul (by omega) (by omega)
              exact Nat.le_trans (bl.2 hk') (Ch.tw_le (by omega))
            · obtain ⟨p', ep⟩ := Ch.Ech.m hk'
              have ub := (ls.st p' (List.mem_of_getElem? ep)).2 i hi
              rw [← uU k p' ep] at ub
              exact Nat.le_trans ub (Ch.tw_le sbl)
      · rw [Bool.eq_false_iff.mpr fun q => z (hc.mp q)]
        refine ⟨_, rfl, iteT ?_⟩
        exact kn H3 st wk s13 lt lv ls fun sp => z (Ch.byR_span ech sp)
end
end Cw

set_option maxRecDepth 100000
set_option maxHeartbeats 8000000
namespace Cw
open PySem L2
theorem UsE.same {H H' : Hp} {Q : VK} {n N : Nat} {b : Nat → Nat → Int} {B : Nat} {g : Nat → Int} (h : UsE H Q n N b B g) (s : Same H H') : UsE H' Q n N b B g :=
  ⟨fun H2 st wk s2 a c d e => h.1 H2 st wk (same_tr s s2) a c d e, fun H2 p st wk u s2 np e a c d f i => h.2 H2 p st wk u (same_tr s s2) (s.free np) e a c d f i⟩
/-- the head of a stair's row, as head_of finds it -/
theorem head_eq {st : List Ch.Pr} {n : Nat} {hp : Nat → Nat} (ech : Ch.Ech st n hp) {i kk : Nat} (hi : i < st.length) (hz : ∀ j, j < kk → Ch.stM st i j = 0) (hk : kk ≤ n) (hnz : kk < n → Ch.stM st i kk ≠ 0) : kk = hp i := by
  obtain ⟨p, ep⟩ := Ch.Ech.m hi
  have hpn := ech.lt i hi
  have hpos := ech.head hi
  rcases Nat.lt_trichotomy kk (hp i) with c | c | c
  · exact absurd (by rw [Ch.stM_of ep]; exact ech.z i p kk ep c) (hnz (by omega))
  · exact c
  · have := hz _ c; omega
section
variable {P : Program} {w : World} {K : PySem.W.Frag} {mg : Str → Option Value} {base : Heap}
abbrev sPlan : Stmt := top 46
theorem scPlan : FnScope ["hall", "one", "other"] ["hall", "one", "other"] (defScope sPlan) := ⟨rfl, rfl, rfl, by decide +kernel, rfl, by decide +kernel, by decide +kernel⟩
def spPlan : Sp := fun vs H Q _ => ∃ (h a c : Addr) (n N : Nat) (b : Nat → Nat → Int) (B M e : Nat) (f g : Nat → Int), vs = [.ref h, .ref a, .ref c] ∧ Hall H h n N b ∧ HB n N b B M ∧ H a = some (.lst (Lz n f)) ∧ H c = some (.lst (Lz n g)) ∧ (∀ l, l < n → (g l - 1 * f l).natAbs ≤ Ch.tw e) ∧ e ≤ 100000 ∧ UsE H Q n N b B fun l => g l - 1 * f l
theorem ok_plan {f : Addr} {fd : FuncData} (F : Fun K "plan" "plan" sPlan f fd) (cU : Cal P w K mg base "uses_for" 5 ["kinds", "rows", "basket"] (spUses K)) (cA : Cal P w K mg base "apart" 4 ["hall", "one", "other"] spApart) : FnOk P w K mg base CX0 6 f fd ["hall", "one", "other"] spPlan := by
  obtain ⟨fU, fdU, GU, gU, kU, bU⟩ := cU
  obtain ⟨fA, fdA, GA, gA, kA, bA⟩ := cA
  refine F.ok scPlan (fun vs H Q E h => ?_) (fun cdv A outer s H vs Q E hr h => ?_)
  · obtain ⟨h, a, c, n, N, b, B, M, e, f, g, rfl, _⟩ := h
    rfl
  · obtain ⟨h, a, c, n, N, b, B, M, e, f, g, rfl, hl, hB, ha, hc, hg, he, k⟩ := h
    have hr4 : Room 4 _ := hr.mono (by decide)
    refine ⟨_, pss_one (ps_ret (pe_call GU hr rfl gU kU bU .nil pass0 (pa_cons (pe_ix ix_tup (pv 0) pe_int (fun _ _ => rfl)) (pa_cons (pe_ix ix_tup (pv 0) pe_int (fun _ _ => rfl)) (pa_cons (pe_call GA hr4 rfl gA kA bA .nil pass0 (pa_cons (pv 0) (pa_cons (pv 1) (pa_cons (pv 2) pa_nil)))) pa_nil))))), ?_⟩
    obtain ⟨tb, r, hh, hb, hR⟩ := hl.at_
    refine ⟨_, rfl, h, _, _, _, rfl, rfl, SqT.of hh, rfl, _, rfl, h, _, _, _, rfl, rfl, SqT.of hh, rfl, _, rfl, _, rfl, _, rfl, h, a, c, n, N, b, f, g, rfl, hl, ha, hc, fun H1 p s1 np e1 => ?_⟩
    exact ⟨tb, p, n, N, b, B, M, e, _, rfl, ⟨r, s1 _ _ hb, fun i hi => s1 _ _ (hR i hi)⟩, hB, SqL.of e1, hg, he, k.same s1⟩
abbrev sLies : Stmt := top 40
theorem scLies : FnScope ["rows", "stairs", "row"] ["rows", "stairs"] (defScope sLies) := ⟨rfl, rfl, rfl, by decide +kernel, rfl, by decide +kernel, by decide +kernel⟩
def spLies (K : PySem.W.Frag) : Sp := fun vs H Q _ => ∃ (a s : Addr) (n N e f : Nat) (b : Nat → Nat → Int) (st : List Ch.Pr) (hp : Nat → Nat), vs = [.ref a, .ref s] ∧ Bills H a n N b ∧ StR K H s n st ∧ Ch.Ech st n hp ∧ n ≤ 100 ∧ N ≤ 100 ∧ st.length ≤ 100 ∧
  (∀ i l, i < N → l < n → (b i l).natAbs ≤ Ch.tw e) ∧ (∀ k l, k < st.length → l < n → (Ch.stM st k l).natAbs ≤ Ch.tw f) ∧ f ≤ 8000 ∧ e ≤ 100000 ∧
  ∀ H' (c : Bool), Same H H' → (c = true ↔ ∀ i, i < N → Ch.Span (Ch.stM st) st.length n (b i)) → Q (.bl c) H'
theorem ok_lies {f : Addr} {fd : FuncData} (F : Fun K "lies_in" "lies_in" sLies f fd) (cB : Cal P w K mg base "by_rows" 2 ["rows", "basket"] (spByRows K)) (cN : Cal P w K mg base "is_nought" 2 ["row"] (spIsN K)) : FnOk P w K mg base CX0 3 f fd ["rows", "stairs"] (spLies K) := by
  obtain ⟨fB, fdB, GB, gB, kB, bB⟩ := cB
  obtain ⟨fN, fdN, GN, gN, kN, bN⟩ := cN
  refine F.ok scLies (fun vs H Q E h => ?_) (fun cdv A outer s H vs Q E hr h => ?_)
  · obtain ⟨a, s, n, N, e, f, b, st, hp, rfl, _⟩ := h
    rfl
  · obtain ⟨a, s, n, N, e, f, b, st, hp, rfl, ⟨r, hA, hR⟩, hS, ech, hn, hN, hm, hb, hf, f8, he, k⟩ := h
    refine ⟨_, pss_cons (ps_for PassesOwn.never rfl (pi_tup (pv 0)) (pg_name (i := 2) scLies.nd rfl (Or.inl rfl))
        (pss_one (ps_if (pt_not (pt_val (pe_call GN hr rfl gN kN bN .nil pass0 (pa_cons (pe_ix ix_tup (pe_call GB hr rfl gB kB bB .nil pass0 (pa_cons (pv 1) (pa_cons (pv 2) pa_nil))) pe_int (fun _ _ => rfl)) pa_nil)))) (pss_one (ps_ret pe_bl)) pss_nil)))
      (pss_one (ps_ret pe_bl)), ?_⟩
    refine ⟨_, rfl, a, rfl, ⟨_, SqT.of hA⟩, for_tup (K := K) (a := a) (xs := Rz N r) (fun i σ H' => ∃ u, σ = [some (.ref a), some (.ref s), u] ∧ Same H H' ∧ ∀ j, j < i → Ch.Span (Ch.stM st) st.length n (b j)) ⟨none, rfl, same_rfl, fun j hj => absurd hj (Nat.not_lt_zero _)⟩ (fun i σ H' _ ⟨_, _, q, _⟩ => SqT.of (q _ _ hA)) ?_ ?_⟩
    · rintro i v σ H2 hv ⟨u, rfl, s2, al⟩
      have hi : i < N := by have := (List.getElem?_eq_some_iff.mp hv).1; rw [Rz_len] at this; exact this
      cases Option.some.inj ((Rz_get r hi).symm.trans hv)
      refine ⟨_, rfl, _, rfl, s, r i, n, e, f, st, hp, b i, rfl, hS.same s2, .inr (SqT.of (s2 _ _ (hR i hi))), ech, hn, hm, fun l hl => hb i l hi hl, hf, f8, he, fun H3 t L D s3 e3 eL eD => ?_⟩
      refine ⟨t, _, _, _, rfl, rfl, SqT.of e3, rfl, L, n, _, rfl, SqL.of eL, hn, fun c hc => ?_⟩
      by_cases z : ∀ l, l < n → Ch.byR (Ch.stM st) hp (b i) st.length l = 0
      · rw [hc.mpr z]
        refine ⟨_, rfl, iteF ⟨_, rfl, same_tr s2 s3, fun j hj => ?_⟩⟩
        rcases Nat.lt_or_ge j i with c' | c'
        · exact al j c'
        · obtain rfl : j = i := by omega
          exact Ch.span_byR z
      · rw [Bool.eq_false_iff.mpr fun q => z (hc.mp q)]
        refine ⟨_, rfl, iteT ?_⟩
        exact k H3 false (same_tr s2 s3) ⟨(fun q => by cases q), fun q => absurd (Ch.byR_span ech (q i hi)) z⟩
    · rintro σ H' ⟨u, rfl, s2, al⟩
      rw [Rz_len] at al
      exact k H' true s2 ⟨fun _ => al, fun _ => rfl⟩
end
end Cw

set_option maxRecDepth 100000
set_option maxHeartbeats 8000000
namespace Cw
open PySem L2
theorem set_sw {n i j : Nat} (f : Nat → V) (hi : i < n) (hj : j < n) : (((List.range n).map f).set i (f j)).set j (f i) = (List.range n).map fun k => f (Ch.sw i j k) := by
  refine List.ext_getElem (by simp) fun k h1 h2 => ?_
  simp only [List.getElem_set, List.getElem_map, List.getElem_range]
  unfold Ch.sw
  by_cases a : j = k
  · subst a
    rw [if_pos rfl]
    by_cases b : j = i
    · rw [if_pos b, b]
    · rw [if_neg b, if_pos rfl]
  · rw [if_neg a]
    by_cases b : i = k
    · rw [if_pos b, if_pos b.symm]
    · rw [if_neg b, if_neg (fun q => b q.symm), if_neg (fun q => a q.symm)]
theorem ixn {n i : Nat} (h : i < n) : ixN n (i : Int) = some i := by
  unfold ixN
  rw [if_pos (Int.natCast_nonneg _), if_pos (by omega), Int.toNat_natCast]
theorem ixr {n i : Nat} {f : Nat → V} (h : i < n) : ixN ((List.range n).map f).length (i : Int) = some i := by
  rw [List.length_map, List.length_range]; exact ixn h
theorem gir {n q : Nat} {f : Nat → V} (hq : q < n) : atI ((List.range n).map f) (q : Int) = some (f q) := atI_nat (by rw [List.getElem?_map, List.getElem?_range hq]; rfl)
theorem upd_upd {H : Hp} {p : Addr} {a b : HO} : upd (upd H p a) p b = upd H p b := by
  funext q
  by_cases c : q = p
  · subst c; rw [upd_same, upd_same]
  · rw [upd_ne c, upd_ne c, upd_ne c]
theorem set_one {n i : Nat} (f : Nat → V) (x : V) : ((List.range n).map f).set i x = (List.range n).map fun k => if k = i then x else f k := by
  refine List.ext_getElem (by simp) fun k h1 h2 => ?_
  simp only [List.getElem_set, List.getElem_map, List.getElem_range]
  by_cases a : i = k
  · rw [if_pos a, if_pos a.symm]
  · rw [if_neg a, if_neg fun q => a q.symm]
theorem Lz_set {n i : Nat} (f : Nat → Int) (x : Int) : (Lz n f).set i (.int x) = Lz n fun k => if k = i then x else f k := by
  unfold Lz
  rw [set_one]
  exact List.map_congr_left fun k _ => by dsimp only; split <;> rfl
theorem Rz_set {n i : Nat} (f : Nat → Addr) (x : Addr) : (Rz n f).set i (.ref x) = Rz n fun k => if k = i then x else f k := by
  unfold Rz
  rw [set_one]
  exact List.map_congr_left fun k _ => by dsimp only; split <;> rfl
section
variable {P : Program} {w : World} {K : PySem.W.Frag} {mg : Str → Option Value} {base : Heap}
abbrev sSwapped : Stmt := top 49
theorem scSwapped : FnScope ["row", "one", "other", "made"] ["row", "one", "other"] (defScope sSwapped) := ⟨rfl, rfl, rfl, by decide +kernel, rfl, by decide +kernel, by decide +kernel⟩
/-- a list of n things, two of them changed -/
def spSwapped (K : PySem.W.Frag) : Sp := fun vs H Q _ => ∃ (a : Addr) (n i j : Nat) (f : Nat → V), vs = [.ref a, .int i, .int j] ∧ SqL K H a ((List.range n).map f) ∧ i < n ∧ j < n ∧ n ≤ 100 ∧
  ∀ H' p, Same H H' → H p = none → H' p = some (.lst ((List.range n).map fun k => f (Ch.sw i j k))) → Q (.ref p) H'
theorem ok_swapped {f : Addr} {fd : FuncData} (F : Fun K "swapped" "swapped" sSwapped f fd) (mli : mg "list" = none) : FnOk P w K mg base CX0 1 f fd ["row", "one", "other"] (spSwapped K) := by
  refine F.ok scSwapped (fun vs H Q E h => ?_) (fun cdv A outer s H vs Q E hr h => ?_)
  · obtain ⟨a, n, i, j, f, rfl, _⟩ := h
    rfl
  · obtain ⟨a, n, i, j, f, rfl, ha, hi, hj, hn, k⟩ := h
    refine ⟨_, pss_cons (ps_set (i := 3) scSwapped.nd rfl (Or.inl rfl) (pe_callTy call_list_of (by rfl) mli (by decide +kernel) (pa_cons (pv 0) pa_nil)))
      (pss_cons (ps_asg (pe_ix ix_list (pv 0) (pv 2) (fun _ _ => rfl)) (pg_sub (pv 3) (pv 1) set_list))
      (pss_cons (ps_asg (pe_ix ix_list (pv 0) (pv 1) (fun _ _ => rfl)) (pg_sub (pv 3) (pv 2) set_list))
      (pss_one (ps_ret (pv 3))))), ?_⟩
    refine ⟨_, rfl, a, _, rfl, .inl ha, fun p hp => ?_⟩
    have s1 : Same H (upd H p (.lst ((List.range n).map f))) := same_upd hp
    have hs : ∀ o, Same H (upd H p o) := fun o => same_upd hp
    refine ⟨_, rfl, _, rfl, a, _, _, _, rfl, rfl, s1.seq ha, gir hj, _, rfl, _, rfl, p, _, _, i, rfl, rfl, upd_same, ixr hi, ?_⟩
    rw [upd_upd]
    refine ⟨_, rfl, _, rfl, a, _, _, _, rfl, rfl, (hs _).seq ha, gir hi, _, rfl, _, rfl, p, _, _, j, rfl, rfl, upd_same, by rw [List.length_set]; exact ixr hj, ?_⟩
    rw [upd_upd, set_sw f hi hj]
    exact ⟨_, rfl, k _ p (hs _) hp upd_same⟩
abbrev sEased : Stmt := top 50
theorem scEased : FnScope ["row", "place", "other", "times", "made"] ["row", "place", "other", "times"] (defScope sEased) := ⟨rfl, rfl, rfl, by decide +kernel, rfl, by decide +kernel, by decide +kernel⟩
def spEased (K : PySem.W.Frag) : Sp := fun vs H Q _ => ∃ (a : Addr) (n i j : Nat) (f : Nat → Int) (t : Int), vs = [.ref a, .int i, .int j, .int t] ∧ SqL K H a (Lz n f) ∧ i < n ∧ j < n ∧ n ≤ 100 ∧ IntMulOk t (f j) ∧ NewL H Q n fun k => if k = i then f i - t * f j else f k
theorem ok_eased {f : Addr} {fd : FuncData} (F : Fun K "eased" "eased" sEased f fd) (mli : mg "list" = none) : FnOk P w K mg base CX0 1 f fd ["row", "place", "other", "times"] (spEased K) := by
  refine F.ok scEased (fun vs H Q E h => ?_) (fun cdv A outer s H vs Q E hr h => ?_)
  · obtain ⟨a, n, i, j, f, t, rfl, _⟩ := h
    rfl
  · obtain ⟨a, n, i, j, f, t, rfl, ha, hi, hj, hn, hm, k⟩ := h
    refine ⟨_, pss_cons (ps_set (i := 4) scEased.nd rfl (Or.inl rfl) (pe_callTy call_list_of (by rfl) mli (by decide +kernel) (pa_cons (pv 0) pa_nil)))
      (pss_cons (ps_asg (pe_op op_sub (pe_ix ix_list (pv 0) (pv 1) (fun _ _ => rfl)) (pe_op op_mulZ (pv 3) (pe_ix ix_list (pv 0) (pv 2) (fun _ _ => rfl)))) (pg_sub (pv 4) (pv 1) set_list))
      (pss_one (ps_ret (pv 4)))), ?_⟩
    refine ⟨_, rfl, a, _, rfl, .inl ha, fun p hp => ?_⟩
    have hs : ∀ o, Same H (upd H p o) := fun o => same_upd hp
    refine ⟨_, rfl, _, rfl, a, _, _, _, rfl, rfl, (hs _).seq ha, atIz f hi, _, rfl, _, rfl, _, rfl, a, _, _, _, rfl, rfl, (hs _).seq ha, atIz f hj, _, _, rfl, rfl, hm, _, _, rfl, rfl, _, rfl, _, rfl, p, _, _, i, rfl, rfl, upd_same, by rw [Lz_len]; exact ixn hi, ?_⟩
    rw [upd_upd, Lz_set]
    exact ⟨_, rfl, k _ p (hs _) hp upd_same⟩
end
end Cw

set_option maxRecDepth 100000
set_option maxHeartbeats 8000000
namespace Cw
open PySem L2
theorem n_rk : ¬ (("rows" : Str) = "kinds") := by decide +kernel
theorem n_rr : ¬ (("rows" : Str) = "right") := by decide +kernel
theorem n_rb : ¬ (("rows" : Str) = "behind") := by decide +kernel
theorem n_kr : ¬ (("kinds" : Str) = "rows") := by decide +kernel
theorem n_ki : ¬ (("kinds" : Str) = "right") := by decide +kernel
theorem n_kb : ¬ (("kinds" : Str) = "behind") := by decide +kernel
theorem n_ir : ¬ (("right" : Str) = "rows") := by decide +kernel
theorem n_ik : ¬ (("right" : Str) = "kinds") := by decide +kernel
theorem n_ib : ¬ (("right" : Str) = "behind") := by decide +kernel
theorem n_br : ¬ (("behind" : Str) = "rows") := by decide +kernel
theorem n_bk : ¬ (("behind" : Str) = "kinds") := by decide +kernel
theorem n_bi : ¬ (("behind" : Str) = "right") := by decide +kernel
/-- a grid's fields -/
def gf (a : Addr) (n : Nat) (c d : Addr) : List (Str × V) := [("rows", .ref a), ("kinds", .int n), ("right", .ref c), ("behind", .ref d)]
theorem gf_eq (a : Addr) (n : Nat) (c d : Addr) : putF "behind" (.ref d) (putF "right" (.ref c) (putF "kinds" (.int n) (putF "rows" (.ref a) []))) = gf a n c d := by
  simp [putF, gf, n_rk, n_rr, n_rb, n_ki, n_kb, n_ib]
theorem gf_rows (a : Addr) (n : Nat) (c d : Addr) : (gf a n c d).lookup ("rows" : Str) = some (.ref a) := by rw [← gf_eq]; simp [lookup_putF, n_rk, n_rr, n_rb]
theorem gf_kinds (a : Addr) (n : Nat) (c d : Addr) : (gf a n c d).lookup ("kinds" : Str) = some (.int n) := by rw [← gf_eq]; simp [lookup_putF, n_kr, n_ki, n_kb]
theorem gf_right (a : Addr) (n : Nat) (c d : Addr) : (gf a n c d).lookup ("right" : Str) = some (.ref c) := by rw [← gf_eq]; simp [lookup_putF, n_ir, n_ik, n_ib]
theorem gf_behind (a : Addr) (n : Nat) (c d : Addr) : (gf a n c d).lookup ("behind" : Str) = some (.ref d) := by rw [← gf_eq]; simp [lookup_putF, n_br, n_bk, n_bi]
theorem gf_pr (a : Addr) (n : Nat) (c d x : Addr) : putF "rows" (.ref x) (gf a n c d) = gf x n c d := by simp [putF, gf]
theorem gf_pi (a : Addr) (n : Nat) (c d x : Addr) : putF "right" (.ref x) (gf a n c d) = gf a n x d := by simp [putF, gf, n_rr, n_ki]
theorem gf_pb (a : Addr) (n : Nat) (c d x : Addr) : putF "behind" (.ref x) (gf a n c d) = gf a n c x := by simp [putF, gf, n_rb, n_kb, n_ib]
/-- a list of lists of numbers -/
def MAt (H : Hp) (l : Addr) (m n : Nat) (R : Nat → Nat → Int) : Prop := ∃ r : Nat → Addr, H l = some (.lst (Rz m r)) ∧ ∀ k, k < m → H (r k) = some (.lst (Lz n (R k)))
theorem MAt.same {H H' : Hp} {l : Addr} {m n : Nat} {R : Nat → Nat → Int} (x : MAt H l m n R) (s : Same H H') : MAt H' l m n R := let ⟨r, a, b⟩ := x; ⟨r, s _ _ a, fun k hk => s _ _ (b k hk)⟩
theorem ref_ne {H : Hp} {p q : Addr} {m n : Nat} {r : Nat → Addr} {f : Nat → Int} (h1 : H p = some (.lst (Rz m r))) (h2 : H q = some (.lst (Lz n f))) (hn : 1 ≤ n) : q ≠ p := fun e => by
  rw [e, h1] at h2
  have h3 : Rz m r = Lz n f := by injection h2 with h; injection h
  have h0 := Lz_get f (show 0 < n by omega)
  rw [← h3] at h0
  have m0 : 0 < m := by have := (List.getElem?_eq_some_iff.mp h0).1; rw [Rz_len] at this; exact this
  rw [Rz_get r m0] at h0
  cases h0
/-- another list of lists is not touched -/
theorem MAt.put {H : Hp} {l p : Addr} {m n m' : Nat} {R : Nat → Nat → Int} {r' : Nat → Addr} {o : HO} (x : MAt H l m n R) (hp : H p = some (.lst (Rz m' r'))) (ne : l ≠ p) (hn : 1 ≤ n) : MAt (upd H p o) l m n R := by
  obtain ⟨r, a, b⟩ := x
  exact ⟨r, by rw [upd_ne ne]; exact a, fun k hk => by rw [upd_ne (ref_ne hp (b k hk) hn)]; exact b k hk⟩
/-- nor by the grid's fields -/
theorem MAt.fld {H : Hp} {l g C dx : Addr} {m n : Nat} {R : Nat → Nat → Int} {fs : List (Str × V)} {o : HO} (x : MAt H l m n R) (hg : H g = some (.ins C dx fs)) : MAt (upd H g o) l m n R := by
  obtain ⟨r, a, b⟩ := x
  exact ⟨r, by rw [upd_ne (fun e => by rw [e, hg] at a; cases a)]; exact a, fun k hk => by rw [upd_ne (fun e => by have := b k hk; rw [e, hg] at this; cases this)]; exact b k hk⟩
theorem MAt.congr {H : Hp} {l : Addr} {m n : Nat} {R R' : Nat → Nat → Int} (x : MAt H l m n R) (h : ∀ k j, k < m → j < n → R k j = R' k j) : MAt H l m n R' := by
  obtain ⟨r, a, b⟩ := x
  exact ⟨r, a, fun k hk => by rw [b k hk, Lz_congr fun j hj => h k j hk hj]⟩
/-- behind H0 a grid stands at g -/
def GAt (C : Addr) (H0 H : Hp) (g : Addr) (m n : Nat) (s : Ch.St) : Prop :=
  Same H0 H ∧ H0 g = none ∧ ∃ dx a c d : Addr, H0 a = none ∧ H0 d = none ∧ a ≠ c ∧ a ≠ d ∧ c ≠ d ∧ H g = some (.ins C dx (gf a n c d)) ∧ MAt H a m n s.R ∧ MAt H c n n s.V ∧ MAt H d n n s.B
structure Txt (K : PySem.W.Frag) (mg : Str → Option Value) (C : Addr) : Prop where
  cl : Cls K C
  nR : NoAttr K C "rows"
  nK : NoAttr K C "kinds"
  nI : NoAttr K C "right"
  nB : NoAttr K C "behind"
section
variable {P : Program} {w : World} {K : PySem.W.Frag} {mg : Str → Option Value} {base : Heap}
abbrev sSwapR : Stmt := inClass (top 48) 1
theorem scSwapR : FnScope ["self", "one", "other", "kept"] ["self", "one", "other"] (defScope sSwapR) := ⟨rfl, rfl, rfl, by decide +kernel, rfl, by decide +kernel, by decide +kernel⟩
def spSwapR (C : Addr) : Sp := fun vs H Q _ => ∃ (H0 : Hp) (g : Addr) (m n i j : Nat) (s : Ch.St), vs = [.ref g, .int i, .int j] ∧ GAt C H0 H g m n s ∧ i < m ∧ j < m ∧ 1 ≤ n ∧ ∀ H', GAt C H0 H' g m n ⟨Ch.sR s.R i j, s.V, s.B⟩ → Q .non H'
theorem ok_swapR {f C : Addr} {fd : FuncData} (F : Fun K "swap_rows" "Grid.swap_rows" sSwapR f fd) (T : Txt K mg C) : FnOk P w K mg base CX0 1 f fd ["self", "one", "other"] (spSwapR C) := by
  refine F.ok scSwapR (fun vs H Q E h => ?_) (fun cdv A outer s H vs Q E hr h => ?_)
  · obtain ⟨H0, g, m, n, i, j, s, rfl, _⟩ := h
    rfl
  · obtain ⟨H0, g, m, n, i, j, s, rfl, ⟨s0, g0, dx, a, c, d, a0, d0, nac, nad, ncd, hg, ⟨r, hr1, hr2⟩, hV, hB⟩, hi, hj, hn, k⟩ := h
    refine ⟨_, pss_cons (ps_set (i := 3) scSwapR.nd rfl (Or.inl rfl) (pe_ix ix_list (pe_fld (pv 0) rfl) (pv 1) (fun _ _ => rfl)))
      (pss_cons (ps_asg (pe_ix ix_list (pe_fld (pv 0) rfl) (pv 2) (fun _ _ => rfl)) (pg_sub (pe_fld (pv 0) rfl) (pv 1) set_list))
      (pss_one (ps_asg (pv 3) (pg_sub (pe_fld (pv 0) rfl) (pv 2) set_list)))), ?_⟩
    have nga : g ≠ a := fun e => by rw [e, hr1] at hg; cases hg
    refine ⟨_, rfl, g, C, dx, _, _, rfl, hg, T.cl, T.nR, gf_rows .., _, rfl, a, _, _, _, rfl, rfl, SqL.of hr1, atI_nat (Rz_get r hi), ?_⟩
    refine ⟨_, rfl, g, C, dx, _, _, rfl, hg, T.cl, T.nR, gf_rows .., _, rfl, a, _, _, _, rfl, rfl, SqL.of hr1, atI_nat (Rz_get r hj), _, rfl, g, C, dx, _, _, rfl, hg, T.cl, T.nR, gf_rows .., _, rfl, a, _, _, i, rfl, rfl, hr1, by rw [Rz_len]; exact ixn hi, ?_⟩
    refine ⟨_, rfl, _, rfl, g, C, dx, _, _, rfl, by rw [upd_ne nga]; exact hg, T.cl, T.nR, gf_rows .., _, rfl, a, _, _, j, rfl, rfl, upd_same, by rw [List.length_set, Rz_len]; exact ixn hj, ?_⟩
    rw [upd_upd]
    have es : ((Rz m r).set i (.ref (r j))).set j (.ref (r i)) = Rz m fun k => r (Ch.sw i j k) := set_sw (fun k => V.ref (r k)) hi hj
    rw [es]
    refine k _ ⟨fun b o e => by rw [upd_ne (ne_of_none e a0)]; exact s0 _ _ e, g0, dx, a, c, d, a0, d0, nac, nad, ncd, by rw [upd_ne nga]; exact hg, ⟨_, upd_same, fun k hk => ?_⟩, hV.put hr1 nac.symm hn, hB.put hr1 nad.symm hn⟩
    have hsw : Ch.sw i j k < m := by unfold Ch.sw; split <;> (try split) <;> omega
    rw [upd_ne (ref_ne hr1 (hr2 _ hsw) hn)]
    exact hr2 _ hsw
end
end Cw

set_option maxRecDepth 100000
set_option maxHeartbeats 8000000
namespace Cw
open PySem L2
theorem MAt.more {H : Hp} {D p : Addr} {i n : Nat} {R : Nat → Nat → Int} {q : Nat → Addr} (h1 : H D = some (.lst (Rz i q))) (h2 : ∀ k, k < i → H (q k) = some (.lst (Lz n (R k)))) (h3 : H p = some (.lst (Lz n (R i)))) (hn : 1 ≤ n) : MAt (upd H D (.lst (Rz i q ++ [.ref p]))) D (i + 1) n R := by
  refine ⟨fun j => if j < i then q j else p, ?_, fun k hk => ?_⟩
  · rw [upd_same, Rz_succ, if_neg (Nat.lt_irrefl _)]
    rw [show Rz i (fun j => if j < i then q j else p) = Rz i q from Rz_congr fun j hj => if_pos hj]
  · by_cases c : k < i
    · simp only [if_pos c]
      rw [upd_ne (ref_ne h1 (h2 k c) hn)]; exact h2 k c
    · obtain rfl : k = i := by omega
      simp only [if_neg c]
      rw [upd_ne (ref_ne h1 h3 hn)]; exact h3
/-- one row of a list of rows set anew -/
theorem MAt.set {H : Hp} {a p : Addr} {m n i : Nat} {R R' : Nat → Nat → Int} {r : Nat → Addr} (h1 : H a = some (.lst (Rz m r))) (h2 : ∀ k, k < m → H (r k) = some (.lst (Lz n (R k)))) (hp : H p = some (.lst (Lz n (R' i)))) (hn : 1 ≤ n) (he : ∀ k, k ≠ i → R' k = R k) : MAt (upd H a (.lst ((Rz m r).set i (.ref p)))) a m n R' := by
  refine ⟨fun k => if k = i then p else r k, by rw [upd_same, Rz_set], fun k hk => ?_⟩
  by_cases c : k = i
  · subst c
    simp only [if_pos]
    rw [upd_ne (ref_ne h1 hp hn)]; exact hp
  · simp only [if_neg c]
    rw [upd_ne (ref_ne h1 (h2 k hk) hn), he k c]; exact h2 k hk
section
variable {P : Program} {w : World} {K : PySem.W.Frag} {mg : Str → Option Value} {base : Heap}
abbrev sTakeR : Stmt := inClass (top 48) 3
theorem scTakeR : FnScope ["self", "row", "other", "times"] ["self", "row", "other", "times"] (defScope sTakeR) := ⟨rfl, rfl, rfl, by decide +kernel, rfl, by decide +kernel, by decide +kernel⟩
def spTakeR (C : Addr) : Sp := fun vs H Q _ => ∃ (H0 : Hp) (g : Addr) (m n i j : Nat) (t : Int) (s : Ch.St), vs = [.ref g, .int i, .int j, .int t] ∧ GAt C H0 H g m n s ∧ i < m ∧ j < m ∧ 1 ≤ n ∧ n ≤ 100 ∧ (∀ l, l < n → IntMulOk t (s.R j l)) ∧ ∀ H', GAt C H0 H' g m n ⟨Ch.tR s.R i j t, s.V, s.B⟩ → Q .non H'
theorem ok_takeR {f C : Addr} {fd : FuncData} (F : Fun K "take_row" "Grid.take_row" sTakeR f fd) (T : Txt K mg C) (cT : Cal P w K mg base "taken" 1 ["row", "other", "times"] (spTaken K)) : FnOk P w K mg base CX0 2 f fd ["self", "row", "other", "times"] (spTakeR C) := by
  obtain ⟨fT, fdT, GT, gT, kT, bT⟩ := cT
  refine F.ok scTakeR (fun vs H Q E h => ?_) (fun cdv A outer s H vs Q E hr h => ?_)
  · obtain ⟨H0, g, m, n, i, j, t, s, rfl, _⟩ := h
    rfl
  · obtain ⟨H0, g, m, n, i, j, t, s, rfl, ⟨s0, g0, dx, a, c, d, a0, d0, nac, nad, ncd, hg, ⟨r, hr1, hr2⟩, hV, hB⟩, hi, hj, hn, hn1, hm, k⟩ := h
    refine ⟨_, pss_one (ps_asg (pe_call GT hr rfl gT kT bT .nil pass0 (pa_cons (pe_ix ix_list (pe_fld (pv 0) rfl) (pv 1) (fun _ _ => rfl)) (pa_cons (pe_ix ix_list (pe_fld (pv 0) rfl) (pv 2) (fun _ _ => rfl)) (pa_cons (pv 3) pa_nil)))) (pg_sub (pe_fld (pv 0) rfl) (pv 1) set_list)), ?_⟩
    have nga : g ≠ a := fun e => by rw [e, hr1] at hg; cases hg
    refine ⟨_, rfl, g, C, dx, _, _, rfl, hg, T.cl, T.nR, gf_rows .., _, rfl, a, _, _, _, rfl, rfl, SqL.of hr1, atI_nat (Rz_get r hi), ?_⟩
    refine ⟨_, rfl, g, C, dx, _, _, rfl, hg, T.cl, T.nR, gf_rows .., _, rfl, a, _, _, _, rfl, rfl, SqL.of hr1, atI_nat (Rz_get r hj), _, rfl, ?_⟩
    refine ⟨r i, r j, n, _, _, t, rfl, SqL.of (hr2 i hi), SqL.of (hr2 j hj), hn1, hm, fun H1 p s1 np e1 => ?_⟩
    refine ⟨_, rfl, g, C, dx, _, _, rfl, s1 _ _ hg, T.cl, T.nR, gf_rows .., _, rfl, a, _, _, i, rfl, rfl, s1 _ _ hr1, by rw [Rz_len]; exact ixn hi, ?_⟩
    refine k _ ⟨fun b o e => by rw [upd_ne (ne_of_none e a0)]; exact s1 _ _ (s0 _ _ e), g0, dx, a, c, d, a0, d0, nac, nad, ncd, by rw [upd_ne nga]; exact s1 _ _ hg, ?_, (hV.same s1).put (s1 _ _ hr1) nac.symm hn, (hB.same s1).put (s1 _ _ hr1) nad.symm hn⟩
    refine MAt.set (R := s.R) (s1 _ _ hr1) (fun k hk => s1 _ _ (hr2 k hk)) ?_ hn (fun k hk => ?_)
    · rw [e1]
      exact congrArg _ (congrArg _ (Lz_congr fun l _ => by show _ = Ch.tR s.R i j t i l; unfold Ch.tR; rw [if_pos rfl]))
    · funext l
      show Ch.tR s.R i j t k l = _
      unfold Ch.tR; rw [if_neg hk]
abbrev sTurnR : Stmt := inClass (top 48) 5
theorem scTurnR : FnScope ["self", "row"] ["self", "row"] (defScope sTurnR) := ⟨rfl, rfl, rfl, by decide +kernel, rfl, by decide +kernel, by decide +kernel⟩
def spTurnR (C : Addr) : Sp := fun vs H Q _ => ∃ (H0 : Hp) (g : Addr) (m n i : Nat) (s : Ch.St), vs = [.ref g, .int i] ∧ GAt C H0 H g m n s ∧ i < m ∧ 1 ≤ n ∧ n ≤ 100 ∧ ∀ H', GAt C H0 H' g m n ⟨Ch.nR s.R i, s.V, s.B⟩ → Q .non H'
theorem ok_turnR {f C : Addr} {fd : FuncData} (F : Fun K "turn_row" "Grid.turn_row" sTurnR f fd) (T : Txt K mg C) (cT : Cal P w K mg base "turned" 1 ["row"] (spTurned K)) : FnOk P w K mg base CX0 2 f fd ["self", "row"] (spTurnR C) := by
  obtain ⟨fT, fdT, GT, gT, kT, bT⟩ := cT
  refine F.ok scTurnR (fun vs H Q E h => ?_) (fun cdv A outer s H vs Q E hr h => ?_)
  · obtain ⟨H0, g, m, n, i, s, rfl, _⟩ := h
    rfl
  · obtain ⟨H0, g, m, n, i, s, rfl, ⟨s0, g0, dx, a, c, d, a0, d0, nac, nad, ncd, hg, ⟨r, hr1, hr2⟩, hV, hB⟩, hi, hn, hn1, k⟩ := h
    refine ⟨_, pss_one (ps_asg (pe_call GT hr rfl gT kT bT .nil pass0 (pa_cons (pe_ix ix_list (pe_fld (pv 0) rfl) (pv 1) (fun _ _ => rfl)) pa_nil)) (pg_sub (pe_fld (pv 0) rfl) (pv 1) set_list)), ?_⟩
    have nga : g ≠ a := fun e => by rw [e, hr1] at hg; cases hg
    refine ⟨_, rfl, g, C, dx, _, _, rfl, hg, T.cl, T.nR, gf_rows .., _, rfl, a, _, _, _, rfl, rfl, SqL.of hr1, atI_nat (Rz_get r hi), ?_⟩
    refine ⟨r i, n, _, rfl, SqL.of (hr2 i hi), hn1, fun H1 p s1 np e1 => ?_⟩
    refine ⟨_, rfl, g, C, dx, _, _, rfl, s1 _ _ hg, T.cl, T.nR, gf_rows .., _, rfl, a, _, _, i, rfl, rfl, s1 _ _ hr1, by rw [Rz_len]; exact ixn hi, ?_⟩
    refine k _ ⟨fun b o e => by rw [upd_ne (ne_of_none e a0)]; exact s1 _ _ (s0 _ _ e), g0, dx, a, c, d, a0, d0, nac, nad, ncd, by rw [upd_ne nga]; exact s1 _ _ hg, ?_, (hV.same s1).put (s1 _ _ hr1) nac.symm hn, (hB.same s1).put (s1 _ _ hr1) nad.symm hn⟩
    refine MAt.set (R := s.R) (s1 _ _ hr1) (fun k hk => s1 _ _ (hr2 k hk)) ?_ hn (fun k hk => ?_)
    · rw [e1]
      exact congrArg _ (congrArg _ (Lz_congr fun l _ => by show _ = Ch.nR s.R i i l; unfold Ch.nR; rw [if_pos rfl]))
    · funext l
      show Ch.nR s.R i k l = _
      unfold Ch.nR; rw [if_neg hk]
end
end Cw

set_option maxRecDepth 100000
set_option maxHeartbeats 8000000
namespace Cw
open PySem L2
section
variable {P : Program} {w : World} {K : PySem.W.Frag} {mg : Str → Option Value} {base : Heap}
abbrev sSwapP : Stmt := inClass (top 48) 2
theorem scSwapP : FnScope ["self", "one", "other", "row"] ["self", "one", "other"] (defScope sSwapP) := ⟨rfl, rfl, rfl, by decide +kernel, rfl, by decide +kernel, by decide +kernel⟩
def spSwapP (C : Addr) : Sp := fun vs H Q _ => ∃ (H0 : Hp) (g : Addr) (m n i j : Nat) (s : Ch.St), vs = [.ref g, .int i, .int j] ∧ GAt C H0 H g m n s ∧ i < n ∧ j < n ∧ m ≤ 100 ∧ n ≤ 100 ∧ ∀ H', GAt C H0 H' g m n ⟨Ch.sC s.R i j, Ch.sC s.V i j, Ch.sR s.B i j⟩ → Q .non H'
theorem ok_swapP {f C : Addr} {fd : FuncData} (F : Fun K "swap_places" "Grid.swap_places" sSwapP f fd) (T : Txt K mg C) (cS : Cal P w K mg base "swapped" 1 ["row", "one", "other"] (spSwapped K)) : FnOk P w K mg base CX0 2 f fd ["self", "one", "other"] (spSwapP C) := by
  obtain ⟨fS, fdS, GS, gS, kS, bS⟩ := cS
  refine F.ok scSwapP (fun vs H Q E h => ?_) (fun cdv A outer s H vs Q E hr h => ?_)
  · obtain ⟨H0, g, m, n, i, j, s, rfl, _⟩ := h
    rfl
  · obtain ⟨H0, g, m, n, i, j, s, rfl, ⟨s0, g0, dx, a, c, d, a0, d0, nac, nad, ncd, hg, hM, hV, hB⟩, hi, hj, hm, hn1, k⟩ := h
    have hn : 1 ≤ n := by omega
    refine ⟨_, pss_cons (ps_fld (pv 0) (pe_lc (own := [("row", 3)]) (g := gName 3) (tt := tYes) (te := tCall (spSwapped K) [] _ (tCons (tVar 3) (tCons (tVar 1) (tCons (tVar 2) tNil)))) (by rfl) scSwapP.nd (pi_list (pe_fld (pv 0) rfl)) (blkOk_by (own := [("row", 3)]) (N := ["self", "one", "other", "row"]) (sc := defScope sSwapP) (by decide +kernel))
        (fun _ _ _ _ _ => pg_name (i := 3) scSwapP.nd rfl (Or.inl rfl)) (fun _ _ _ _ _ => pts_nil) (fun _ _ _ _ _ => pe_call GS hr rfl gS kS bS .nil pass0 (pa_cons (pv 3) (pa_cons (pv 1) (pa_cons (pv 2) pa_nil))))) rfl)
      (pss_cons (ps_fld (pv 0) (pe_lc (own := [("row", 3)]) (g := gName 3) (tt := tYes) (te := tCall (spSwapped K) [] _ (tCons (tVar 3) (tCons (tVar 1) (tCons (tVar 2) tNil)))) (by rfl) scSwapP.nd (pi_list (pe_fld (pv 0) rfl)) (blkOk_by (own := [("row", 3)]) (N := ["self", "one", "other", "row"]) (sc := defScope sSwapP) (by decide +kernel))
        (fun _ _ _ _ _ => pg_name (i := 3) scSwapP.nd rfl (Or.inl rfl)) (fun _ _ _ _ _ => pts_nil) (fun _ _ _ _ _ => pe_call GS hr rfl gS kS bS .nil pass0 (pa_cons (pv 3) (pa_cons (pv 1) (pa_cons (pv 2) pa_nil))))) rfl)
      (pss_one (ps_fld (pv 0) (pe_call GS hr rfl gS kS bS .nil pass0 (pa_cons (pe_fld (pv 0) rfl) (pa_cons (pv 1) (pa_cons (pv 2) pa_nil)))) rfl))), ?_⟩
    obtain ⟨r, hr1, hr2⟩ := id hM
    refine ⟨_, rfl, g, C, dx, _, _, rfl, hg, T.cl, T.nR, gf_rows .., a, rfl, ⟨_, SqL.of hr1⟩, fun D hD => lc_list (xs := Rz m r) (fun i' H' => Same H H' ∧ MAt H' D i' n (Ch.sC s.R i j)) ⟨same_upd hD, fun _ => 0, upd_same, fun k hk => absurd hk (Nat.not_lt_zero _)⟩ (fun _ H' _ p => SqL.of (p.1 _ _ hr1)) (fun i' v H' hv p => ?_) (fun H2 p => ?_)⟩
    · have hi' : i' < m := by have := (List.getElem?_eq_some_iff.mp hv).1; rw [Rz_len] at this; exact this
      cases Option.some.inj ((Rz_get r hi').symm.trans hv)
      obtain ⟨s1, q, e1, e2⟩ := p
      refine ⟨rfl, _, rfl, _, rfl, _, rfl, r i', n, i, j, fun l => .int (s.R i' l), rfl, SqL.of (s1 _ _ (hr2 i' hi')), hi, hj, hn1, fun H6 p6 s6 np6 e6 => ?_⟩
      refine ⟨_, s6 _ _ e1, small (by rw [Rz_len]; omega), fun b z e => ?_, MAt.more (s6 _ _ e1) (fun k hk => s6 _ _ (e2 k hk)) e6 hn⟩
      rw [upd_ne (ne_of_none e hD)]; exact s6 _ _ (s1 _ _ e)
    · rw [Rz_len] at p
      obtain ⟨s2, M1⟩ := p
      have hg2 := s2 _ _ hg
      refine ⟨_, rfl, g, C, dx, _, rfl, hg2, T.cl, T.nR, (by show 4 < 1000; decide), ?_⟩
      rw [gf_pr]
      have V3 := (hV.same s2).fld (o := .ins C dx (gf D n c d)) hg2
      have B3 := (hB.same s2).fld (o := .ins C dx (gf D n c d)) hg2
      have M3 := M1.fld (o := .ins C dx (gf D n c d)) hg2
      have hg3 : (upd H2 g (.ins C dx (gf D n c d))) g = some (.ins C dx (gf D n c d)) := upd_same
      have nD3 : ∀ q, (upd H2 g (.ins C dx (gf D n c d))) q = none → H q = none := fun q e => by
        have : q ≠ g := fun e' => by rw [e', hg3] at e; cases e
        rw [upd_ne this] at e; exact s2.free e
      have k3 : ∀ b o, H0 b = some o → (upd H2 g (.ins C dx (gf D n c d))) b = some o := fun b o e => by
        rw [upd_ne (ne_of_none e g0)]; exact s2 _ _ (s0 _ _ e)
      generalize upd H2 g (.ins C dx (gf D n c d)) = H3 at *
      obtain ⟨rv, hv1, hv2⟩ := id V3
      refine ⟨_, rfl, g, C, dx, _, _, rfl, hg3, T.cl, T.nI, gf_right .., c, rfl, ⟨_, SqL.of hv1⟩, fun D2 hD2 => lc_list (xs := Rz n rv) (fun i' H' => Same H3 H' ∧ MAt H' D2 i' n (Ch.sC s.V i j)) ⟨same_upd hD2, fun _ => 0, upd_same, fun k hk => absurd hk (Nat.not_lt_zero _)⟩ (fun _ H' _ p => SqL.of (p.1 _ _ hv1)) (fun i' v H' hv p => ?_) (fun H4 p => ?_)⟩
      · have hi' : i' < n := by have := (List.getElem?_eq_some_iff.mp hv).1; rw [Rz_len] at this; exact this
        cases Option.some.inj ((Rz_get rv hi').symm.trans hv)
        obtain ⟨s1, q, e1, e2⟩ := p
        refine ⟨rfl, _, rfl, _, rfl, _, rfl, rv i', n, i, j, fun l => .int (s.V i' l), rfl, SqL.of (s1 _ _ (hv2 i' hi')), hi, hj, hn1, fun H6 p6 s6 np6 e6 => ?_⟩
        refine ⟨_, s6 _ _ e1, small (by rw [Rz_len]; omega), fun b z e => ?_, MAt.more (s6 _ _ e1) (fun k hk => s6 _ _ (e2 k hk)) e6 hn⟩
        rw [upd_ne (ne_of_none e hD2)]; exact s6 _ _ (s1 _ _ e)
      · rw [Rz_len] at p
        obtain ⟨s4, M2⟩ := p
        have hg4 := s4 _ _ hg3
        have nDD : D ≠ D2 := by obtain ⟨_, e, _⟩ := M3; exact ne_of_none e hD2
        refine ⟨_, rfl, g, C, dx, _, rfl, hg4, T.cl, T.nI, (by show 4 < 1000; decide), ?_⟩
        rw [gf_pi]
        have B5 := (B3.same s4).fld (o := .ins C dx (gf D n D2 d)) hg4
        have M5 := (M3.same s4).fld (o := .ins C dx (gf D n D2 d)) hg4
        have V5 := M2.fld (o := .ins C dx (gf D n D2 d)) hg4
        have hg5 : (upd H4 g (.ins C dx (gf D n D2 d))) g = some (.ins C dx (gf D n D2 d)) := upd_same
        have nD5 : ∀ q, (upd H4 g (.ins C dx (gf D n D2 d))) q = none → H q = none := fun q e => by
          have : q ≠ g := fun e' => by rw [e', hg5] at e; cases e
          rw [upd_ne this] at e; exact nD3 _ (s4.free e)
        have k5 : ∀ b o, H0 b = some o → (upd H4 g (.ins C dx (gf D n D2 d))) b = some o := fun b o e => by
          rw [upd_ne (ne_of_none e g0)]; exact s4 _ _ (k3 _ _ e)
        generalize upd H4 g (.ins C dx (gf D n D2 d)) = H5 at *
        obtain ⟨rb, hb1, hb2⟩ := id B5
        refine ⟨_, rfl, g, C, dx, _, _, rfl, hg5, T.cl, T.nB, gf_behind .., _, rfl, _, rfl, d, n, i, j, fun k => .ref (rb k), rfl, SqL.of hb1, hi, hj, hn1, fun H6 p6 s6 np6 e6 => ?_⟩
        have hg6 := s6 _ _ hg5
        refine ⟨_, rfl, g, C, dx, _, rfl, hg6, T.cl, T.nB, (by show 4 < 1000; decide), ?_⟩
        rw [gf_pb]
        have n1 : D ≠ p6 := by obtain ⟨_, e, _⟩ := M5; exact ne_of_none e np6
        have n2 : D2 ≠ p6 := by obtain ⟨_, e, _⟩ := V5; exact ne_of_none e np6
        have B6 : MAt H6 p6 n n (Ch.sR s.B i j) := ⟨fun k => rb (Ch.sw i j k), e6, fun k hk => s6 _ _ (hb2 _ (by unfold Ch.sw; split <;> (try split) <;> omega))⟩
        refine k _ ⟨fun b o e => by rw [upd_ne (ne_of_none e g0)]; exact s6 _ _ (k5 _ _ e), g0, dx, D, D2, p6, s0.free hD, s0.free (nD5 _ np6), nDD, n1, n2, upd_same, (M5.same s6).fld hg6, (V5.same s6).fld hg6, B6.fld hg6⟩
end
end Cw

set_option maxRecDepth 100000
set_option maxHeartbeats 8000000
namespace Cw
open PySem L2
/-- a place less another one, so many times, in all rows -/
def eC (R : Nat → Nat → Int) (i j : Nat) (t : Int) : Nat → Nat → Int := fun k l => if l = i then R k i - t * R k j else R k l
section
variable {P : Program} {w : World} {K : PySem.W.Frag} {mg : Str → Option Value} {base : Heap}
abbrev sTakeP : Stmt := inClass (top 48) 4
theorem scTakeP : FnScope ["self", "place", "other", "times", "row"] ["self", "place", "other", "times"] (defScope sTakeP) := ⟨rfl, rfl, rfl, by decide +kernel, rfl, by decide +kernel, by decide +kernel⟩
def spTakeP (C : Addr) : Sp := fun vs H Q _ => ∃ (H0 : Hp) (g : Addr) (m n i j : Nat) (t : Int) (s : Ch.St), vs = [.ref g, .int i, .int j, .int t] ∧ GAt C H0 H g m n s ∧ i < n ∧ j < n ∧ m ≤ 100 ∧ n ≤ 100 ∧ (∀ k, k < m → IntMulOk t (s.R k j)) ∧ (∀ k, k < n → IntMulOk t (s.V k j)) ∧ (∀ l, l < n → IntMulOk (- t) (s.B i l)) ∧ ∀ H', GAt C H0 H' g m n ⟨eC s.R i j t, eC s.V i j t, Ch.tR s.B j i (- t)⟩ → Q .non H'
theorem ok_takeP {f C : Addr} {fd : FuncData} (F : Fun K "take_place" "Grid.take_place" sTakeP f fd) (T : Txt K mg C) (cS : Cal P w K mg base "eased" 1 ["row", "place", "other", "times"] (spEased K)) (cT : Cal P w K mg base "taken" 1 ["row", "other", "times"] (spTaken K)) : FnOk P w K mg base CX0 2 f fd ["self", "place", "other", "times"] (spTakeP C) := by
  obtain ⟨fS, fdS, GS, gS, kS, bS⟩ := cS
  obtain ⟨fT, fdT, GT, gT, kT, bT⟩ := cT
  refine F.ok scTakeP (fun vs H Q E h => ?_) (fun cdv A outer s H vs Q E hr h => ?_)
  · obtain ⟨H0, g, m, n, i, j, t, s, rfl, _⟩ := h
    rfl
  · obtain ⟨H0, g, m, n, i, j, t, s, rfl, ⟨s0, g0, dx, a, c, d, a0, d0, nac, nad, ncd, hg, hM, hV, hB⟩, hi, hj, hm, hn1, okR, okV, okB, k⟩ := h
    have hn : 1 ≤ n := by omega
    refine ⟨_, pss_cons (ps_fld (pv 0) (pe_lc (own := [("row", 4)]) (g := gName 4) (tt := tYes) (te := tCall (spEased K) [] _ (tCons (tVar 4) (tCons (tVar 1) (tCons (tVar 2) (tCons (tVar 3) tNil))))) (by rfl) scTakeP.nd (pi_list (pe_fld (pv 0) rfl)) (blkOk_by (own := [("row", 4)]) (N := ["self", "place", "other", "times", "row"]) (sc := defScope sTakeP) (by decide +kernel))
        (fun _ _ _ _ _ => pg_name (i := 4) scTakeP.nd rfl (Or.inl rfl)) (fun _ _ _ _ _ => pts_nil) (fun _ _ _ _ _ => pe_call GS hr rfl gS kS bS .nil pass0 (pa_cons (pv 4) (pa_cons (pv 1) (pa_cons (pv 2) (pa_cons (pv 3) pa_nil)))))) rfl)
      (pss_cons (ps_fld (pv 0) (pe_lc (own := [("row", 4)]) (g := gName 4) (tt := tYes) (te := tCall (spEased K) [] _ (tCons (tVar 4) (tCons (tVar 1) (tCons (tVar 2) (tCons (tVar 3) tNil))))) (by rfl) scTakeP.nd (pi_list (pe_fld (pv 0) rfl)) (blkOk_by (own := [("row", 4)]) (N := ["self", "place", "other", "times", "row"]) (sc := defScope sTakeP) (by decide +kernel))
        (fun _ _ _ _ _ => pg_name (i := 4) scTakeP.nd rfl (Or.inl rfl)) (fun _ _ _ _ _ => pts_nil) (fun _ _ _ _ _ => pe_call GS hr rfl gS kS bS .nil pass0 (pa_cons (pv 4) (pa_cons (pv 1) (pa_cons (pv 2) (pa_cons (pv 3) pa_nil)))))) rfl)
      (pss_one (ps_asg (pe_call GT hr rfl gT kT bT .nil pass0 (pa_cons (pe_ix ix_list (pe_fld (pv 0) rfl) (pv 2) (fun _ _ => rfl)) (pa_cons (pe_ix ix_list (pe_fld (pv 0) rfl) (pv 1) (fun _ _ => rfl)) (pa_cons (pe_un un_neg (pv 3)) pa_nil)))) (pg_sub (pe_fld (pv 0) rfl) (pv 2) set_list)))), ?_⟩
    obtain ⟨r, hr1, hr2⟩ := id hM
    refine ⟨_, rfl, g, C, dx, _, _, rfl, hg, T.cl, T.nR, gf_rows .., a, rfl, ⟨_, SqL.of hr1⟩, fun D hD => lc_list (xs := Rz m r) (fun i' H' => Same H H' ∧ MAt H' D i' n (eC s.R i j t)) ⟨same_upd hD, fun _ => 0, upd_same, fun k hk => absurd hk (Nat.not_lt_zero _)⟩ (fun _ H' _ p => SqL.of (p.1 _ _ hr1)) (fun i' v H' hv p => ?_) (fun H2 p => ?_)⟩
    · have hi' : i' < m := by have := (List.getElem?_eq_some_iff.mp hv).1; rw [Rz_len] at this; exact this
      cases Option.some.inj ((Rz_get r hi').symm.trans hv)
      obtain ⟨s1, q, e1, e2⟩ := p
      refine ⟨rfl, _, rfl, _, rfl, _, rfl, _, rfl, r i', n, i, j, _, t, rfl, SqL.of (s1 _ _ (hr2 i' hi')), hi, hj, hn1, okR i' hi', fun H6 p6 s6 np6 e6 => ?_⟩
      refine ⟨_, s6 _ _ e1, small (by rw [Rz_len]; omega), fun b z e => ?_, MAt.more (s6 _ _ e1) (fun k hk => s6 _ _ (e2 k hk)) e6 hn⟩
      rw [upd_ne (ne_of_none e hD)]; exact s6 _ _ (s1 _ _ e)
    · rw [Rz_len] at p
      obtain ⟨s2, M1⟩ := p
      have hg2 := s2 _ _ hg
      refine ⟨_, rfl, g, C, dx, _, rfl, hg2, T.cl, T.nR, (by show 4 < 1000; decide), ?_⟩
      rw [gf_pr]
      have V3 := (hV.same s2).fld (o := .ins C dx (gf D n c d)) hg2
      have B3 := (hB.same s2).fld (o := .ins C dx (gf D n c d)) hg2
      have M3 := M1.fld (o := .ins C dx (gf D n c d)) hg2
      have hg3 : (upd H2 g (.ins C dx (gf D n c d))) g = some (.ins C dx (gf D n c d)) := upd_same
      have nD3 : ∀ q, (upd H2 g (.ins C dx (gf D n c d))) q = none → H q = none := fun q e => by
        have : q ≠ g := fun e' => by rw [e', hg3] at e; cases e
        rw [upd_ne this] at e; exact s2.free e
      have k3 : ∀ b o, H0 b = some o → (upd H2 g (.ins C dx (gf D n c d))) b = some o := fun b o e => by
        rw [upd_ne (ne_of_none e g0)]; exact s2 _ _ (s0 _ _ e)
      generalize upd H2 g (.ins C dx (gf D n c d)) = H3 at *
      obtain ⟨rv, hv1, hv2⟩ := id V3
      refine ⟨_, rfl, g, C, dx, _, _, rfl, hg3, T.cl, T.nI, gf_right .., c, rfl, ⟨_, SqL.of hv1⟩, fun D2 hD2 => lc_list (xs := Rz n rv) (fun i' H' => Same H3 H' ∧ MAt H' D2 i' n (eC s.V i j t)) ⟨same_upd hD2, fun _ => 0, upd_same, fun k hk => absurd hk (Nat.not_lt_zero _)⟩ (fun _ H' _ p => SqL.of (p.1 _ _ hv1)) (fun i' v H' hv p => ?_) (fun H4 p => ?_)⟩
      · have hi' : i' < n := by have := (List.getElem?_eq_some_iff.mp hv).1; rw [Rz_len] at this; exact this
        cases Option.some.inj ((Rz_get rv hi').symm.trans hv)
        obtain ⟨s1, q, e1, e2⟩ := p
        refine ⟨rfl, _, rfl, _, rfl, _, rfl, _, rfl, rv i', n, i, j, _, t, rfl, SqL.of (s1 _ _ (hv2 i' hi')), hi, hj, hn1, okV i' hi', fun H6 p6 s6 np6 e6 => ?_⟩
        refine ⟨_, s6 _ _ e1, small (by rw [Rz_len]; omega), fun b z e => ?_, MAt.more (s6 _ _ e1) (fun k hk => s6 _ _ (e2 k hk)) e6 hn⟩
        rw [upd_ne (ne_of_none e hD2)]; exact s6 _ _ (s1 _ _ e)
      · rw [Rz_len] at p
        obtain ⟨s4, M2⟩ := p
        have hg4 := s4 _ _ hg3
        have nDD : D ≠ D2 := by obtain ⟨_, e, _⟩ := M3; exact ne_of_none e hD2
        refine ⟨_, rfl, g, C, dx, _, rfl, hg4, T.cl, T.nI, (by show 4 < 1000; decide), ?_⟩
        rw [gf_pi]
        have B5 := (B3.same s4).fld (o := .ins C dx (gf D n D2 d)) hg4
        have M5 := (M3.same s4).fld (o := .ins C dx (gf D n D2 d)) hg4
        have V5 := M2.fld (o := .ins C dx (gf D n D2 d)) hg4
        have hg5 : (upd H4 g (.ins C dx (gf D n D2 d))) g = some (.ins C dx (gf D n D2 d)) := upd_same
        have nD5 : ∀ q, (upd H4 g (.ins C dx (gf D n D2 d))) q = none → H q = none := fun q e => by
          have : q ≠ g := fun e' => by rw [e', hg5] at e; cases e
          rw [upd_ne this] at e; exact nD3 _ (s4.free e)
        have k5 : ∀ b o, H0 b = some o → (upd H4 g (.ins C dx (gf D n D2 d))) b = some o := fun b o e => by
          rw [upd_ne (ne_of_none e g0)]; exact s4 _ _ (k3 _ _ e)
        generalize upd H4 g (.ins C dx (gf D n D2 d)) = H5 at *
        obtain ⟨rb, hb1, hb2⟩ := id B5
        have d5 : d ≠ g := fun e => by rw [e, hg5] at hb1; cases hb1
        refine ⟨_, rfl, g, C, dx, _, _, rfl, hg5, T.cl, T.nB, gf_behind .., _, rfl, d, _, _, _, rfl, rfl, SqL.of hb1, atI_nat (Rz_get rb hj), _, rfl, g, C, dx, _, _, rfl, hg5, T.cl, T.nB, gf_behind .., _, rfl, d, _, _, _, rfl, rfl, SqL.of hb1, atI_nat (Rz_get rb hi), _, rfl, _, rfl, ?_⟩
        refine ⟨rb j, rb i, n, _, _, - t, rfl, SqL.of (hb2 j hj), SqL.of (hb2 i hi), hn1, okB, fun H6 p6 s6 np6 e6 => ?_⟩
        have hg6 := s6 _ _ hg5
        have hb6 := s6 _ _ hb1
        refine ⟨_, rfl, g, C, dx, _, _, rfl, hg6, T.cl, T.nB, gf_behind .., _, rfl, d, _, _, j, rfl, rfl, hb6, by rw [Rz_len]; exact ixn hj, ?_⟩
        have n1 : D ≠ d := fun e => by
          obtain ⟨_, e', _⟩ := hB
          rw [e, e'] at hD; cases hD
        have n2 : D2 ≠ d := fun e => by
          obtain ⟨_, e', _⟩ := B3
          rw [e, e'] at hD2; cases hD2
        refine k _ ⟨fun b o e => by rw [upd_ne (ne_of_none e d0)]; exact s6 _ _ (k5 _ _ e), g0, dx, D, D2, d, s0.free hD, d0, nDD, n1, n2, by rw [upd_ne d5.symm]; exact hg6, (M5.same s6).put hb6 n1 hn, (V5.same s6).put hb6 n2 hn, ?_⟩
        refine MAt.set (R := s.B) hb6 (fun k hk => s6 _ _ (hb2 k hk)) ?_ hn (fun k hk => ?_)
        · rw [e6]
          exact congrArg _ (congrArg _ (Lz_congr fun l _ => by show _ = Ch.tR s.B j i (- t) j l; unfold Ch.tR; rw [if_pos rfl]))
        · funext l
          show Ch.tR s.B j i (- t) k l = _
          unfold Ch.tR; rw [if_neg hk]
end
end Cw

set_option maxRecDepth 100000
set_option maxHeartbeats 8000000
namespace Cw
open PySem L2
section
variable {P : Program} {w : World} {K : PySem.W.Frag} {mg : Str → Option Value} {base : Heap}
abbrev sInit : Stmt := inClass (top 48) 0
theorem scInit : FnScope ["self", "kinds", "rows", "row", "k"] ["self", "kinds", "rows"] (defScope sInit) := ⟨rfl, rfl, rfl, by decide +kernel, rfl, by decide +kernel, by decide +kernel⟩
def one : Nat → Nat → Int := fun c k => if k = c then 1 else 0
theorem one_idm {m n : Nat} (k j : Nat) (_ : k < m) (_ : j < n) : one k j = Ch.idm k j := by
  unfold one Ch.idm
  by_cases h : j = k
  · rw [if_pos h, if_pos h.symm]
  · rw [if_neg h, if_neg fun q => h q.symm]
def spInit (K : PySem.W.Frag) (C : Addr) : Sp := fun vs H Q _ => ∃ (H0 : Hp) (g dx a : Addr) (m n : Nat) (r : Nat → Addr) (R : Nat → Nat → Int), vs = [.ref g, .int n, .ref a] ∧ Same H0 H ∧ H0 g = none ∧ H g = some (.ins C dx []) ∧ SqL K H a (Rz m r) ∧ Rows K H m n r R ∧ 1 ≤ n ∧ n ≤ 100 ∧ m ≤ 100 ∧ ∀ H', GAt C H0 H' g m n ⟨R, Ch.idm, Ch.idm⟩ → Q .non H'
theorem ok_init {f C : Addr} {fd : FuncData} (F : Fun K "__init__" "Grid.__init__" sInit f fd) (T : Txt K mg C) (mli : mg "list" = none) (mr : mg "range" = none) (cI : Cal P w K mg base "single" 1 ["size", "place"] spSingle) : FnOk P w K mg base CX0 2 f fd ["self", "kinds", "rows"] (spInit K C) := by
  obtain ⟨fI, fdI, GI, gI, kI, bI⟩ := cI
  refine F.ok scInit (fun vs H Q E h => ?_) (fun cdv A outer s H vs Q E hr h => ?_)
  · obtain ⟨H0, g, dx, a, m, n, r, R, rfl, _⟩ := h
    rfl
  · obtain ⟨H0, g, dx, a, m, n, r, R, rfl, s0, g0, hg, ha, hR, hn, hn1, hm, k⟩ := h
    refine ⟨_, pss_cons (ps_fld (pv 0) (pe_lc (own := [("row", 3)]) (g := gName 3) (tt := tYes) (te := tCB (rListOf K) (tCons (tVar 3) tNil)) (by rfl) scInit.nd (pi_list (pv 2)) (blkOk_by (own := [("row", 3)]) (N := ["self", "kinds", "rows", "row", "k"]) (sc := defScope sInit) (by decide +kernel))
        (fun _ _ _ _ _ => pg_name (i := 3) scInit.nd rfl (Or.inl rfl)) (fun _ _ _ _ _ => pts_nil) (fun _ _ _ _ _ => pe_callTy call_list_of (by rfl) mli (by decide +kernel) (pa_cons (pv 3) pa_nil))) rfl)
      (pss_cons (ps_fld (pv 0) (pv 1) rfl)
      (pss_cons (ps_fld (pv 0) (pe_lc (own := [("k", 4)]) (g := gName 4) (tt := tYes) (te := tCall spSingle [] _ (tCons (tVar 1) (tCons (tVar 4) tNil))) (by rfl) scInit.nd (pi_range1 rfl mr (pa_cons (pv 1) pa_nil)) (blkOk_by (own := [("k", 4)]) (N := ["self", "kinds", "rows", "row", "k"]) (sc := defScope sInit) (by decide +kernel))
        (fun _ _ _ _ _ => pg_name (i := 4) scInit.nd rfl (Or.inl rfl)) (fun _ _ _ _ _ => pts_nil) (fun _ _ _ _ _ => pe_call GI hr rfl gI kI bI .nil pass0 (pa_cons (pv 1) (pa_cons (pv 4) pa_nil)))) rfl)
      (pss_one (ps_fld (pv 0) (pe_lc (own := [("k", 4)]) (g := gName 4) (tt := tYes) (te := tCall spSingle [] _ (tCons (tVar 1) (tCons (tVar 4) tNil))) (by rfl) scInit.nd (pi_range1 rfl mr (pa_cons (pv 1) pa_nil)) (blkOk_by (own := [("k", 4)]) (N := ["self", "kinds", "rows", "row", "k"]) (sc := defScope sInit) (by decide +kernel))
        (fun _ _ _ _ _ => pg_name (i := 4) scInit.nd rfl (Or.inl rfl)) (fun _ _ _ _ _ => pts_nil) (fun _ _ _ _ _ => pe_call GI hr rfl gI kI bI .nil pass0 (pa_cons (pv 1) (pa_cons (pv 4) pa_nil)))) rfl)))), ?_⟩
    refine ⟨_, rfl, a, rfl, ⟨_, ha⟩, fun D hD => lc_list (xs := Rz m r) (fun i' H' => Same H H' ∧ MAt H' D i' n R) ⟨same_upd hD, fun _ => 0, upd_same, fun k hk => absurd hk (Nat.not_lt_zero _)⟩ (fun _ H' _ p => p.1.seq ha) (fun i' v H' hv p => ?_) (fun H2 p => ?_)⟩
    · have hi' : i' < m := by have := (List.getElem?_eq_some_iff.mp hv).1; rw [Rz_len] at this; exact this
      cases Option.some.inj ((Rz_get r hi').symm.trans hv)
      obtain ⟨s1, q, e1, e2⟩ := p
      refine ⟨rfl, _, rfl, r i', _, rfl, .inl (s1.seq (hR i' hi')), fun p6 np6 => ?_⟩
      have s6 : Same H' (upd H' p6 (.lst (Lz n (R i')))) := same_upd np6
      refine ⟨_, s6 _ _ e1, small (by rw [Rz_len]; omega), fun b z e => ?_, MAt.more (s6 _ _ e1) (fun k hk => s6 _ _ (e2 k hk)) upd_same hn⟩
      rw [upd_ne (ne_of_none e hD)]; exact s6 _ _ (s1 _ _ e)
    · rw [Rz_len] at p
      obtain ⟨s2, M1⟩ := p
      have hg2 := s2 _ _ hg
      have D0 : H0 D = none := s0.free hD
      refine ⟨_, rfl, g, C, dx, _, rfl, hg2, T.cl, T.nR, (by show 0 < 1000; decide), ?_⟩
      refine ⟨_, rfl, _, rfl, g, C, dx, _, rfl, upd_same, T.cl, T.nK, (by show 1 < 1000; decide), ?_⟩
      rw [upd_upd]
      have M3 := M1.fld (o := .ins C dx (putF "kinds" (.int n) (putF "rows" (.ref D) []))) hg2
      have hg3 : (upd H2 g (.ins C dx (putF "kinds" (.int n) (putF "rows" (.ref D) [])))) g = some (.ins C dx (putF "kinds" (.int n) (putF "rows" (.ref D) []))) := upd_same
      have nD3 : ∀ q, (upd H2 g (.ins C dx (putF "kinds" (.int n) (putF "rows" (.ref D) [])))) q = none → H q = none := fun q e => by
        have : q ≠ g := fun e' => by rw [e', hg3] at e; cases e
        rw [upd_ne this] at e; exact s2.free e
      have k3 : ∀ b o, H0 b = some o → (upd H2 g (.ins C dx (putF "kinds" (.int n) (putF "rows" (.ref D) [])))) b = some o := fun b o e => by
        rw [upd_ne (ne_of_none e g0)]; exact s2 _ _ (s0 _ _ e)
      generalize upd H2 g (.ins C dx (putF "kinds" (.int n) (putF "rows" (.ref D) []))) = H3 at *
      refine ⟨_, rfl, n, rfl, by omega, by omega, fun D2 hD2 => lc_range (lo := 0) (n := n) (fun i' H' => Same H3 H' ∧ MAt H' D2 i' n one) ⟨same_upd hD2, fun _ => 0, upd_same, fun k hk => absurd hk (Nat.not_lt_zero _)⟩ (fun i' H' hi' p => ?_) (fun H4 p => ?_)⟩
      · obtain ⟨s1, q, e1, e2⟩ := p
        refine ⟨rfl, _, rfl, _, rfl, n, i', (by rw [Int.zero_add]; rfl), by omega, fun H6 p6 s6 np6 e6 => ?_⟩
        refine ⟨_, s6 _ _ e1, small (by rw [Rz_len]; omega), fun b z e => ?_, MAt.more (s6 _ _ e1) (fun k hk => s6 _ _ (e2 k hk)) e6 hn⟩
        rw [upd_ne (ne_of_none e hD2)]; exact s6 _ _ (s1 _ _ e)
      · obtain ⟨s4, M2⟩ := p
        have hg4 := s4 _ _ hg3
        have nDD : D ≠ D2 := by obtain ⟨_, e, _⟩ := M3; exact ne_of_none e hD2
        refine ⟨_, rfl, g, C, dx, _, rfl, hg4, T.cl, T.nI, (by simp [putF, n_rk]), ?_⟩
        have M5 := (M3.same s4).fld (o := .ins C dx (putF "right" (.ref D2) (putF "kinds" (.int n) (putF "rows" (.ref D) [])))) hg4
        have V5 := M2.fld (o := .ins C dx (putF "right" (.ref D2) (putF "kinds" (.int n) (putF "rows" (.ref D) [])))) hg4
        have hg5 : (upd H4 g (.ins C dx (putF "right" (.ref D2) (putF "kinds" (.int n) (putF "rows" (.ref D) []))))) g = some (.ins C dx (putF "right" (.ref D2) (putF "kinds" (.int n) (putF "rows" (.ref D) [])))) := upd_same
        have nD5 : ∀ q, (upd H4 g (.ins C dx (putF "right" (.ref D2) (putF "kinds" (.int n) (putF "rows" (.ref D) []))))) q = none → H q = none := fun q e => by
          have : q ≠ g := fun e' => by rw [e', hg5] at e; cases e
          rw [upd_ne this] at e; exact nD3 _ (s4.free e)
        have k5 : ∀ b o, H0 b = some o → (upd H4 g (.ins C dx (putF "right" (.ref D2) (putF "kinds" (.int n) (putF "rows" (.ref D) []))))) b = some o := fun b o e => by
          rw [upd_ne (ne_of_none e g0)]; exact s4 _ _ (k3 _ _ e)
        generalize upd H4 g (.ins C dx (putF "right" (.ref D2) (putF "kinds" (.int n) (putF "rows" (.ref D) [])))) = H5 at *
        refine ⟨_, rfl, n, rfl, by omega, by omega, fun D3 hD3 => lc_range (lo := 0) (n := n) (fun i' H' => Same H5 H' ∧ MAt H' D3 i' n one) ⟨same_upd hD3, fun _ => 0, upd_same, fun k hk => absurd hk (Nat.not_lt_zero _)⟩ (fun i' H' hi' p => ?_) (fun H6 p => ?_)⟩
        · obtain ⟨s1, q, e1, e2⟩ := p
          refine ⟨rfl, _, rfl, _, rfl, n, i', (by rw [Int.zero_add]; rfl), by omega, fun H7 p6 s6 np6 e6 => ?_⟩
          refine ⟨_, s6 _ _ e1, small (by rw [Rz_len]; omega), fun b z e => ?_, MAt.more (s6 _ _ e1) (fun k hk => s6 _ _ (e2 k hk)) e6 hn⟩
          rw [upd_ne (ne_of_none e hD3)]; exact s6 _ _ (s1 _ _ e)
        · obtain ⟨s6, B6⟩ := p
          have hg6 := s6 _ _ hg5
          have n1 : D ≠ D3 := by obtain ⟨_, e, _⟩ := M5; exact ne_of_none e hD3
          have n2 : D2 ≠ D3 := by obtain ⟨_, e, _⟩ := V5; exact ne_of_none e hD3
          refine ⟨_, rfl, g, C, dx, _, rfl, hg6, T.cl, T.nB, (by simp [putF, n_rk, n_rr, n_ki]), ?_⟩
          rw [gf_eq]
          exact k _ ⟨fun b o e => by rw [upd_ne (ne_of_none e g0)]; exact s6 _ _ (k5 _ _ e), g0, dx, D, D2, D3, D0, s0.free (nD5 _ hD3), nDD, n1, n2, upd_same, (M5.same s6).fld hg6, ((V5.same s6).fld hg6).congr one_idm, (B6.fld hg6).congr one_idm⟩
end
end Cw

set_option maxRecDepth 100000
set_option maxHeartbeats 8000000
namespace Cw
open PySem L2
/-- seen ahead of row K, place L -/
def Seen (s n K L k l : Nat) : Prop := s ≤ k ∧ s ≤ l ∧ l < n ∧ (k < K ∨ (k = K ∧ l < L))
/-- what is found so far -/
def Lf (R : Nat → Nat → Int) (s n K L : Nat) : Option (Nat × Nat) → Prop
  | none => ∀ k l, Seen s n K L k l → R k l = 0
  | some (i, j) => Seen s n K L i j ∧ R i j ≠ 0 ∧ (∀ k l, Seen s n K L k l → R k l ≠ 0 → (R i j).natAbs ≤ (R k l).natAbs) ∧ ∀ k l, Seen s n i j k l → R k l ≠ 0 → (R i j).natAbs < (R k l).natAbs
theorem Seen.cut {s n K L k l : Nat} (h : Seen s n K (L + 1) k l) : Seen s n K L k l ∨ (k = K ∧ l = L) := by
  obtain ⟨a, b, c, d⟩ := h
  rcases d with d | ⟨d, e⟩
  · exact .inl ⟨a, b, c, .inl d⟩
  · rcases Nat.lt_or_ge l L with f | f
    · exact .inl ⟨a, b, c, .inr ⟨d, f⟩⟩
    · exact .inr ⟨d, by omega⟩
theorem Seen.more {s n K L k l : Nat} (h : Seen s n K L k l) : Seen s n K (L + 1) k l := by
  obtain ⟨a, b, c, d⟩ := h
  exact ⟨a, b, c, d.imp id fun ⟨e, f⟩ => ⟨e, by omega⟩⟩
section
variable {R : Nat → Nat → Int} {s n K L : Nat} {o : Option (Nat × Nat)}
theorem Lf.start : Lf R s n s s none := fun k l h => by obtain ⟨a, b, c, d⟩ := h; omega
theorem Lf.row (h : Lf R s n K n o) : Lf R s n (K + 1) s o := by
  have e : ∀ k l, Seen s n (K + 1) s k l → Seen s n K n k l := fun k l ⟨a, b, c, d⟩ => ⟨a, b, c, by omega⟩
  have e' : ∀ k l, Seen s n K n k l → Seen s n (K + 1) s k l := fun k l ⟨a, b, c, d⟩ => ⟨a, b, c, by omega⟩
  cases o with
  | none => exact fun k l q => h k l (e k l q)
  | some p =>
    obtain ⟨a, b, c, d⟩ := h
    exact ⟨e' _ _ a, b, fun k l q => c k l (e k l q), d⟩
theorem Lf.nought (h : Lf R s n K L o) (z : R K L = 0) : Lf R s n K (L + 1) o := by
  cases o with
  | none =>
    intro k l q
    rcases q.cut with q | ⟨rfl, rfl⟩
    · exact h k l q
    · exact z
  | some p =>
    obtain ⟨a, b, c, d⟩ := h
    refine ⟨a.more, b, fun k l q nz => ?_, d⟩
    rcases q.cut with q | ⟨rfl, rfl⟩
    · exact c k l q nz
    · exact absurd z nz
theorem Lf.first (h : Lf R s n K L none) (z : R K L ≠ 0) (h1 : s ≤ K) (h2 : s ≤ L) (h3 : L < n) : Lf R s n K (L + 1) (some (K, L)) := by
  refine ⟨⟨h1, h2, h3, .inr ⟨rfl, by omega⟩⟩, z, fun k l q nz => ?_, fun k l q nz => absurd (h k l q) nz⟩
  rcases q.cut with q | ⟨rfl, rfl⟩
  · exact absurd (h k l q) nz
  · exact Nat.le_refl _
theorem Lf.less {i j : Nat} (h : Lf R s n K L (some (i, j))) (z : R K L ≠ 0) (lt : (R K L).natAbs < (R i j).natAbs) (h1 : s ≤ K) (h2 : s ≤ L) (h3 : L < n) : Lf R s n K (L + 1) (some (K, L)) := by
  obtain ⟨a, b, c, d⟩ := h
  refine ⟨⟨h1, h2, h3, .inr ⟨rfl, by omega⟩⟩, z, fun k l q nz => ?_, fun k l q nz => by have := c k l q nz; omega⟩
  rcases q.cut with q | ⟨rfl, rfl⟩
  · have := c k l q nz; omega
  · exact Nat.le_refl _
theorem Lf.keep {i j : Nat} (h : Lf R s n K L (some (i, j))) (ge : ¬ (R K L).natAbs < (R i j).natAbs) : Lf R s n K (L + 1) (some (i, j)) := by
  obtain ⟨a, b, c, d⟩ := h
  refine ⟨a.more, b, fun k l q nz => ?_, d⟩
  rcases q.cut with q | ⟨rfl, rfl⟩
  · exact c k l q nz
  · omega
theorem Lf.least {i j m : Nat} (h : Lf R s n m s (some (i, j))) : Ch.Least R s m n i j := by
  obtain ⟨⟨a1, a2, a3, a4⟩, b, c, d⟩ := h
  exact ⟨a1, by omega, a2, a3, b, fun k l k1 k2 l1 l2 nz => c k l ⟨k1, l1, l2, .inl k2⟩ nz, fun k l k1 k2 l1 l2 e nz => d k l ⟨k1, l1, l2, e⟩ nz⟩
theorem Lf.some {m k l : Nat} (h : Lf R s n m s none) (k1 : s ≤ k) (k2 : k < m) (l1 : s ≤ l) (l2 : l < n) : R k l = 0 := h k l ⟨k1, l1, l2, .inl k2⟩
end
theorem GAt.same {C : Addr} {H0 H H' : Hp} {g : Addr} {m n : Nat} {s : Ch.St} (x : GAt C H0 H g m n s) (e : Same H H') : GAt C H0 H' g m n s := by
  obtain ⟨s0, g0, dx, a, c, d, a0, d0, n1, n2, n3, hg, h1, h2, h3⟩ := x
  exact ⟨same_tr s0 e, g0, dx, a, c, d, a0, d0, n1, n2, n3, e _ _ hg, h1.same e, h2.same e, h3.same e⟩
end Cw

set_option maxRecDepth 100000
set_option maxHeartbeats 8000000
namespace Cw
open PySem L2
/-- the found place as the program holds it -/
def FvOk (H : Hp) : Option (Nat × Nat) → V → Prop
  | none, v => v = .non
  | some (i, j), v => ∃ t, v = .ref t ∧ H t = some (.tup [.int i, .int j])
theorem FvOk.same {H H' : Hp} {o : Option (Nat × Nat)} {v : V} (h : FvOk H o v) (s : Same H H') : FvOk H' o v := by
  cases o with
  | none => exact h
  | some p => obtain ⟨t, a, b⟩ := h; exact ⟨t, a, s _ _ b⟩
section
variable {P : Program} {w : World} {K : PySem.W.Frag} {mg : Str → Option Value} {base : Heap}
abbrev sLeast : Stmt := top 51
theorem scLeast : FnScope ["grid", "step", "found", "k", "j", "size"] ["grid", "step"] (defScope sLeast) := ⟨rfl, rfl, rfl, by decide +kernel, rfl, by decide +kernel, by decide +kernel⟩
def spLeast (C : Addr) : Sp := fun vs H Q _ => ∃ (H0 : Hp) (g : Addr) (m n s : Nat) (x : Ch.St), vs = [.ref g, .int s] ∧ GAt C H0 H g m n x ∧ s ≤ m ∧ s ≤ n ∧ m ≤ 100 ∧ n ≤ 100 ∧ (∃ k l, s ≤ k ∧ k < m ∧ s ≤ l ∧ l < n ∧ x.R k l ≠ 0) ∧
  ∀ H' t (i j : Nat), Same H H' → H' t = some (.tup [.int i, .int j]) → Ch.Least x.R s m n i j → Q (.ref t) H'
theorem ok_least {f C : Addr} {fd : FuncData} (F : Fun K "least_from" "least_from" sLeast f fd) (T : Txt K mg C) (mr : mg "range" = none) (ml : mg "len" = none) (ma : mg "abs" = none) : FnOk P w K mg base CX0 1 f fd ["grid", "step"] (spLeast C) := by
  refine F.ok scLeast (fun vs H Q E h => ?_) (fun cdv A outer s H vs Q E hr h => ?_)
  · obtain ⟨H0, g, m, n, s, x, rfl, _⟩ := h
    rfl
  · obtain ⟨H0, g, m, n, s, x, rfl, G, hsm, hsn, hm, hn, ex, k⟩ := h
    refine ⟨_, pss_cons (ps_set (i := 2) scLeast.nd rfl (Or.inl rfl) pe_non)
      (pss_cons (ps_for PassesOwn.never rfl (pi_range2 rfl mr (pa_cons (pv 1) (pa_cons (pe_callB call_len_seq (by rfl) ml PySem.boot_len (pa_cons (pe_fld (pv 0) rfl) pa_nil)) pa_nil))) (pg_name (i := 3) scLeast.nd rfl (Or.inl rfl))
        (pss_one (ps_for PassesOwn.never rfl (pi_range2 rfl mr (pa_cons (pv 1) (pa_cons (pe_fld (pv 0) rfl) pa_nil))) (pg_name (i := 4) scLeast.nd rfl (Or.inl rfl))
          (pss_cons (ps_set (i := 5) scLeast.nd rfl (Or.inl rfl) (pe_callB call_abs (by rfl) ma (by decide +kernel) (pa_cons (pe_ix ix_list (pe_ix ix_list (pe_fld (pv 0) rfl) (pv 3) (fun _ _ => rfl)) (pv 4) (fun _ _ => rfl)) pa_nil)))
          (pss_one (ps_if (PW.pt (pw_and (pt_cmpR op_gt (pv 5) pe_int (nomark _)) (pw_and1 (PW.pt (pw_or (pt_cmpR op_isN (pv 2) pe_non (nomark _)) (pw_or1 (pt_cmpR op_lt (pv 5) (pe_callB call_abs (by rfl) ma (by decide +kernel) (pa_cons (pe_ix ix_list (pe_ix ix_list (pe_fld (pv 0) rfl) (pe_ix ix_tup (pv 2) pe_int (fun _ _ => rfl)) (fun _ _ => rfl)) (pe_ix ix_tup (pv 2) pe_int (fun _ _ => rfl)) (fun _ _ => rfl)) pa_nil)) (nomark _))))))))
            (pss_one (ps_set (i := 2) scLeast.nd rfl (Or.inl rfl) (pe_tup (pa_cons (pv 3) (pa_cons (pv 4) pa_nil))))) pss_nil))))))
      (pss_one (ps_ret (pv 2)))), ?_⟩
    obtain ⟨s0, g0, dx, a, c, d, a0, d0, n1, n2, n3, hg, ⟨r, hr1, hr2⟩, h2, h3⟩ := id G
    refine ⟨_, rfl, _, rfl, g, C, dx, _, _, rfl, hg, T.cl, T.nR, gf_rows .., a, _, rfl, .inl (SqL.of hr1), ?_⟩
    rw [Rz_len]
    refine ⟨s, m, rfl, by omega, ?_⟩
    rw [show ((m : Int) - (s : Int)).toNat = m - s by omega]
    refine for_range (lo := (s : Int)) (n := m - s) (fun i σ H' => ∃ (o : Option (Nat × Nat)) (fv : V) (u3 u4 u5 : Option V), σ = [some (.ref g), some (.int s), some fv, u3, u4, u5] ∧ Same H H' ∧ FvOk H' o fv ∧ Lf x.R s n (s + i) s o) ⟨none, _, _, _, _, rfl, same_rfl, rfl, .start⟩ ?_ ?_
    · rintro i σ H1 hi ⟨o, fv, u3, u4, u5, rfl, s1, fo, lf⟩
      rw [show (s : Int) + (i : Int) = ((s + i : Nat) : Int) by omega]
      refine ⟨_, rfl, _, rfl, g, C, dx, _, _, rfl, s1 _ _ hg, T.cl, T.nK, gf_kinds .., s, n, rfl, by omega, ?_⟩
      rw [show ((n : Int) - (s : Int)).toNat = n - s by omega]
      refine for_range (lo := (s : Int)) (n := n - s) (fun j σ H' => ∃ (o : Option (Nat × Nat)) (fv : V) (u4 u5 : Option V), σ = [some (.ref g), some (.int s), some fv, some (.int (s + i : Nat)), u4, u5] ∧ Same H H' ∧ FvOk H' o fv ∧ Lf x.R s n (s + i) (s + j) o) ⟨o, _, _, _, rfl, s1, fo, lf⟩ ?_ ?_
      · rintro j σ H2 hj ⟨o, fv, u4, u5, rfl, s2, fo, lf⟩
        rw [show (s : Int) + (j : Int) = ((s + j : Nat) : Int) by omega]
        have hK : s + i < m := by omega
        have hL : s + j < n := by omega
        refine ⟨_, rfl, g, C, dx, _, _, rfl, s2 _ _ hg, T.cl, T.nR, gf_rows .., _, rfl, a, _, _, _, rfl, rfl, SqL.of (s2 _ _ hr1), atI_nat (Rz_get r hK), _, rfl, r (s + i), _, _, _, rfl, rfl, SqL.of (s2 _ _ (hr2 _ hK)), atIz _ hL, _, rfl, ?_⟩
        rw [absI]
        refine ⟨_, rfl, _, _, rfl, rfl, _, rfl, ?_⟩
        by_cases z : x.R (s + i) (s + j) = 0
        · rw [decide_eq_false (by rw [z]; decide)]
          exact iteF (iteF ⟨o, fv, _, _, rfl, s2, fo, lf.nought z⟩)
        · rw [decide_eq_true (by omega)]
          refine iteT ⟨_, rfl, rfl, _, rfl, ?_⟩
          cases o with
          | none =>
            cases fo
            rw [decide_eq_true rfl]
            refine iteT (iteT ⟨_, rfl, _, rfl, by show 2 ≤ sizeLine; decide, fun t ht => ?_⟩)
            exact ⟨some (s + i, s + j), _, _, _, rfl, same_tr s2 (same_upd ht), ⟨t, rfl, upd_same⟩, lf.first z (by omega) (by omega) hL⟩
          | some pq =>
            obtain ⟨p, q⟩ := pq
            obtain ⟨t, rfl, ht⟩ := fo
            obtain ⟨⟨p1, q1, q2, p2⟩, _⟩ := id lf
            have hp : p < m := by omega
            rw [decide_eq_false (by intro e; cases e)]
            refine iteF ⟨_, rfl, _, rfl, g, C, dx, _, _, rfl, s2 _ _ hg, T.cl, T.nR, gf_rows .., _, rfl, t, _, _, _, rfl, rfl, SqT.of ht, rfl, a, _, _, _, rfl, rfl, SqL.of (s2 _ _ hr1), atI_nat (Rz_get r hp), _, rfl, t, _, _, _, rfl, rfl, SqT.of ht, rfl, r p, _, _, _, rfl, rfl, SqL.of (s2 _ _ (hr2 _ hp)), atIz _ q2, _, rfl, ?_⟩
            rw [absI]
            refine ⟨_, _, rfl, rfl, _, rfl, ?_⟩
            by_cases lt : (x.R (s + i) (s + j)).natAbs < (x.R p q).natAbs
            · rw [decide_eq_true (by omega)]
              refine iteT ⟨_, rfl, _, rfl, by show 2 ≤ sizeLine; decide, fun t' ht' => ?_⟩
              exact ⟨some (s + i, s + j), _, _, _, rfl, same_tr s2 (same_upd ht'), ⟨t', rfl, upd_same⟩, lf.less z lt (by omega) (by omega) hL⟩
            · rw [decide_eq_false (by omega)]
              exact iteF ⟨some (p, q), .ref t, _, _, rfl, s2, ⟨t, rfl, ht⟩, lf.keep lt⟩
      · rintro σ H2 ⟨o, fv, u4, u5, rfl, s2, fo, lf⟩
        rw [show s + (n - s) = n by omega] at lf
        exact ⟨o, fv, _, _, _, rfl, s2, fo, lf.row⟩
    · rintro σ H1 ⟨o, fv, u3, u4, u5, rfl, s1, fo, lf⟩
      rw [show s + (m - s) = m by omega] at lf
      cases o with
      | none =>
        obtain ⟨kk, l, k1, k2, l1, l2, nz⟩ := ex
        exact absurd (lf.some k1 k2 l1 l2) nz
      | some p =>
        obtain ⟨t, rfl, ht⟩ := fo
        exact ⟨_, rfl, k H1 t _ _ s1 ht lf.least⟩
end
end Cw

set_option maxRecDepth 100000
set_option maxHeartbeats 8000000
namespace Cw
open PySem L2
section
variable {P : Program} {w : World} {K : PySem.W.Frag} {mg : Str → Option Value} {base : Heap}
abbrev sOdd : Stmt := top 53
theorem scOdd : FnScope ["grid", "step", "k", "j"] ["grid", "step"] (defScope sOdd) := ⟨rfl, rfl, rfl, by decide +kernel, rfl, by decide +kernel, by decide +kernel⟩
def spOdd (C : Addr) : Sp := fun vs H Q _ => ∃ (H0 : Hp) (g : Addr) (m n s : Nat) (x : Ch.St), vs = [.ref g, .int s] ∧ GAt C H0 H g m n x ∧ s < m ∧ s < n ∧ m ≤ 100 ∧ n ≤ 100 ∧ x.R s s ≠ 0 ∧ (Ch.NoOdd x.R s m n → Q (.int (-1)) H) ∧
  ∀ k : Nat, s < k → k < m → (∀ k' l, s < k' → k' < k → s < l → l < n → (x.R k' l).fmod (x.R s s) = 0) → (∃ l, s < l ∧ l < n ∧ (x.R k l).fmod (x.R s s) ≠ 0) → Q (.int k) H
theorem ok_odd {f C : Addr} {fd : FuncData} (F : Fun K "odd_row" "odd_row" sOdd f fd) (T : Txt K mg C) (mr : mg "range" = none) (ml : mg "len" = none) : FnOk P w K mg base CX0 1 f fd ["grid", "step"] (spOdd C) := by
  refine F.ok scOdd (fun vs H Q E h => ?_) (fun cdv A outer s H vs Q E hr h => ?_)
  · obtain ⟨H0, g, m, n, s, x, rfl, _⟩ := h
    rfl
  · obtain ⟨H0, g, m, n, s, x, rfl, G, hsm, hsn, hm, hn, nz, kn, ko⟩ := h
    refine ⟨_, pss_cons (ps_for PassesOwn.never rfl (pi_range2 rfl mr (pa_cons (pe_op op_add (pv 1) pe_int) (pa_cons (pe_callB call_len_seq (by rfl) ml PySem.boot_len (pa_cons (pe_fld (pv 0) rfl) pa_nil)) pa_nil))) (pg_name (i := 2) scOdd.nd rfl (Or.inl rfl))
        (pss_one (ps_for PassesOwn.never rfl (pi_range2 rfl mr (pa_cons (pe_op op_add (pv 1) pe_int) (pa_cons (pe_fld (pv 0) rfl) pa_nil))) (pg_name (i := 3) scOdd.nd rfl (Or.inl rfl))
          (pss_one (ps_if (pt_cmpR op_ne (pe_op op_modZ (pe_ix ix_list (pe_ix ix_list (pe_fld (pv 0) rfl) (pv 2) (fun _ _ => rfl)) (pv 3) (fun _ _ => rfl)) (pe_ix ix_list (pe_ix ix_list (pe_fld (pv 0) rfl) (pv 1) (fun _ _ => rfl)) (pv 1) (fun _ _ => rfl))) pe_int (nomark _)) (pss_one (ps_ret (pv 2))) pss_nil)))))
      (pss_one (ps_ret (pe_un un_neg pe_int))), ?_⟩
    obtain ⟨s0, g0, dx, a, c, d, a0, d0, n1, n2, n3, hg, ⟨r, hr1, hr2⟩, h2, h3⟩ := id G
    refine ⟨_, rfl, _, _, rfl, rfl, _, rfl, g, C, dx, _, _, rfl, hg, T.cl, T.nR, gf_rows .., a, _, rfl, .inl (SqL.of hr1), ?_⟩
    rw [Rz_len]
    refine ⟨(s : Int) + 1, m, rfl, by omega, ?_⟩
    rw [show ((m : Int) - ((s : Int) + 1)).toNat = m - (s + 1) by omega]
    refine for_range (lo := (s : Int) + 1) (n := m - (s + 1)) (fun i σ H' => ∃ (u2 u3 : Option V), σ = [some (.ref g), some (.int s), u2, u3] ∧ H' = H ∧ ∀ k' l, s < k' → k' < s + 1 + i → s < l → l < n → (x.R k' l).fmod (x.R s s) = 0) ⟨_, _, rfl, rfl, fun k' l a b => by omega⟩ ?_ ?_
    · rintro i σ H1 hi ⟨u2, u3, rfl, rfl, al⟩
      rw [show (s : Int) + 1 + (i : Int) = ((s + 1 + i : Nat) : Int) by omega]
      refine ⟨_, rfl, _, _, rfl, rfl, _, rfl, g, C, dx, _, _, rfl, hg, T.cl, T.nK, gf_kinds .., (s : Int) + 1, n, rfl, by omega, ?_⟩
      rw [show ((n : Int) - ((s : Int) + 1)).toNat = n - (s + 1) by omega]
      have hK : s + 1 + i < m := by omega
      refine for_range (lo := (s : Int) + 1) (n := n - (s + 1)) (fun j σ H' => ∃ (u3 : Option V), σ = [some (.ref g), some (.int s), some (.int (s + 1 + i : Nat)), u3] ∧ H' = H1 ∧ ∀ l, s < l → l < s + 1 + j → (x.R (s + 1 + i) l).fmod (x.R s s) = 0) ⟨_, rfl, rfl, fun l a b => by omega⟩ ?_ ?_
      · rintro j σ H2 hj ⟨u3, rfl, rfl, al2⟩
        rw [show (s : Int) + 1 + (j : Int) = ((s + 1 + j : Nat) : Int) by omega]
        have hL : s + 1 + j < n := by omega
        refine ⟨_, rfl, g, C, dx, _, _, rfl, hg, T.cl, T.nR, gf_rows .., _, rfl, a, _, _, _, rfl, rfl, SqL.of hr1, atI_nat (Rz_get r hK), _, rfl, r (s + 1 + i), _, _, _, rfl, rfl, SqL.of (hr2 _ hK), atIz _ hL,
          _, rfl, g, C, dx, _, _, rfl, hg, T.cl, T.nR, gf_rows .., _, rfl, a, _, _, _, rfl, rfl, SqL.of hr1, atI_nat (Rz_get r hsm), _, rfl, r s, _, _, _, rfl, rfl, SqL.of (hr2 _ hsm), atIz _ hsn, _, _, rfl, rfl, nz, rfl, _, rfl, ?_⟩
        refine neI (fun ne => ?_) (fun eq => ?_)
        · exact ⟨_, rfl, ko _ (by omega) hK (fun k' l p q p' q' => al k' l p (by omega) p' q') ⟨s + 1 + j, by omega, hL, ne⟩⟩
        · refine ⟨_, rfl, rfl, fun l p q => ?_⟩
          rcases Nat.lt_or_ge l (s + 1 + j) with e | e
          · exact al2 l p e
          · obtain rfl : l = s + 1 + j := by omega
            exact eq
      · rintro σ H2 ⟨u3, rfl, rfl, al2⟩
        refine ⟨_, _, rfl, rfl, fun k' l p q p' q' => ?_⟩
        rcases Nat.lt_or_ge k' (s + 1 + i) with e | e
        · exact al k' l p e p' q'
        · obtain rfl : k' = s + 1 + i := by omega
          exact al2 l p' (by omega)
    · rintro σ H1 ⟨u2, u3, rfl, rfl, al⟩
      exact ⟨1, rfl, kn fun k' l p q p' q' => al k' l p (by omega) p' q'⟩
end
end Cw

set_option maxRecDepth 100000
set_option maxHeartbeats 8000000
namespace Cw
open PySem L2
/-- a product, from the left -/
def prd (f : Nat → Int) : Nat → Int
  | 0 => 1
  | k + 1 => prd f k * f k
theorem prd_pos {f : Nat → Int} : ∀ {k : Nat}, (∀ i, i < k → 0 < f i) → 0 < prd f k
  | 0, _ => by show (0 : Int) < 1; decide
  | k + 1, h => Int.mul_pos (prd_pos fun i hi => h i (by omega)) (h k (by omega))
section
variable {P : Program} {w : World} {K : PySem.W.Frag} {mg : Str → Option Value} {base : Heap}
abbrev sProd : Stmt := top 35
theorem scProd : FnScope ["numbers", "made", "number"] ["numbers"] (defScope sProd) := ⟨rfl, rfl, rfl, by decide +kernel, rfl, by decide +kernel, by decide +kernel⟩
def spProd (K : PySem.W.Frag) : Sp := fun vs H Q _ => ∃ (a : Addr) (n : Nat) (f : Nat → Int), vs = [.ref a] ∧ SqL K H a (Lz n f) ∧ (∀ i, i < n → IntMulOk (prd f i) (f i)) ∧ Q (.int (prd f n)) H
theorem ok_prod {f : Addr} {fd : FuncData} (F : Fun K "product" "product" sProd f fd) : FnOk P w K mg base CX0 1 f fd ["numbers"] (spProd K) := by
  refine F.ok scProd (fun vs H Q E h => ?_) (fun cdv A outer s H vs Q E hr h => ?_)
  · obtain ⟨a, n, f, rfl, _⟩ := h
    rfl
  · obtain ⟨a, n, f, rfl, ha, ok, k⟩ := h
    refine ⟨_, pss_cons (ps_set (i := 1) scProd.nd rfl (Or.inl rfl) pe_int)
      (pss_cons (ps_for PassesOwn.never rfl (pi_list (pv 0)) (pg_name (i := 2) scProd.nd rfl (Or.inl rfl)) (pss_one (ps_set (i := 1) scProd.nd rfl (Or.inl rfl) (pe_op op_mulZ (pv 1) (pv 2)))))
      (pss_one (ps_ret (pv 1)))), ?_⟩
    refine ⟨_, rfl, a, rfl, ⟨_, ha⟩, for_list (K := K) (a := a) (xs := Lz n f) (fun i σ H' => ∃ u, σ = [some (.ref a), some (.int (prd f i)), u] ∧ H' = H) ⟨none, rfl, rfl⟩ (fun i σ H' _ ⟨_, _, e⟩ => by rw [e]; exact ha) ?_ ?_⟩
    · rintro i v σ H2 hv ⟨u, rfl, rfl⟩
      have hi : i < n := by have := (List.getElem?_eq_some_iff.mp hv).1; rw [Lz_len] at this; exact this
      cases Option.some.inj ((Lz_get f hi).symm.trans hv)
      exact ⟨_, rfl, _, rfl, _, _, rfl, rfl, ok i hi, _, rfl, rfl⟩
    · rintro σ H' ⟨u, rfl, rfl⟩
      rw [Lz_len]
      exact ⟨_, rfl, k⟩
abbrev sHeads : Stmt := top 42
theorem scHeads : FnScope ["rows", "row"] ["rows"] (defScope sHeads) := ⟨rfl, rfl, rfl, by decide +kernel, rfl, by decide +kernel, by decide +kernel⟩
def spHeads (K : PySem.W.Frag) : Sp := fun vs H Q _ => ∃ (a : Addr) (n : Nat) (st : List Ch.Pr) (hp : Nat → Nat), vs = [.ref a] ∧ StR K H a n st ∧ Ch.Ech st n hp ∧ n ≤ 100 ∧ st.length ≤ 100 ∧ NewL H Q st.length fun i => Ch.stM st i (hp i)
theorem ok_heads {f : Addr} {fd : FuncData} (F : Fun K "heads" "heads" sHeads f fd) (cH : Cal P w K mg base "head_of" 1 ["row"] (spHead K)) : FnOk P w K mg base CX0 2 f fd ["rows"] (spHeads K) := by
  obtain ⟨fH, fdH, GH, gH, kH, bH⟩ := cH
  refine F.ok scHeads (fun vs H Q E h => ?_) (fun cdv A outer s H vs Q E hr h => ?_)
  · obtain ⟨a, n, st, hp, rfl, _⟩ := h
    rfl
  · obtain ⟨a, n, st, hp, rfl, ⟨r, ha, hR⟩, ech, hn, hm, k⟩ := h
    refine ⟨_, pss_one (ps_ret (pe_lc (own := [("row", 1)]) (g := gName 1) (tt := tYes) (te := tOp (rIxL K) (tVar 1) (tCall (spHead K) [] _ (tCons (tVar 1) tNil))) (by rfl) scHeads.nd (pi_list (pv 0)) (blkOk_by (own := [("row", 1)]) (N := ["rows", "row"]) (sc := defScope sHeads) (by decide +kernel))
        (fun _ _ _ _ _ => pg_name (i := 1) scHeads.nd rfl (Or.inl rfl)) (fun _ _ _ _ _ => pts_nil) (fun _ _ _ _ _ => pe_ix ix_list (pv 1) (pe_call GH hr rfl gH kH bH .nil pass0 (pa_cons (pv 1) pa_nil)) (fun _ _ => rfl)))), ?_⟩
    refine ⟨_, rfl, a, rfl, ⟨_, ha⟩, fun D hD => lc_list (xs := Rz st.length r) (fun i H' => Same H H' ∧ H' D = some (.lst (Lz i fun i => Ch.stM st i (hp i)))) ⟨same_upd hD, upd_same⟩ (fun _ H' _ p => p.1.seq ha) (fun i v H' hv p => ?_) (fun H' p => ?_)⟩
    · have hi : i < st.length := by have := (List.getElem?_eq_some_iff.mp hv).1; rw [Rz_len] at this; exact this
      cases Option.some.inj ((Rz_get r hi).symm.trans hv)
      obtain ⟨s1, eD⟩ := p
      refine ⟨rfl, _, rfl, _, rfl, r i, n, _, rfl, (hR.same s1) i hi, hn, fun kk hkk hz hnz => ?_⟩
      obtain rfl := head_eq ech hi hz hkk hnz
      refine ⟨r i, _, _, _, rfl, rfl, (hR.same s1) i hi, atIz _ (ech.lt i hi), _, eD, small (by rw [Lz_len]; omega), fun b z e => ?_, ?_⟩
      · rw [upd_ne (ne_of_none e hD)]; exact s1 _ _ e
      · rw [upd_same, Lz_succ]
    · rw [Rz_len] at p
      exact k H' D p.1 hD p.2
end
end Cw

set_option maxRecDepth 100000
set_option maxHeartbeats 8000000
namespace Cw
open PySem L2
section
variable {R B : Nat → Nat → Int} {q : Nat → Int} {s K L : Nat}
theorem cR_start : Ch.cR R s (s + 1) = R := by
  funext k l; unfold Ch.cR; rw [if_neg (by omega)]
theorem cR_next (h : s < K) : Ch.tR (Ch.cR R s K) K s ((Ch.cR R s K K s).fdiv (Ch.cR R s K s s)) = Ch.cR R s (K + 1) := by
  have e1 : ∀ l, Ch.cR R s K K l = R K l := fun l => by unfold Ch.cR; rw [if_neg (by omega)]
  have e2 : ∀ l, Ch.cR R s K s l = R s l := fun l => by unfold Ch.cR; rw [if_neg (by omega)]
  funext k l
  unfold Ch.tR
  rw [e1, e1, e2, e2]
  by_cases c : k = K
  · subst c
    rw [if_pos rfl]
    unfold Ch.cR; rw [if_pos ⟨h, by omega⟩]
  · rw [if_neg c]
    unfold Ch.cR
    by_cases d : s < k ∧ k < K
    · rw [if_pos d, if_pos ⟨d.1, by omega⟩]
    · rw [if_neg d, if_neg (by omega)]
theorem cC_start : Ch.cC R q s (s + 1) = R := by
  funext k l; unfold Ch.cC; rw [if_neg (by omega)]
theorem cC_next (h : s < L) : eC (Ch.cC R q s L) L s (q L) = Ch.cC R q s (L + 1) := by
  funext k l
  have e1 : Ch.cC R q s L k L = R k L := by unfold Ch.cC; rw [if_neg (by omega)]
  have e2 : Ch.cC R q s L k s = R k s := by unfold Ch.cC; rw [if_neg (by omega)]
  unfold eC
  rw [e1, e2]
  by_cases c : l = L
  · subst c
    rw [if_pos rfl]
    unfold Ch.cC; rw [if_pos ⟨h, by omega⟩]
  · rw [if_neg c]
    unfold Ch.cC
    by_cases d : s < l ∧ l < L
    · rw [if_pos d, if_pos ⟨d.1, by omega⟩]
    · rw [if_neg d, if_neg (by omega)]
theorem cB_ne {x c : Nat} (h : x ≠ s) : ∀ L, Ch.cB B q s L x c = B x c
  | 0 => rfl
  | L + 1 => by
    show (if x = s ∧ s < L then _ else Ch.cB B q s L x c) = _
    rw [if_neg fun e => h e.1]; exact cB_ne h L
theorem cB_start : ∀ L, L ≤ s + 1 → Ch.cB B q s L = B
  | 0, _ => rfl
  | L + 1, h => by
    funext x c
    show (if x = s ∧ s < L then _ else Ch.cB B q s L x c) = _
    rw [if_neg fun e => by omega, cB_start L (by omega)]
theorem cB_next (h : s < L) : Ch.tR (Ch.cB B q s L) s L (- q L) = Ch.cB B q s (L + 1) := by
  funext x c
  unfold Ch.tR
  show _ = (if x = s ∧ s < L then Ch.cB B q s L s c - (- q L) * B L c else Ch.cB B q s L x c)
  rw [cB_ne (x := L) (by omega)]
  by_cases d : x = s
  · rw [if_pos d, if_pos ⟨d, h⟩]
  · rw [if_neg d, if_neg fun e => d e.1]
/-- the quotient that the loop over places takes -/
theorem q_at (h : s < L) : (Ch.cC R q s L s L).fdiv (Ch.cC R q s L s s) = (R s L).fdiv (R s s) := by
  have e1 : Ch.cC R q s L s L = R s L := by unfold Ch.cC; rw [if_neg (by omega)]
  have e2 : Ch.cC R q s L s s = R s s := by unfold Ch.cC; rw [if_neg (by omega)]
  rw [e1, e2]
theorem qs_row {m : Nat} : Ch.qs (Ch.cR R s m) s = Ch.qs R s := by
  funext l; unfold Ch.qs; rw [Ch.cR_row, Ch.cR_row]
end
end Cw

set_option maxRecDepth 100000
set_option maxHeartbeats 8000000
namespace Cw
open PySem L2
section
variable {P : Program} {w : World} {K : PySem.W.Frag} {mg : Str → Option Value} {base : Heap}
abbrev sCross : Stmt := top 52
theorem scCross : FnScope ["grid", "step", "clean", "k", "j"] ["grid", "step"] (defScope sCross) := ⟨rfl, rfl, rfl, by decide +kernel, rfl, by decide +kernel, by decide +kernel⟩
theorem gf_no {a : Addr} {n : Nat} {c d : Addr} {m : Str} (h1 : ¬ m = "rows") (h2 : ¬ m = "kinds") (h3 : ¬ m = "right") (h4 : ¬ m = "behind") : (gf a n c d).lookup m = none := by
  rw [← gf_eq]; simp [lookup_putF, h1, h2, h3, h4]
/-- the numbers that a clearing multiplies -/
structure CcOk (x : Ch.St) (s m n : Nat) : Prop where
  nz : x.R s s ≠ 0
  log : (x.R s s).natAbs.log2 < 9000
  rows : ∀ k l, s < k → k < m → l < n → IntMulOk ((x.R k s).fdiv (x.R s s)) (x.R s l)
  colR : ∀ k j, k < m → s < j → j < n → IntMulOk (Ch.qs x.R s j) (Ch.cR x.R s m k s)
  colV : ∀ k j, k < n → s < j → j < n → IntMulOk (Ch.qs x.R s j) (x.V k s)
  colB : ∀ l j, l < n → s < j → j < n → IntMulOk (- Ch.qs x.R s j) (x.B j l)
def spCross (C : Addr) : Sp := fun vs H Q _ => ∃ (H0 : Hp) (g : Addr) (m n s : Nat) (x : Ch.St), vs = [.ref g, .int s] ∧ GAt C H0 H g m n x ∧ s < m ∧ s < n ∧ m ≤ 100 ∧ n ≤ 100 ∧ CcOk x s m n ∧
  ∀ H' (b : Bool), GAt C H0 H' g m n (x.cc s m n) → (b = true ↔ Ch.Clean (x.cc s m n).R s m n) → Q (.bl b) H'
theorem ok_cross {f C fR fP : Addr} {fd fdR fdP : FuncData} (F : Fun K "clear_cross" "clear_cross" sCross f fd) (T : Txt K mg C) (mr : mg "range" = none) (ml : mg "len" = none)
    (GR : FnOk P w K mg base CX0 2 fR fdR ["self", "row", "other", "times"] (spTakeR C)) (bR : Binds K fdR ["self", "row", "other", "times"] []) (mR : Meth K C "take_row" fR)
    (GP : FnOk P w K mg base CX0 2 fP fdP ["self", "place", "other", "times"] (spTakeP C)) (bP : Binds K fdP ["self", "place", "other", "times"] []) (mP : Meth K C "take_place" fP) : FnOk P w K mg base CX0 3 f fd ["grid", "step"] (spCross C) := by
  refine F.ok scCross (fun vs H Q E h => ?_) (fun cdv A outer s H vs Q E hr h => ?_)
  · obtain ⟨H0, g, m, n, s, x, rfl, _⟩ := h
    rfl
  · obtain ⟨H0, g, m, n, s, x, rfl, G, hsm, hsn, hm, hn, ok, k⟩ := h
    refine ⟨_, pss_cons (ps_set (i := 2) scCross.nd rfl (Or.inl rfl) pe_bl)
      (pss_cons (ps_for PassesOwn.never rfl (pi_range2 rfl mr (pa_cons (pe_op op_add (pv 1) pe_int) (pa_cons (pe_callB call_len_seq (by rfl) ml PySem.boot_len (pa_cons (pe_fld (pv 0) rfl) pa_nil)) pa_nil))) (pg_name (i := 3) scCross.nd rfl (Or.inl rfl))
        (pss_cons (ps_expr (pe_meth (pv 0) T.cl mR GR hr bR .nil pass0 (pa_cons (pv 3) (pa_cons (pv 1) (pa_cons (pe_op op_fdivZ (pe_ix ix_list (pe_ix ix_list (pe_fld (pv 0) rfl) (pv 3) (fun _ _ => rfl)) (pv 1) (fun _ _ => rfl)) (pe_ix ix_list (pe_ix ix_list (pe_fld (pv 0) rfl) (pv 1) (fun _ _ => rfl)) (pv 1) (fun _ _ => rfl))) pa_nil)))))
        (pss_one (ps_set (i := 2) scCross.nd rfl (Or.inl rfl) (pe_and (pv 2) (pe_one (pe_cmpR op_eq (pe_ix ix_list (pe_ix ix_list (pe_fld (pv 0) rfl) (pv 3) (fun _ _ => rfl)) (pv 1) (fun _ _ => rfl)) pe_int (nomark _))))))))
      (pss_cons (ps_for PassesOwn.never rfl (pi_range2 rfl mr (pa_cons (pe_op op_add (pv 1) pe_int) (pa_cons (pe_fld (pv 0) rfl) pa_nil))) (pg_name (i := 4) scCross.nd rfl (Or.inl rfl))
        (pss_cons (ps_expr (pe_meth (pv 0) T.cl mP GP hr bP .nil pass0 (pa_cons (pv 4) (pa_cons (pv 1) (pa_cons (pe_op op_fdivZ (pe_ix ix_list (pe_ix ix_list (pe_fld (pv 0) rfl) (pv 1) (fun _ _ => rfl)) (pv 4) (fun _ _ => rfl)) (pe_ix ix_list (pe_ix ix_list (pe_fld (pv 0) rfl) (pv 1) (fun _ _ => rfl)) (pv 1) (fun _ _ => rfl))) pa_nil)))))
        (pss_one (ps_set (i := 2) scCross.nd rfl (Or.inl rfl) (pe_and (pv 2) (pe_one (pe_cmpR op_eq (pe_ix ix_list (pe_ix ix_list (pe_fld (pv 0) rfl) (pv 1) (fun _ _ => rfl)) (pv 4) (fun _ _ => rfl)) pe_int (nomark _))))))))
      (pss_one (ps_ret (pv 2))))), ?_⟩
    have rowS : ∀ K' l, Ch.cR x.R s K' s l = x.R s l := fun K' l => Ch.cR_row ..
    obtain ⟨s0, g0, dx, a, c, d, a0, d0, n1, n2, n3, hg, ⟨r, hr1, hr2⟩, h2, h3⟩ := id G
    refine ⟨_, rfl, _, _, rfl, rfl, _, rfl, g, C, dx, _, _, rfl, hg, T.cl, T.nR, gf_rows .., a, _, rfl, .inl (SqL.of hr1), ?_⟩
    rw [Rz_len]
    refine ⟨(s : Int) + 1, m, rfl, by omega, ?_⟩
    rw [show ((m : Int) - ((s : Int) + 1)).toNat = m - (s + 1) by omega]
    clear s0 g0 a0 d0 n1 n2 n3 hg hr1 hr2 h2 h3 dx a c d r
    refine for_range (lo := (s : Int) + 1) (n := m - (s + 1)) (fun i σ H' => ∃ (b : Bool) (u3 u4 : Option V), σ = [some (.ref g), some (.int s), some (.bl b), u3, u4] ∧ GAt C H0 H' g m n ⟨Ch.cR x.R s (s + 1 + i), x.V, x.B⟩ ∧ (b = true ↔ ∀ k, s < k → k < s + 1 + i → Ch.cR x.R s m k s = 0)) ⟨true, _, _, rfl, by rw [show s + 1 + 0 = s + 1 from rfl, cR_start]; exact G, ⟨fun _ k a b => by omega, fun _ => rfl⟩⟩ ?_ ?_
    · rintro i σ H1 hi ⟨b, u3, u4, rfl, G1, hb⟩
      rw [show (s : Int) + 1 + (i : Int) = ((s + 1 + i : Nat) : Int) by omega]
      have hK : s + 1 + i < m := by omega
      obtain ⟨s0, g0, dx, a, c, d, a0, d0, n1, n2, n3, hg, ⟨r, hr1, hr2⟩, h2, h3⟩ := id G1
      refine ⟨_, rfl, g, dx, _, rfl, hg, gf_no (by decide +kernel) (by decide +kernel) (by decide +kernel) (by decide +kernel), _, rfl, _, rfl, _, rfl, g, C, dx, _, _, rfl, hg, T.cl, T.nR, gf_rows .., _, rfl, a, _, _, _, rfl, rfl, SqL.of hr1, atI_nat (Rz_get r hK), _, rfl, r (s + 1 + i), _, _, _, rfl, rfl, SqL.of (hr2 _ hK), atIz _ hsn,
        _, rfl, g, C, dx, _, _, rfl, hg, T.cl, T.nR, gf_rows .., _, rfl, a, _, _, _, rfl, rfl, SqL.of hr1, atI_nat (Rz_get r hsm), _, rfl, r s, _, _, _, rfl, rfl, SqL.of (hr2 _ hsm), atIz _ hsn, _, _, rfl, rfl, ?_⟩
      have rs : (fun l => Ch.cR x.R s (s + 1 + i) (s + 1 + i) l) = fun l => x.R (s + 1 + i) l := funext fun l => by unfold Ch.cR; rw [if_neg (by omega)]
      refine ⟨⟨by show Ch.cR x.R s (s + 1 + i) s s ≠ 0; rw [rowS]; exact ok.nz, by show (Ch.cR x.R s (s + 1 + i) s s).natAbs.log2 < 9000; rw [rowS]; exact ok.log⟩, ?_⟩
      refine ⟨H0, g, m, n, s + 1 + i, s, _, _, rfl, G1, hK, hsm, by omega, hn, fun l hl => ?_, fun H2 G2 => ?_⟩
      · have e1 : Ch.cR x.R s (s + 1 + i) (s + 1 + i) s = x.R (s + 1 + i) s := congrFun rs s
        show IntMulOk ((Ch.cR x.R s (s + 1 + i) (s + 1 + i) s).fdiv (Ch.cR x.R s (s + 1 + i) s s)) (Ch.cR x.R s (s + 1 + i) s l)
        rw [e1, rowS, rowS]
        exact ok.rows _ l (by omega) hK hl
      · have e := cR_next (R := x.R) (s := s) (K := s + 1 + i) (by omega)
        have G3 : GAt C H0 H2 g m n ⟨Ch.cR x.R s (s + 1 + i + 1), x.V, x.B⟩ := by rw [← e]; exact G2
        clear s0 g0 a0 d0 n1 n2 n3 hg hr1 hr2 h2 h3
        obtain ⟨s0, g0, dx, a, c, d, a0, d0, n1, n2, n3, hg, ⟨r, hr1, hr2⟩, h2, h3⟩ := id G3
        have fin : Ch.cR x.R s (s + 1 + i + 1) (s + 1 + i) s = Ch.cR x.R s m (s + 1 + i) s := by unfold Ch.cR; rw [if_pos (by omega), if_pos (by omega)]
        have all : ∀ b' : Bool, (b' = true ↔ (b = true ∧ Ch.cR x.R s m (s + 1 + i) s = 0)) → (b' = true ↔ ∀ k, s < k → k < s + 1 + (i + 1) → Ch.cR x.R s m k s = 0) := fun b' h => by
          rw [h, hb]
          exact ⟨fun ⟨p, q⟩ k k1 k2 => by
            rcases Nat.lt_or_ge k (s + 1 + i) with e | e
            · exact p k k1 e
            · obtain rfl : k = s + 1 + i := by omega
              exact q, fun p => ⟨fun k k1 k2 => p k k1 (by omega), p _ (by omega) (by omega)⟩⟩
        cases b with
        | true =>
          refine ⟨_, rfl, true, rfl, iteT ⟨_, rfl, g, C, dx, _, _, rfl, hg, T.cl, T.nR, gf_rows .., _, rfl, a, _, _, _, rfl, rfl, SqL.of hr1, atI_nat (Rz_get r hK), _, rfl, r (s + 1 + i), _, _, _, rfl, rfl, SqL.of (hr2 _ hK), atIz _ hsn, rfl, ?_⟩⟩
          exact ⟨_, _, _, rfl, G3, all _ (by simp [dec_int, fin])⟩
        | false =>
          refine ⟨_, rfl, false, rfl, iteF ?_⟩
          exact ⟨_, _, _, rfl, G3, all _ (by simp)⟩
    · rintro σ H1 ⟨b, u3, u4, rfl, G1, hb⟩
      rw [show s + 1 + (m - (s + 1)) = m by omega] at G1 hb
      obtain ⟨s0, g0, dx, a, c, d, a0, d0, n1, n2, n3, hg, ⟨r, hr1, hr2⟩, h2, h3⟩ := id G1
      refine ⟨_, rfl, _, _, rfl, rfl, _, rfl, g, C, dx, _, _, rfl, hg, T.cl, T.nK, gf_kinds .., (s : Int) + 1, n, rfl, by omega, ?_⟩
      rw [show ((n : Int) - ((s : Int) + 1)).toNat = n - (s + 1) by omega]
      clear s0 g0 a0 d0 n1 n2 n3 hg hr1 hr2 h2 h3 dx a c d r
      refine for_range (lo := (s : Int) + 1) (n := n - (s + 1)) (fun i σ H' => ∃ (b : Bool) (u3 u4 : Option V), σ = [some (.ref g), some (.int s), some (.bl b), u3, u4] ∧ GAt C H0 H' g m n ⟨Ch.cC (Ch.cR x.R s m) (Ch.qs x.R s) s (s + 1 + i), Ch.cC x.V (Ch.qs x.R s) s (s + 1 + i), Ch.cB x.B (Ch.qs x.R s) s (s + 1 + i)⟩ ∧ (b = true ↔ (∀ k, s < k → k < m → Ch.cR x.R s m k s = 0) ∧ ∀ l, s < l → l < s + 1 + i → Ch.cc x.R s m n s l = 0)) ⟨b, _, _, rfl, by rw [show s + 1 + 0 = s + 1 from rfl, cC_start, cC_start, cB_start _ (Nat.le_refl _)]; exact G1, by rw [hb]; exact ⟨fun p => ⟨p, fun l a b => by omega⟩, fun p => p.1⟩⟩ ?_ ?_
      · rintro i σ H2 hi ⟨b, u3, u4, rfl, G2, hb⟩
        rw [show (s : Int) + 1 + (i : Int) = ((s + 1 + i : Nat) : Int) by omega]
        have hL : s + 1 + i < n := by omega
        obtain ⟨s0, g0, dx, a, c, d, a0, d0, n1, n2, n3, hg, ⟨r, hr1, hr2⟩, h2, h3⟩ := id G2
        have qe := q_at (R := Ch.cR x.R s m) (q := Ch.qs x.R s) (s := s) (L := s + 1 + i) (by omega)
        rw [rowS, rowS] at qe
        have e2 : Ch.cC (Ch.cR x.R s m) (Ch.qs x.R s) s (s + 1 + i) s s = x.R s s := by unfold Ch.cC; rw [if_neg (by omega), rowS]
        refine ⟨_, rfl, g, dx, _, rfl, hg, gf_no (by decide +kernel) (by decide +kernel) (by decide +kernel) (by decide +kernel), _, rfl, _, rfl, _, rfl, g, C, dx, _, _, rfl, hg, T.cl, T.nR, gf_rows .., _, rfl, a, _, _, _, rfl, rfl, SqL.of hr1, atI_nat (Rz_get r hsm), _, rfl, r s, _, _, _, rfl, rfl, SqL.of (hr2 _ hsm), atIz _ hL,
          _, rfl, g, C, dx, _, _, rfl, hg, T.cl, T.nR, gf_rows .., _, rfl, a, _, _, _, rfl, rfl, SqL.of hr1, atI_nat (Rz_get r hsm), _, rfl, r s, _, _, _, rfl, rfl, SqL.of (hr2 _ hsm), atIz _ hsn, _, _, rfl, rfl, ⟨by show Ch.cC (Ch.cR x.R s m) (Ch.qs x.R s) s (s + 1 + i) s s ≠ 0; rw [e2]; exact ok.nz, by show (Ch.cC (Ch.cR x.R s m) (Ch.qs x.R s) s (s + 1 + i) s s).natAbs.log2 < 9000; rw [e2]; exact ok.log⟩, ?_⟩
        have qt : (Ch.cC (Ch.cR x.R s m) (Ch.qs x.R s) s (s + 1 + i) s (s + 1 + i)).fdiv (Ch.cC (Ch.cR x.R s m) (Ch.qs x.R s) s (s + 1 + i) s s) = Ch.qs x.R s (s + 1 + i) := qe
        have cs : ∀ (M : Nat → Nat → Int) k, Ch.cC M (Ch.qs x.R s) s (s + 1 + i) k s = M k s := fun M k => by unfold Ch.cC; rw [if_neg (by omega)]
        refine ⟨H0, g, m, n, s + 1 + i, s, _, _, rfl, G2, hL, hsn, hm, hn, fun k hk => ?_, fun k hk => ?_, fun l hl => ?_, fun H3 G3 => ?_⟩
        · show IntMulOk ((Ch.cC (Ch.cR x.R s m) (Ch.qs x.R s) s (s + 1 + i) s (s + 1 + i)).fdiv (Ch.cC (Ch.cR x.R s m) (Ch.qs x.R s) s (s + 1 + i) s s)) (Ch.cC (Ch.cR x.R s m) (Ch.qs x.R s) s (s + 1 + i) k s)
          rw [qt, cs]; exact ok.colR k _ hk (by omega) hL
        · show IntMulOk ((Ch.cC (Ch.cR x.R s m) (Ch.qs x.R s) s (s + 1 + i) s (s + 1 + i)).fdiv (Ch.cC (Ch.cR x.R s m) (Ch.qs x.R s) s (s + 1 + i) s s)) (Ch.cC x.V (Ch.qs x.R s) s (s + 1 + i) k s)
          rw [qt, cs]; exact ok.colV k _ hk (by omega) hL
        · show IntMulOk (- (Ch.cC (Ch.cR x.R s m) (Ch.qs x.R s) s (s + 1 + i) s (s + 1 + i)).fdiv (Ch.cC (Ch.cR x.R s m) (Ch.qs x.R s) s (s + 1 + i) s s)) (Ch.cB x.B (Ch.qs x.R s) s (s + 1 + i) (s + 1 + i) l)
          rw [qt, cB_ne (by omega)]; exact ok.colB l _ hl (by omega) hL
        · have G4 : GAt C H0 H3 g m n ⟨Ch.cC (Ch.cR x.R s m) (Ch.qs x.R s) s (s + 1 + i + 1), Ch.cC x.V (Ch.qs x.R s) s (s + 1 + i + 1), Ch.cB x.B (Ch.qs x.R s) s (s + 1 + i + 1)⟩ := by
            rw [← cC_next (by omega), ← cC_next (by omega), ← cB_next (by omega), ← qt]
            exact G3
          clear s0 g0 a0 d0 n1 n2 n3 hg hr1 hr2 h2 h3
          obtain ⟨s0, g0, dx, a, c, d, a0, d0, n1, n2, n3, hg, ⟨r, hr1, hr2⟩, h2, h3⟩ := id G4
          have fin : Ch.cC (Ch.cR x.R s m) (Ch.qs x.R s) s (s + 1 + i + 1) s (s + 1 + i) = Ch.cc x.R s m n s (s + 1 + i) := by
            show _ = Ch.cC (Ch.cR x.R s m) (Ch.qs x.R s) s n s (s + 1 + i)
            unfold Ch.cC; rw [if_pos (by omega), if_pos (by omega)]
          have all : ∀ b' : Bool, (b' = true ↔ (b = true ∧ Ch.cc x.R s m n s (s + 1 + i) = 0)) → (b' = true ↔ (∀ k, s < k → k < m → Ch.cR x.R s m k s = 0) ∧ ∀ l, s < l → l < s + 1 + (i + 1) → Ch.cc x.R s m n s l = 0) := fun b' h => by
            rw [h, hb]
            exact ⟨fun ⟨⟨p0, p⟩, q⟩ => ⟨p0, fun k k1 k2 => by
              rcases Nat.lt_or_ge k (s + 1 + i) with e | e
              · exact p k k1 e
              · obtain rfl : k = s + 1 + i := by omega
                exact q⟩, fun p => ⟨⟨p.1, fun k k1 k2 => p.2 k k1 (by omega)⟩, p.2 _ (by omega) (by omega)⟩⟩
          cases b with
          | true =>
            refine ⟨_, rfl, true, rfl, iteT ⟨_, rfl, g, C, dx, _, _, rfl, hg, T.cl, T.nR, gf_rows .., _, rfl, a, _, _, _, rfl, rfl, SqL.of hr1, atI_nat (Rz_get r hsm), _, rfl, r s, _, _, _, rfl, rfl, SqL.of (hr2 _ hsm), atIz _ hL, rfl, ?_⟩⟩
            exact ⟨_, _, _, rfl, G4, all _ (by simp [dec_int, fin])⟩
          | false =>
            refine ⟨_, rfl, false, rfl, iteF ?_⟩
            exact ⟨_, _, _, rfl, G4, all _ (by simp)⟩
      · rintro σ H2 ⟨b, u3, u4, rfl, G2, hb⟩
        rw [show s + 1 + (n - (s + 1)) = n by omega] at G2 hb
        refine ⟨_, rfl, k H2 b G2 ?_⟩
        have e : ∀ k, Ch.cc x.R s m n k s = Ch.cR x.R s m k s := fun k => by unfold Ch.cc Ch.cC; rw [if_neg (by omega)]
        rw [hb]
        show _ ↔ (∀ k, s < k → k < m → Ch.cc x.R s m n k s = 0) ∧ ∀ l, s < l → l < n → Ch.cc x.R s m n s l = 0
        simp only [e]
end
end Cw

set_option maxRecDepth 100000
set_option maxHeartbeats 8000000
namespace Cw
open PySem L2
theorem cc_ok {x : Ch.St} {s m n M W : Nat} (nz : x.R s s ≠ 0) (b : Ch.B1 x.R s m n M) (hM : M ≤ Ch.tw 5060) (D : Ch.Dia x.R s m n) (w : Ch.BT x.V x.B n W) (hW : W ≤ Ch.tw 98559494) (hs : s < m) (hn : s < n) : CcOk x s m n := by
  have ent : ∀ k l, k < m → l < n → s ≤ k ∨ s ≤ l → (x.R k l).natAbs ≤ Ch.tw 5060 := fun k l hk hl h => by
    by_cases c : s ≤ k ∧ s ≤ l
    · exact Nat.le_trans (b k l c.1 hk c.2 hl) hM
    · rw [D.z k l hk hl (by omega) (by omega)]; exact Nat.zero_le _
  have ss := ent s s hs hn (.inl (Nat.le_refl _))
  have q : ∀ j, s < j → j < n → (Ch.qs x.R s j).natAbs ≤ Ch.tw 5060 := fun j h1 h2 => Nat.le_trans (Ch.fd_le _ nz) (ent s j hs h2 (.inl (Nat.le_refl _)))
  refine ⟨nz, logT ss (by omega), fun k l h1 h2 h3 => mulT (Nat.le_trans (Ch.fd_le _ nz) (ent k s h2 hn (.inr (Nat.le_refl _)))) (ent s l hs h3 (.inl (Nat.le_refl _))) (by omega), fun k j h1 h2 h3 => mulT (q j h2 h3) (b := 5060) ?_ (by omega),
    fun k j h1 h2 h3 => mulT (q j h2 h3) (Nat.le_trans (w k s h1 hn).1 hW) (by omega), fun l j h1 h2 h3 => mulT (a := 5060) (by rw [Int.natAbs_neg]; exact q j h2 h3) (Nat.le_trans (w j l h3 h1).2 hW) (by omega)⟩
  by_cases c : s < k
  · have e : Ch.cR x.R s m k s = (x.R k s).fmod (x.R s s) := by
      unfold Ch.cR
      rw [if_pos ⟨c, h1⟩, Int.fmod_def, Int.mul_comm]
    rw [e]
    exact Nat.le_trans (Nat.le_of_lt (Ch.fm_lt _ nz)) ss
  · have e : Ch.cR x.R s m k s = x.R k s := by
      unfold Ch.cR
      rw [if_neg (by omega)]
    rw [e]
    exact ent k s h1 hn (.inr (Nat.le_refl _))
section
variable {Hm : Ch.Mat} {p s m n g P M Xm K Wm c i j k : Nat} {x : Ch.St}
theorem low_w {x0 W K c Wm : Nat} (hK : 1 ≤ K) (h : W * K ^ c ≤ Wm) : W ≤ Wm := Nat.le_trans (Nat.le_mul_of_pos_right W (Nat.pow_pos hK)) h
theorem ok_swp (I : Ch.Inv Hm p s m n x g P M Xm K Wm c) (q : Ch.Par s m n g P M Xm K) (L : Ch.Least x.R s m n i j) (hM : M ≤ Ch.tw 5060) (hW : Wm ≤ Ch.tw 98559494) : CcOk (x.swp s i j) s m n := by
  have sn : s < n := Nat.lt_of_le_of_lt L.j1 L.j2
  have sm : s < m := Nat.lt_of_le_of_lt L.i1 L.i2
  obtain ⟨W, hw, hwm⟩ := I.sz.w
  exact cc_ok (by show Ch.sS x.R s i j s s ≠ 0; rw [Ch.sS_ss]; exact L.ne) (I.sz.b1.swap L.i1 L.i2 L.j1 L.j2) hM (I.dia.swp L.i1 L.i2 L.j1 L.j2) (hw.swp sn L.j2) (Nat.le_trans (low_w (x0 := 0) (Nat.le_trans (by omega) q.hK) hwm) hW) sm sn
theorem add_cl {y : Ch.St} (D : Ch.Dia y.R s m n) (C : Ch.Clean y.R s m n) (hs : s < m) (a : s < k) (b : k < m) {l : Nat} (hl : l < n) (ne : l ≠ s) : Ch.tR y.R s k (-1) s l = y.R k l := by
  rcases Nat.lt_or_ge s l with c | c
  · exact Ch.tR_s C a b c hl
  · unfold Ch.tR
    rw [if_pos rfl, D.z s l hs hl (.inr (by omega)) (by omega)]; omega
theorem ok_add (I : Ch.Inv Hm p s m n x g P M Xm K Wm c) (q : Ch.Par s m n g P M Xm K) (L : Ch.Least x.R s m n i j) (C : Ch.Clean (x.one s m n i j).R s m n) (a : s < k) (b : k < m) (hM : M ≤ Ch.tw 5060) (hW : Wm ≤ Ch.tw 98559494) :
    (∀ l, l < n → IntMulOk (-1) ((x.one s m n i j).R k l)) ∧ CcOk ((x.one s m n i j).add s k) s m n := by
  have sn : s < n := Nat.lt_of_le_of_lt L.j1 L.j2
  have sm : s < m := Nat.lt_of_le_of_lt L.i1 L.i2
  have D := I.sz.mid q L
  have I1 := I.one L
  obtain ⟨W, hw, hwm⟩ := D.w
  have c1 : 1 ≤ c := I.sz.fall.1
  have Kp : 1 ≤ K := Nat.le_trans (by omega) q.hK
  have WM : W * (1 + 6 * M) ≤ Wm := by
    refine Nat.le_trans ?_ hwm
    exact Nat.mul_le_mul_left W (Nat.le_trans q.hK (by simpa using Nat.pow_le_pow_right Kp c1))
  generalize x.one s m n i j = y at *
  refine ⟨fun l hl => ?_, ?_⟩
  · refine mulT (a := 1) (b := 5060) (Nat.le_trans (by decide) (Ch.tw_pos 1)) ?_ (by omega)
    rcases Nat.lt_or_ge l s with c | c
    · rw [I1.2.z k l b hl (.inr c) (by omega)]; exact Nat.zero_le _
    · exact Nat.le_trans (D.b1 k l (Nat.le_of_lt a) b c hl) hM
  · refine cc_ok (M := M) ?_ (fun k' l h1 h2 h3 h4 => ?_) hM (I1.2.tR sm a b) (W := W * (1 + 6 * M)) hw (Nat.le_trans WM hW) sm sn
    · show Ch.tR y.R s k (-1) s s ≠ 0
      unfold Ch.tR
      rw [if_pos rfl, C.1 k a b]
      have := D.red.1
      omega
    · show (Ch.tR y.R s k (-1) k' l).natAbs ≤ M
      by_cases e : k' = s
      · subst e
        by_cases f : l = k'
        · subst f
          unfold Ch.tR
          rw [if_pos rfl, C.1 k a b]
          have := D.b1 l l (Nat.le_refl _) sm (Nat.le_refl _) sn
          omega
        · rw [add_cl I1.2 C sm a b h4 f]
          exact D.b1 k l (Nat.le_of_lt a) b h3 h4
      · unfold Ch.tR
        rw [if_neg e]
        exact D.b1 k' l h1 h2 h3 h4
end
theorem GAt.ins {C : Addr} {H0 H : Hp} {g : Addr} {m n : Nat} {s : Ch.St} (x : GAt C H0 H g m n s) : ∃ dx a c d, H g = some (.ins C dx (gf a n c d)) := by
  obtain ⟨s0, g0, dx, a, c, d, a0, d0, n1, n2, n3, hg, h1, h2, h3⟩ := x
  exact ⟨dx, a, c, d, hg⟩
theorem GAt.with {C : Addr} {H0 H : Hp} {g t : Addr} {m n : Nat} {s : Ch.St} {l : List V} (x : GAt C H0 H g m n s) (ht : H t = some (.tup l)) : GAt C (upd H0 t (.tup l)) H g m n s := by
  obtain ⟨s0, g0, dx, a, c, d, a0, d0, n1, n2, n3, hg, ⟨ra, h1, h1'⟩, h2, ⟨rd, h3, h3'⟩⟩ := x
  refine ⟨fun b z e => ?_, ?_, dx, a, c, d, ?_, ?_, n1, n2, n3, hg, ⟨ra, h1, h1'⟩, h2, ⟨rd, h3, h3'⟩⟩
  · by_cases q : b = t
    · subst q; rw [upd_same] at e; cases e; exact ht
    · rw [upd_ne q] at e; exact s0 _ _ e
  · rw [upd_ne (fun e => by rw [e, ht] at hg; cases hg)]; exact g0
  · rw [upd_ne (fun e => by rw [e, ht] at h1; cases h1)]; exact a0
  · rw [upd_ne (fun e => by rw [e, ht] at h3; cases h3)]; exact d0
theorem GAt.keeps {C : Addr} {H0 H : Hp} {g t : Addr} {m n : Nat} {s : Ch.St} {o : HO} (x : GAt C (upd H0 t o) H g m n s) : H t = some o := x.1 _ _ upd_same
theorem GAt.drop {C : Addr} {H0 H H1 : Hp} {g t : Addr} {m n : Nat} {s : Ch.St} {o : HO} (x : GAt C (upd H0 t o) H g m n s) (h : Same H0 H1) (h1 : H1 t = some o) : GAt C H0 H g m n s := by
  have ht := x.keeps
  obtain ⟨s0, g0, dx, a, c, d, a0, d0, n1, n2, n3, hg, h1', h2', h3'⟩ := x
  have un : ∀ b, upd H0 t o b = none → H0 b = none := fun b e => by
    by_cases q : b = t
    · subst q; rw [upd_same] at e; cases e
    · rw [upd_ne q] at e; exact e
  refine ⟨fun b z e => ?_, un _ g0, dx, a, c, d, un _ a0, un _ d0, n1, n2, n3, hg, h1', h2', h3'⟩
  by_cases q : b = t
  · subst q
    rw [ht, ← h1]; exact h _ _ e
  · exact s0 _ _ (by rw [upd_ne q]; exact e)
section
variable {P : Program} {w : World} {K : PySem.W.Frag} {mg : Str → Option Value} {base : Heap}
/-- a method that may be called -/
def Mtd (P : Program) (w : World) (K : PySem.W.Frag) (mg : Str → Option Value) (base : Heap) (C : Addr) (name : Str) (k : Nat) (ps : List Str) (sp : Sp) : Prop :=
  ∃ f fd, FnOk P w K mg base CX0 k f fd ps sp ∧ Binds K fd ps [] ∧ Meth K C name f
abbrev sSettle : Stmt := top 54
theorem scSettle : FnScope ["grid", "step", "settled", "found", "odd", "clean"] ["grid", "step"] (defScope sSettle) := ⟨rfl, rfl, rfl, by decide +kernel, rfl, by decide +kernel, by decide +kernel⟩
def spSettle (C : Addr) : Sp := fun vs H Q _ => ∃ (H0 : Hp) (g : Addr) (m n s : Nat) (x : Ch.St) (Hm : Ch.Mat) (p q P M Xm Kk Wm c : Nat), vs = [.ref g, .int s] ∧ GAt C H0 H g m n x ∧ Ch.Inv Hm p s m n x q P M Xm Kk Wm c ∧ Ch.Par s m n q P M Xm Kk ∧ M ≤ Ch.tw 5060 ∧ Wm ≤ Ch.tw 98559494 ∧ s < m ∧ m ≤ 100 ∧
  ∀ H' y, GAt C H0 H' g m n y → Ch.Run s m n x y → Ch.Fin Hm p s m n y M Xm Wm → Q .non H'
theorem ok_settle {f C : Addr} {fd : FuncData} (F : Fun K "settle" "settle" sSettle f fd) (T : Txt K mg C)
    (cL : Cal P w K mg base "least_from" 1 ["grid", "step"] (spLeast C)) (cX : Cal P w K mg base "clear_cross" 3 ["grid", "step"] (spCross C)) (cO : Cal P w K mg base "odd_row" 1 ["grid", "step"] (spOdd C))
    (mS : Mtd P w K mg base C "swap_rows" 1 ["self", "one", "other"] (spSwapR C)) (mP : Mtd P w K mg base C "swap_places" 2 ["self", "one", "other"] (spSwapP C))
    (mR : Mtd P w K mg base C "take_row" 2 ["self", "row", "other", "times"] (spTakeR C)) (mT : Mtd P w K mg base C "turn_row" 2 ["self", "row"] (spTurnR C)) : FnOk P w K mg base CX0 4 f fd ["grid", "step"] (spSettle C) := by
  obtain ⟨fL, fdL, GL, gL, kL, bL⟩ := cL
  obtain ⟨fX, fdX, GX, gX, kX, bX⟩ := cX
  obtain ⟨fO, fdO, GO, gO, kO, bO⟩ := cO
  obtain ⟨fS, fdS, GS, bS, eS⟩ := mS
  obtain ⟨fP, fdP, GP, bP, eP⟩ := mP
  obtain ⟨fR, fdR, GR, bR, eR⟩ := mR
  obtain ⟨fT, fdT, GT, bT, eT⟩ := mT
  refine F.ok scSettle (fun vs H Q E h => ?_) (fun cdv A outer s H vs Q E hr h => ?_)
  · obtain ⟨H0, g, m, n, s, x, Hm, p, q, P, M, Xm, Kk, Wm, c, rfl, _⟩ := h
    rfl
  · obtain ⟨H0, g, m, n, s, x, Hm, p, q, P0, M, Xm, Kk, Wm, c, rfl, G, I, pr, hM, hW, hsm, hm, k⟩ := h
    have hr1 : Room 1 _ := hr.mono (by decide)
    have hr2 : Room 2 _ := hr.mono (by decide)
    have n6 := pr.n6
    have hsn : s < n := by
      obtain ⟨k', l, a, b, c', d, e⟩ := Ch.Inv.some I.bond I.dia hsm
      omega
    refine ⟨_, pss_cons (ps_set (i := 2) scSettle.nd rfl (Or.inl rfl) pe_bl)
      (pss_cons (ps_while PassesOwn.never (pt_not (pt_val (pv 2)))
        (pss_cons (ps_set (i := 3) scSettle.nd rfl (Or.inl rfl) (pe_call GL hr1 rfl gL kL bL .nil pass0 (pa_cons (pv 0) (pa_cons (pv 1) pa_nil))))
        (pss_cons (ps_expr (pe_meth (pv 0) T.cl eS GS hr1 bS .nil pass0 (pa_cons (pv 1) (pa_cons (pe_ix ix_tup (pv 3) pe_int (fun _ _ => rfl)) pa_nil))))
        (pss_cons (ps_expr (pe_meth (pv 0) T.cl eP GP hr2 bP .nil pass0 (pa_cons (pv 1) (pa_cons (pe_ix ix_tup (pv 3) pe_int (fun _ _ => rfl)) pa_nil))))
        (pss_one (ps_if (pt_val (pe_call GX hr rfl gX kX bX .nil pass0 (pa_cons (pv 0) (pa_cons (pv 1) pa_nil))))
          (pss_cons (ps_set (i := 4) scSettle.nd rfl (Or.inl rfl) (pe_call GO hr1 rfl gO kO bO .nil pass0 (pa_cons (pv 0) (pa_cons (pv 1) pa_nil))))
          (pss_one (ps_if (pt_cmpR op_lt (pv 4) pe_int (nomark _))
            (pss_one (ps_set (i := 2) scSettle.nd rfl (Or.inl rfl) pe_bl))
            (pss_cons (ps_expr (pe_meth (pv 0) T.cl eR GR hr2 bR .nil pass0 (pa_cons (pv 1) (pa_cons (pv 4) (pa_cons (pe_un un_neg pe_int) pa_nil)))))
            (pss_one (ps_set (i := 5) scSettle.nd rfl (Or.inl rfl) (pe_call GX hr rfl gX kX bX .nil pass0 (pa_cons (pv 0) (pa_cons (pv 1) pa_nil))))))))) pss_nil))))))
      (pss_one (ps_if (pt_cmpR op_lt (pe_ix ix_list (pe_ix ix_list (pe_fld (pv 0) rfl) (pv 1) (fun _ _ => rfl)) (pv 1) (fun _ _ => rfl)) pe_int (nomark _)) (pss_one (ps_expr (pe_meth (pv 0) T.cl eT GT hr2 bT .nil pass0 (pa_cons (pv 1) pa_nil)))) pss_nil))), ?_⟩
    refine ⟨fun z σ H' => ∃ (u3 u4 u5 : Option V) (x' : Ch.St) (b : Bool), σ = [some (.ref g), some (.int s), some (.bl b), u3, u4, u5] ∧ GAt C H0 H' g m n x' ∧
      ((b = false ∧ Ch.Inv Hm p s m n x' q P0 M Xm Kk Wm z ∧ ∀ y, Ch.Run s m n x' y → Ch.Run s m n x y) ∨ (b = true ∧ z = 0 ∧ Ch.Run s m n x (x'.end s) ∧ Ch.Fin Hm p s m n (x'.end s) M Xm Wm)),
      ⟨c, none, none, none, x, false, rfl, G, .inl ⟨rfl, I, fun y h => h⟩⟩, ?_⟩
    rintro z σ H1 ⟨u3, u4, u5, x', b, rfl, G1, cs⟩
    rcases cs with ⟨rfl, I1, cont⟩ | ⟨rfl, rfl, run, fin⟩
    · refine ⟨_, rfl, false, rfl, iteT ?_⟩
      refine ⟨fun σ' H'' => ∃ z', z' < z ∧ ∃ (u3 u4 u5 : Option V) (x' : Ch.St) (b : Bool), σ' = [some (.ref g), some (.int s), some (.bl b), u3, u4, u5] ∧ GAt C H0 H'' g m n x' ∧
        ((b = false ∧ Ch.Inv Hm p s m n x' q P0 M Xm Kk Wm z' ∧ ∀ y, Ch.Run s m n x' y → Ch.Run s m n x y) ∨ (b = true ∧ z' = 0 ∧ Ch.Run s m n x (x'.end s) ∧ Ch.Fin Hm p s m n (x'.end s) M Xm Wm)), fun σ' H'' h => h, ?_⟩
      have zp : 1 ≤ z := I1.sz.fall.1
      refine ⟨_, rfl, _, rfl, H0, g, m, n, s, x', rfl, G1, by omega, by omega, hm, by omega, Ch.Inv.some I1.bond I1.dia hsm, fun H2 t i j s2 ht L => ?_⟩
      have G2 := G1.same s2
      obtain ⟨dx, a, c', d, hg⟩ := G2.ins
      refine ⟨_, rfl, g, dx, _, rfl, hg, gf_no (by decide +kernel) (by decide +kernel) (by decide +kernel) (by decide +kernel), _, rfl, _, rfl, t, _, _, _, rfl, rfl, SqT.of ht, rfl, ?_⟩
      have Gt := G2.with ht
      have s02 : Same H0 H2 := G2.1
      refine ⟨_, g, m, n, s, i, x', rfl, Gt, hsm, L.i2, by omega, fun H3 G3 => ?_⟩
      clear hg dx a c' d
      obtain ⟨dx, a, c', d, hg⟩ := G3.ins
      refine ⟨_, rfl, g, dx, _, rfl, hg, gf_no (by decide +kernel) (by decide +kernel) (by decide +kernel) (by decide +kernel), _, rfl, _, rfl, t, _, _, _, rfl, rfl, SqT.of G3.keeps, rfl, ?_⟩
      refine ⟨_, g, m, n, s, j, _, rfl, G3, hsn, L.j2, hm, by omega, fun H4 G4 => ?_⟩
      have G5 : GAt C H0 H4 g m n (x'.swp s i j) := G4.drop s02 ht
      refine ⟨_, rfl, _, rfl, H0, g, m, n, s, _, rfl, G5, hsm, hsn, hm, by omega, ok_swp I1 pr L hM hW, fun H6 b G6 hb => ?_⟩
      have G7 : GAt C H0 H6 g m n (x'.one s m n i j) := G6
      cases b with
      | false =>
        refine ⟨false, rfl, iteF ?_⟩
        have nc : ¬ Ch.Clean (x'.one s m n i j).R s m n := fun q => by cases (hb.mpr q)
        obtain ⟨z', lz, I2⟩ := I1.dirty pr L nc
        exact ⟨z', lz, _, _, _, _, false, rfl, G7, .inl ⟨rfl, I2, fun y h => cont y (.dirty L nc h)⟩⟩
      | true =>
        refine ⟨true, rfl, iteT ?_⟩
        have cl : Ch.Clean (x'.one s m n i j).R s m n := hb.mp rfl
        have nz : (x'.one s m n i j).R s s ≠ 0 := (I1.sz.mid pr L).red.1
        refine ⟨_, rfl, _, rfl, H0, g, m, n, s, _, rfl, G7, hsm, hsn, hm, by omega, nz, fun no => ?_, fun k' k1 k2 k3 k4 => ?_⟩
        · refine ⟨_, rfl, _, _, rfl, rfl, _, rfl, iteT ?_⟩
          exact ⟨0, zp, _, _, _, _, true, rfl, G7, .inr ⟨rfl, rfl, cont _ (.fin L cl no), I1.fin pr L cl⟩⟩
        · refine ⟨_, rfl, _, _, rfl, rfl, _, rfl, ?_⟩
          rw [decide_eq_false (by omega)]
          refine iteF ?_
          clear hg dx a c' d
          obtain ⟨dx, a, c', d, hg⟩ := G7.ins
          have O : Ch.Odd (x'.one s m n i j).R s m n k' := ⟨k1, k2, k4, k3⟩
          have oa := ok_add I1 pr L cl k1 k2 hM hW
          refine ⟨_, rfl, g, dx, _, rfl, hg, gf_no (by decide +kernel) (by decide +kernel) (by decide +kernel) (by decide +kernel), _, rfl, _, rfl, 1, rfl, ?_⟩
          refine ⟨H0, g, m, n, s, k', -1, _, rfl, G7, hsm, k2, by omega, by omega, oa.1, fun H8 G8 => ?_⟩
          have G9 : GAt C H0 H8 g m n ((x'.one s m n i j).add s k') := G8
          refine ⟨_, rfl, _, rfl, H0, g, m, n, s, _, rfl, G9, hsm, hsn, hm, by omega, oa.2, fun H10 b G10 hb => ?_⟩
          obtain ⟨z', lz, I2⟩ := I1.odd pr L cl O
          exact ⟨z', lz, _, _, _, _, false, rfl, G10, .inl ⟨rfl, I2, fun y h => cont y (.odd L cl O h)⟩⟩
    · refine ⟨_, rfl, true, rfl, iteF ?_⟩
      obtain ⟨s0, g0, dx, a, c, d, a0, d0, n1, n2, n3, hg, ⟨r, hr1, hr2⟩, h2, h3⟩ := id G1
      refine ⟨_, rfl, g, C, dx, _, _, rfl, hg, T.cl, T.nR, gf_rows .., _, rfl, a, _, _, _, rfl, rfl, SqL.of hr1, atI_nat (Rz_get r hsm), _, rfl, r s, _, _, _, rfl, rfl, SqL.of (hr2 _ hsm), atIz _ hsn, _, _, rfl, rfl, _, rfl, ?_⟩
      by_cases neg : x'.R s s < 0
      · rw [decide_eq_true neg]
        refine iteT ⟨_, rfl, g, dx, _, rfl, hg, gf_no (by decide +kernel) (by decide +kernel) (by decide +kernel) (by decide +kernel), _, rfl, ?_⟩
        refine ⟨H0, g, m, n, s, _, rfl, G1, hsm, by omega, by omega, fun H2 G2 => ?_⟩
        have e : x'.end s = ⟨Ch.nR x'.R s, x'.V, x'.B⟩ := by unfold Ch.St.end; rw [if_pos neg]
        exact k H2 _ (by rw [e]; exact G2) run fin
      · rw [decide_eq_false neg]
        refine iteF ?_
        have e : x'.end s = x' := by unfold Ch.St.end; rw [if_neg neg]
        exact k H1 _ (by rw [e]; exact G1) run fin
end
end Cw

set_option maxRecDepth 100000
set_option maxHeartbeats 8000000
namespace Ch
/-- the steps of diagonal, from the first one on -/
inductive Dg (m n : Nat) : Nat → St → St → Prop
  | zero {x : St} : Dg m n 0 x x
  | succ {s : Nat} {x y z : St} : Dg m n s x y → Run s m n y z → Dg m n (s + 1) x z
theorem Dg.uni {m n s : Nat} {x y z : St} (A : Dg m n s x y) (B : Dg m n s x z) : y = z := by
  induction A generalizing z with
  | zero => cases B; rfl
  | succ a r ih =>
    cases B with
    | succ b q => cases ih b; exact r.uni q
/-- the grid of a stair -/
structure Dend (H : Mat) (m n : Nat) (y : St) : Prop where
  bond : Bond H m y.R y.V m n
  dia : Dia y.R m m n
  tab : BT y.V y.B n (tw 98559494)
end Ch
namespace Cw
open PySem L2
theorem GAt.weak {C : Addr} {H0 H1 H : Hp} {g : Addr} {m n : Nat} {s : Ch.St} (x : GAt C H1 H g m n s) (h : Same H0 H1) : GAt C H0 H g m n s := by
  obtain ⟨s0, g0, dx, a, c, d, a0, d0, r⟩ := x
  exact ⟨same_tr h s0, h.free g0, dx, a, c, d, h.free a0, h.free d0, r⟩
section
variable {P : Program} {w : World} {K : PySem.W.Frag} {mg : Str → Option Value} {base : Heap}
abbrev sDiag : Stmt := top 55
theorem scDiag : FnScope ["kinds", "rows", "grid", "step"] ["kinds", "rows"] (defScope sDiag) := ⟨rfl, rfl, rfl, by decide +kernel, rfl, by decide +kernel, by decide +kernel⟩
def spDiag (K : PySem.W.Frag) (C : Addr) : Sp := fun vs H Q _ => ∃ (a : Addr) (m n : Nat) (r : Nat → Addr) (R : Nat → Nat → Int), vs = [.int n, .ref a] ∧ SqL K H a (Rz m r) ∧ Rows K H m n r R ∧ 1 ≤ n ∧ n ≤ 100 ∧ m ≤ 100 ∧ Ch.Bond R m R Ch.idm m n ∧ (m = 0 ∨ ∃ cs : Ch.Cs, cs.ok m n ∧ Ch.InvT R m cs 0 m n ⟨R, Ch.idm, Ch.idm⟩) ∧
  ∀ H' g y, GAt C H H' g m n y → Ch.Dg m n m ⟨R, Ch.idm, Ch.idm⟩ y → Ch.Dend R m n y → Q (.ref g) H'
theorem ok_diag {f C fI : Addr} {fd fdI : FuncData} (F : Fun K "diagonal" "diagonal" sDiag f fd) (T : Txt K mg C) (mr : mg "range" = none) (ml : mg "len" = none) (mG : mg "Grid" = some (.ref C)) (MK : Mk K C fI)
    (GI : FnOk P w K mg base CX0 2 fI fdI ["self", "kinds", "rows"] (spInit K C)) (bI : Binds K fdI ["self", "kinds", "rows"] []) (cS : Cal P w K mg base "settle" 4 ["grid", "step"] (spSettle C)) : FnOk P w K mg base CX0 5 f fd ["kinds", "rows"] (spDiag K C) := by
  obtain ⟨fS, fdS, GS, gS, kS, bS⟩ := cS
  refine F.ok scDiag (fun vs H Q E h => ?_) (fun cdv A outer s H vs Q E hr h => ?_)
  · obtain ⟨a, m, n, r, R, rfl, _⟩ := h
    rfl
  · obtain ⟨a, m, n, r, R, rfl, ha, hR, n1, hn, hm, bd, cs, k⟩ := h
    have hr3 : Room 3 _ := hr.mono (by decide)
    refine ⟨_, pss_cons (ps_set (i := 2) scDiag.nd rfl (Or.inl rfl) (pe_make MK GI hr3 rfl mG bI .nil pass0 (pa_cons (pv 0) (pa_cons (pv 1) pa_nil))))
      (pss_cons (ps_for PassesOwn.never rfl (pi_range1 rfl mr (pa_cons (pe_callB call_len_seq (by rfl) ml PySem.boot_len (pa_cons (pv 1) pa_nil)) pa_nil)) (pg_name (i := 3) scDiag.nd rfl (Or.inl rfl))
        (pss_one (ps_expr (pe_call GS hr rfl gS kS bS .nil pass0 (pa_cons (pv 2) (pa_cons (pv 3) pa_nil))))))
      (pss_one (ps_ret (pv 2)))), ?_⟩
    refine ⟨_, rfl, _, rfl, fun g dx hg hdx ne => ?_⟩
    have s1 : Same H (upd (upd H dx (.own g)) g (.ins C dx [])) := fun b o e => by
      rw [upd_ne (ne_of_none e hg), upd_ne (ne_of_none e hdx)]; exact e
    refine ⟨H, g, dx, a, m, n, r, R, rfl, s1, hg, upd_same, s1.seq ha, hR.same s1, n1, hn, hm, fun H1 G1 => ⟨rfl, ?_⟩⟩
    have t1 : Same H H1 := G1.1
    refine ⟨_, rfl, a, _, rfl, .inl (t1.seq ha), ?_⟩
    rw [Rz_len]
    refine ⟨m, rfl, by omega, by omega, ?_⟩
    have start : Ch.BT Ch.idm Ch.idm n (Ch.tw 98559494) := fun a b ha hb => by
      have := Ch.bt_start n a b ha hb
      have := Ch.tw_pos 98559494
      omega
    refine for_range (lo := 0) (n := m) (fun i σ H' => ∃ (y : Ch.St) (u : Option V), σ = [some (.int n), some (.ref a), some (.ref g), u] ∧ GAt C H H' g m n y ∧ Ch.Dg m n i ⟨R, Ch.idm, Ch.idm⟩ y ∧ (i < m → ∃ cs : Ch.Cs, cs.ok m n ∧ Ch.InvT R m cs i m n y) ∧ (i = m → Ch.Dend R m n y))
      ⟨_, none, rfl, G1, .zero, fun h => cs.elim (fun e => by omega) id, fun e => ⟨bd, ⟨fun k l hk => by omega, fun k hk => by omega, fun _ _ _ _ _ _ => trivial⟩, start⟩⟩ ?_ ?_
    · rintro i σ H2 hi ⟨y, u, rfl, G2, dg, inv, _⟩
      obtain ⟨cs, cok, c, hc, I⟩ := inv hi
      refine ⟨_, rfl, _, rfl, H, g, m, n, i, y, R, m, _, _, _, _, _, _, c, (by rw [Int.zero_add]; rfl), G2, I, Ch.tb_par cok hi, Ch.tb_le.1, Ch.tb_le.2, hi, hm, fun H3 z G3 run fin => ?_⟩
      refine ⟨z, _, rfl, G3, .succ dg run, fun hi' => ⟨cs, cok, Ch.inv_step cok hi' fin⟩, fun e => ?_⟩
      · subst e
        exact ⟨fin.bond, fin.dia, fun a b ha hb => ⟨Nat.le_trans (fin.w a b ha hb).1 Ch.tb_le.2, Nat.le_trans (fin.w a b ha hb).2 Ch.tb_le.2⟩⟩
    · rintro σ H2 ⟨y, u, rfl, G2, dg, inv, de⟩
      exact ⟨_, rfl, k H2 g y G2 dg (de rfl)⟩
end
end Cw

set_option maxRecDepth 100000
set_option maxHeartbeats 8000000
namespace Cw
open PySem L2
/-- what is known of a hall's grid -/
structure Grd (b : Nat → Nat → Int) (n N : Nat) (st wk : List Ch.Pr) (y : Ch.St) : Prop where
  lt : Ch.LT (w0 b N) n (st, wk)
  lv : Ch.LV n N b (w0 b N) n (st, wk)
  dg : Ch.Dg st.length n st.length ⟨Ch.stM st, Ch.idm, Ch.idm⟩ y
  de : Ch.Dend (Ch.stM st) st.length n y
theorem Grd.uni {b : Nat → Nat → Int} {n N : Nat} {st wk st' wk' : List Ch.Pr} {y y' : Ch.St} (A : Grd b n N st wk y) (B : Grd b n N st' wk' y') : st = st' ∧ y = y' := by
  have e := A.lt.uni B.lt
  cases e
  exact ⟨rfl, A.dg.uni B.dg⟩
section
variable {P : Program} {w : World} {K : PySem.W.Frag} {mg : Str → Option Value} {base : Heap}
abbrev sGridOf : Stmt := top 57
theorem scGridOf : FnScope ["hall"] ["hall"] (defScope sGridOf) := ⟨rfl, rfl, rfl, by decide +kernel, rfl, by decide +kernel, by decide +kernel⟩
def spGridOf (C : Addr) : Sp := fun vs H Q _ => ∃ (h : Addr) (n N : Nat) (b : Nat → Nat → Int) (B M : Nat), vs = [.ref h] ∧ Hall H h n N b ∧ HB n N b B M ∧ ∀ H' g st wk y, GAt C H H' g st.length n y → Grd b n N st wk y → Q (.ref g) H'
theorem ok_gridOf {f C : Addr} {fd : FuncData} (F : Fun K "grid_of" "grid_of" sGridOf f fd) (cS : Cal P w K mg base "stair" 6 ["hall"] (spStair K)) (cD : Cal P w K mg base "diagonal" 5 ["kinds", "rows"] (spDiag K C)) : FnOk P w K mg base CX0 7 f fd ["hall"] (spGridOf C) := by
  obtain ⟨fS, fdS, GS, gS, kS, bS⟩ := cS
  obtain ⟨fD, fdD, GD, gD, kD, bD⟩ := cD
  refine F.ok scGridOf (fun vs H Q E h => ?_) (fun cdv A outer s H vs Q E hr h => ?_)
  · obtain ⟨h, n, N, b, B, M, rfl, _⟩ := h
    rfl
  · obtain ⟨h, n, N, b, B, M, rfl, hl, hB, k⟩ := h
    have hr5 : Room 5 _ := hr.mono (by decide)
    have n1 := hl.n1
    have n6 := hl.n6
    refine ⟨_, pss_one (ps_ret (pe_call GD hr5 rfl gD kD bD .nil pass0 (pa_cons (pe_ix ix_tup (pv 0) pe_int (fun _ _ => rfl)) (pa_cons (pe_call GS hr rfl gS kS bS .nil pass0 (pa_cons (pv 0) pa_nil)) pa_nil)))), ?_⟩
    obtain ⟨tb, r, hh, hb, hR⟩ := hl.at_
    refine ⟨_, rfl, h, _, _, _, rfl, rfl, SqT.of hh, rfl, _, rfl, h, n, N, b, B, M, rfl, hl, hB, fun H1 p st wk s1 np np' hS lt lv ls => ?_⟩
    obtain ⟨rr, e1, e2⟩ := hS
    have lv' := lv
    obtain ⟨hp, ech, _⟩ := lv'.ech
    replace ech : Ch.Ech st n hp := ech
    have le : st.length ≤ n := ech.le
    refine ⟨p, st.length, n, rr, Ch.stM st, rfl, e1, e2, n1, by omega, by omega, Ch.Bond.start ech.ind, ?_, fun H2 g y G2 dg de => ?_⟩
    · rcases Nat.eq_zero_or_pos st.length with z | z
      · exact .inl z
      · have hk : Ch.Hk n (w0 b N).length B M := by rw [w0_len]; exact hB.1
        have lv2 : Ch.LV n (w0 b N).length b (w0 b N) n (st, wk) := by rw [w0_len]; exact lv
        have ls2 : Ch.LSz n (w0 b N).length B (st, wk) := by rw [w0_len]; exact ls
        obtain ⟨cs, c1, c2, c3⟩ := Ch.grid_kind hk (fun q mq l hl => by
          obtain ⟨i, hi, rfl⟩ := w0_mem mq
          exact hB.2 i l hi hl) lv2 ls2 z
        exact .inr ⟨cs, c1, Ch.inv_start c1 c2 c3⟩
    · exact k H2 g st wk y (G2.weak s1) ⟨lt, lv, dg, de⟩
abbrev sPartsIn : Stmt := top 58
theorem scPartsIn : FnScope ["grid", "made", "k"] ["grid"] (defScope sPartsIn) := ⟨rfl, rfl, rfl, by decide +kernel, rfl, by decide +kernel, by decide +kernel⟩
def spPartsIn (C : Addr) : Sp := fun vs H Q _ => ∃ (H0 : Hp) (g : Addr) (m n : Nat) (y : Ch.St), vs = [.ref g] ∧ GAt C H0 H g m n y ∧ m ≤ n ∧ n ≤ 100 ∧ NewL H Q n (Ch.part y.R m)
theorem ok_partsIn {f C : Addr} {fd : FuncData} (F : Fun K "parts_in" "parts_in" sPartsIn f fd) (T : Txt K mg C) (mr : mg "range" = none) (ml : mg "len" = none) (cN : Cal P w K mg base "noughts" 1 ["size"] spNoughts) : FnOk P w K mg base CX0 2 f fd ["grid"] (spPartsIn C) := by
  obtain ⟨fN, fdN, GN, gN, kN, bN⟩ := cN
  refine F.ok scPartsIn (fun vs H Q E h => ?_) (fun cdv A outer s H vs Q E hr h => ?_)
  · obtain ⟨H0, g, m, n, y, rfl, _⟩ := h
    rfl
  · obtain ⟨H0, g, m, n, y, rfl, G, hmn, hn, k⟩ := h
    refine ⟨_, pss_cons (ps_set (i := 1) scPartsIn.nd rfl (Or.inl rfl) (pe_call GN hr rfl gN kN bN .nil pass0 (pa_cons (pe_fld (pv 0) rfl) pa_nil)))
      (pss_cons (ps_for PassesOwn.never rfl (pi_range1 rfl mr (pa_cons (pe_callB call_len_seq (by rfl) ml PySem.boot_len (pa_cons (pe_fld (pv 0) rfl) pa_nil)) pa_nil)) (pg_name (i := 2) scPartsIn.nd rfl (Or.inl rfl))
        (pss_one (ps_asg (pe_ix ix_list (pe_ix ix_list (pe_fld (pv 0) rfl) (pv 2) (fun _ _ => rfl)) (pv 2) (fun _ _ => rfl)) (pg_sub (pv 1) (pv 2) set_list))))
      (pss_one (ps_ret (pv 1)))), ?_⟩
    obtain ⟨s0, g0, dx, a, c, d, a0, d0, n1, n2, n3, hg, ⟨r, hr1, hr2⟩, h2, h3⟩ := id G
    refine ⟨_, rfl, g, C, dx, _, _, rfl, hg, T.cl, T.nK, gf_kinds .., n, rfl, hn, fun H1 p s1 np e1 => ?_⟩
    refine ⟨_, rfl, g, C, dx, _, _, rfl, s1 _ _ hg, T.cl, T.nR, gf_rows .., a, _, rfl, .inl (SqL.of (s1 _ _ hr1)), ?_⟩
    rw [Rz_len]
    refine ⟨m, rfl, by omega, by omega, ?_⟩
    refine for_range (lo := 0) (n := m) (fun i σ H' => ∃ (u : Option V), σ = [some (.ref g), some (.ref p), u] ∧ Same H H' ∧ H' p = some (.lst (Lz n fun j => if j < i then y.R j j else 0))) ⟨none, rfl, s1, by rw [e1]; exact congrArg _ (congrArg _ (Lz_congr fun j _ => by rw [if_neg (by omega)]))⟩ ?_ ?_
    · rintro i σ H2 hi ⟨u, rfl, s2, e2⟩
      rw [Int.zero_add]
      refine ⟨_, rfl, g, C, dx, _, _, rfl, s2 _ _ hg, T.cl, T.nR, gf_rows .., _, rfl, a, _, _, _, rfl, rfl, SqL.of (s2 _ _ hr1), atI_nat (Rz_get r hi), _, rfl, r i, _, _, _, rfl, rfl, SqL.of (s2 _ _ (hr2 _ hi)), atIz _ (by omega), ?_⟩
      refine ⟨_, rfl, _, rfl, p, _, _, i, rfl, rfl, e2, by rw [Lz_len]; exact ixn (by omega), ?_⟩
      refine ⟨_, rfl, fun b o e => by rw [upd_ne (ne_of_none e np)]; exact s2 _ _ e, ?_⟩
      rw [upd_same, Lz_set]
      refine congrArg _ (congrArg _ (Lz_congr fun j _ => ?_))
      by_cases e : j = i
      · subst e; rw [if_pos rfl, if_pos (by omega)]
      · rw [if_neg e]
        by_cases q : j < i
        · rw [if_pos q, if_pos (by omega)]
        · rw [if_neg q, if_neg (by omega)]
    · rintro σ H2 ⟨u, rfl, s2, e2⟩
      refine ⟨_, rfl, k H2 p s2 np ?_⟩
      rw [e2]; rfl
abbrev sParts : Stmt := top 59
theorem scParts : FnScope ["hall"] ["hall"] (defScope sParts) := ⟨rfl, rfl, rfl, by decide +kernel, rfl, by decide +kernel, by decide +kernel⟩
def spParts : Sp := fun vs H Q _ => ∃ (h : Addr) (n N : Nat) (b : Nat → Nat → Int) (B M : Nat), vs = [.ref h] ∧ Hall H h n N b ∧ HB n N b B M ∧ ∀ H' p st wk y, Same H H' → H p = none → H' p = some (.lst (Lz n (Ch.part y.R st.length))) → Grd b n N st wk y → Q (.ref p) H'
theorem ok_parts {f C : Addr} {fd : FuncData} (F : Fun K "parts" "parts" sParts f fd) (cG : Cal P w K mg base "grid_of" 7 ["hall"] (spGridOf C)) (cP : Cal P w K mg base "parts_in" 2 ["grid"] (spPartsIn C)) : FnOk P w K mg base CX0 8 f fd ["hall"] spParts := by
  obtain ⟨fG, fdG, GG, gG, kG, bG⟩ := cG
  obtain ⟨fP, fdP, GP, gP, kP, bP⟩ := cP
  refine F.ok scParts (fun vs H Q E h => ?_) (fun cdv A outer s H vs Q E hr h => ?_)
  · obtain ⟨h, n, N, b, B, M, rfl, _⟩ := h
    rfl
  · obtain ⟨h, n, N, b, B, M, rfl, hl, hB, k⟩ := h
    have hr2 : Room 2 _ := hr.mono (by decide)
    have n6 := hl.n6
    refine ⟨_, pss_one (ps_ret (pe_call GP hr2 rfl gP kP bP .nil pass0 (pa_cons (pe_call GG hr rfl gG kG bG .nil pass0 (pa_cons (pv 0) pa_nil)) pa_nil))), ?_⟩
    refine ⟨_, rfl, h, n, N, b, B, M, rfl, hl, hB, fun H1 g st wk y G1 gr => ?_⟩
    obtain ⟨hp, ech, _⟩ := gr.lv.ech
    replace ech : Ch.Ech st n hp := ech
    refine ⟨H, g, st.length, n, y, rfl, G1, ech.le, by omega, fun H2 p s2 np e2 => ?_⟩
    exact k H2 p st wk y (same_tr G1.1 s2) (G1.1.free np) e2 gr
end
end Cw

set_option maxRecDepth 100000
set_option maxHeartbeats 8000000
namespace Cw
open PySem L2
/-- the places with a part other than 1 -/
def jsT (pt : Nat → Int) (i : Nat) : List Nat := (List.range i).filter fun j => decide (pt j ≠ 1)
theorem jsT_take {pt : Nat → Int} {i : Nat} (h : pt i ≠ 1) : jsT pt (i + 1) = jsT pt i ++ [i] := by
  unfold jsT
  rw [List.range_succ, List.filter_append, List.filter_cons_of_pos (by simp [h])]; rfl
theorem jsT_skip {pt : Nat → Int} {i : Nat} (h : pt i = 1) : jsT pt (i + 1) = jsT pt i := by
  unfold jsT
  rw [List.range_succ, List.filter_append, List.filter_cons_of_neg (by simp [h])]; simp
theorem jsT_mem {pt : Nat → Int} {n j : Nat} : j ∈ jsT pt n ↔ j < n ∧ pt j ≠ 1 := by
  unfold jsT
  rw [List.mem_filter, List.mem_range]; simp
theorem jsT_len (pt : Nat → Int) (n : Nat) : (jsT pt n).length ≤ n := by
  unfold jsT
  have := List.length_filter_le (fun j => decide (pt j ≠ 1)) (List.range n)
  rw [List.length_range] at this
  exact this
/-- a list of scales -/
def ScAt (H : Hp) (p : Addr) (n : Nat) (V : Nat → Nat → Int) (pt : Nat → Int) (js : List Nat) : Prop := ∃ t c : Nat → Addr, H p = some (.lst (Rz js.length t)) ∧ ∀ i j, js[i]? = some j → H (t i) = some (.tup [.ref (c i), .int (pt j)]) ∧ H (c i) = some (.lst (Lz n fun k => V k j))
theorem ScAt.same {H H' : Hp} {p : Addr} {n : Nat} {V : Nat → Nat → Int} {pt : Nat → Int} {js : List Nat} (x : ScAt H p n V pt js) (s : Same H H') : ScAt H' p n V pt js := by
  obtain ⟨t, c, h1, h2⟩ := x
  exact ⟨t, c, s _ _ h1, fun i j e => ⟨s _ _ (h2 i j e).1, s _ _ (h2 i j e).2⟩⟩
theorem ScAt.more {H : Hp} {p q cc : Addr} {n j : Nat} {V : Nat → Nat → Int} {pt : Nat → Int} {js : List Nat} {t c : Nat → Addr} (h1 : H p = some (.lst (Rz js.length t))) (h2 : ∀ i j, js[i]? = some j → H (t i) = some (.tup [.ref (c i), .int (pt j)]) ∧ H (c i) = some (.lst (Lz n fun k => V k j)))
    (hq : H q = some (.tup [.ref cc, .int (pt j)])) (hc : H cc = some (.lst (Lz n fun k => V k j))) (hn : 1 ≤ n) : ScAt (upd H p (.lst (Rz js.length t ++ [.ref q]))) p n V pt (js ++ [j]) := by
  have nt : ∀ {a : Addr} {l}, H a = some (.tup l) → a ≠ p := fun {a l} h e => by rw [e, h1] at h; cases h
  refine ⟨fun i => if i < js.length then t i else q, fun i => if i < js.length then c i else cc, ?_, fun i j' e => ?_⟩
  · rw [upd_same, List.length_append, List.length_singleton, Rz_succ, if_neg (Nat.lt_irrefl _)]
    rw [show Rz js.length (fun j => if j < js.length then t j else q) = Rz js.length t from Rz_congr fun j hj => if_pos hj]
  · by_cases h : i < js.length
    · rw [List.getElem?_append_left h] at e
      obtain ⟨a, b⟩ := h2 i j' e
      simp only [if_pos h]
      exact ⟨by rw [upd_ne (nt a)]; exact a, by rw [upd_ne (ref_ne h1 b hn)]; exact b⟩
    · have : i < (js ++ [j]).length := (List.getElem?_eq_some_iff.mp e).1
      rw [List.length_append, List.length_singleton] at this
      obtain rfl : i = js.length := by omega
      rw [List.getElem?_append_right (Nat.le_refl _), Nat.sub_self] at e
      cases e
      simp only [if_neg (Nat.lt_irrefl _)]
      exact ⟨by rw [upd_ne (nt hq)]; exact hq, by rw [upd_ne (ref_ne h1 hc hn)]; exact hc⟩
section
variable {P : Program} {w : World} {K : PySem.W.Frag} {mg : Str → Option Value} {base : Heap}
abbrev sScales : Stmt := top 61
theorem scScales : FnScope ["hall", "grid", "sizes", "made", "j", "row"] ["hall"] (defScope sScales) := ⟨rfl, rfl, rfl, by decide +kernel, rfl, by decide +kernel, by decide +kernel⟩
def spScales : Sp := fun vs H Q _ => ∃ (h : Addr) (n N : Nat) (b : Nat → Nat → Int) (B M : Nat), vs = [.ref h] ∧ Hall H h n N b ∧ HB n N b B M ∧ ∀ H' p st wk y, Same H H' → H p = none → ScAt H' p n y.V (Ch.part y.R st.length) (jsT (Ch.part y.R st.length) n) → Grd b n N st wk y → Q (.ref p) H'
theorem ok_scales {f C : Addr} {fd : FuncData} (F : Fun K "scales" "scales" sScales f fd) (T : Txt K mg C) (mr : mg "range" = none) (cG : Cal P w K mg base "grid_of" 7 ["hall"] (spGridOf C)) (cP : Cal P w K mg base "parts" 8 ["hall"] spParts) : FnOk P w K mg base CX0 9 f fd ["hall"] spScales := by
  obtain ⟨fG, fdG, GG, gG, kG, bG⟩ := cG
  obtain ⟨fP, fdP, GP, gP, kP, bP⟩ := cP
  refine F.ok scScales (fun vs H Q E h => ?_) (fun cdv A outer s H vs Q E hr h => ?_)
  · obtain ⟨h, n, N, b, B, M, rfl, _⟩ := h
    rfl
  · obtain ⟨h, n, N, b, B, M, rfl, hl, hB, k⟩ := h
    have hr7 : Room 7 _ := hr.mono (by decide)
    have n1 := hl.n1
    have n6 := hl.n6
    refine ⟨_, pss_cons (ps_set (i := 1) scScales.nd rfl (Or.inl rfl) (pe_call GG hr7 rfl gG kG bG .nil pass0 (pa_cons (pv 0) pa_nil)))
      (pss_cons (ps_set (i := 2) scScales.nd rfl (Or.inl rfl) (pe_call GP hr rfl gP kP bP .nil pass0 (pa_cons (pv 0) pa_nil)))
      (pss_cons (ps_set (i := 3) scScales.nd rfl (Or.inl rfl) (pe_lst pa_nil))
      (pss_cons (ps_for PassesOwn.never rfl (pi_range1 rfl mr (pa_cons (pe_ix ix_tup (pv 0) pe_int (fun _ _ => rfl)) pa_nil)) (pg_name (i := 4) scScales.nd rfl (Or.inr rfl))
        (pss_one (ps_if (pt_cmpR op_ne (pe_ix ix_list (pv 2) (pv 4) (fun _ _ => rfl)) pe_int (nomark _))
          (pss_one (ps_expr (pe_bm PySem.F.plainAttrs_list PySem.F.slot_list_append PySem.F.type_list_append mt_append (pv 3) (pa_cons (pe_tup (pa_cons
            (pe_lc (own := [("row", 5)]) (g := gName 5) (tt := tYes) (te := tOp (rIxL K) (tVar 5) (tVar 4)) (by rfl) scScales.nd (pi_list (pe_fld (pv 1) rfl)) (blkOk_by (own := [("row", 5)]) (N := ["hall", "grid", "sizes", "made", "j", "row"]) (sc := defScope sScales) (by decide +kernel))
              (fun _ _ _ _ _ => pg_name (i := 5) scScales.nd rfl (Or.inl rfl)) (fun _ _ _ _ _ => pts_nil) (fun _ _ _ _ _ => pe_ix ix_list (pv 5) (pv 4) (fun _ _ => rfl)))
            (pa_cons (pe_ix ix_list (pv 2) (pv 4) (fun _ _ => rfl)) pa_nil))) pa_nil)))) pss_nil)))
      (pss_one (ps_ret (pv 3)))))), ?_⟩
    obtain ⟨tb, r, hh, hb, hR⟩ := hl.at_
    refine ⟨_, rfl, h, n, N, b, B, M, rfl, hl, hB, fun H1 g st wk y G1 gr => ?_⟩
    have s1 : Same H H1 := G1.1
    refine ⟨_, rfl, h, n, N, b, B, M, rfl, hl.same s1, hB, fun H2 z st' wk' y' s2 nz ez gr' => ?_⟩
    obtain ⟨es, ey⟩ := gr'.uni gr
    subst es ey
    have G2 := G1.same s2
    refine ⟨Nat.zero_le _, fun p hp => ?_⟩
    have s3 : Same H2 (upd H2 p (.lst [])) := same_upd hp
    have G3 := G2.same s3
    have s13 : Same H (upd H2 p (.lst [])) := same_tr (same_tr s1 s2) s3
    have ez3 := s3 _ _ ez
    have e3 : (upd H2 p (.lst [])) p = some (.lst []) := upd_same
    have np : H p = none := (same_tr s1 s2).free hp
    have n12 : Same H2 (upd H2 p (.lst [])) := s3
    generalize upd H2 p (.lst []) = H3 at *
    refine ⟨_, rfl, h, _, _, _, rfl, rfl, SqT.of (s13 _ _ hh), rfl, n, rfl, by omega, by omega, ?_⟩
    obtain ⟨s0, g0, dx, a, c, d, a0, d0, n1', n2, n3, hg, h1, ⟨rv, hv1, hv2⟩, h3⟩ := id G3
    refine for_range (lo := 0) (n := n) (fun i σ H' => ∃ (u4 u5 : Option V), σ = [some (.ref h), some (.ref g), some (.ref z), some (.ref p), u4, u5] ∧ Same H2 H' ∧ (∀ q o, q ≠ p → H3 q = some o → H' q = some o) ∧ ScAt H' p n y'.V (Ch.part y'.R st'.length) (jsT (Ch.part y'.R st'.length) i))
      ⟨none, none, rfl, n12, fun q o _ e => e, fun _ => 0, fun _ => 0, e3, fun i j e => by cases e⟩ ?_ ?_
    · rintro i σ H4 hi ⟨u4, u5, rfl, s4, s4', sc⟩
      rw [Int.zero_add]
      have nzp : z ≠ p := fun e => by rw [e, hp] at ez; cases ez
      have ez4 := s4 _ _ ez
      refine ⟨_, rfl, _, rfl, z, _, _, _, rfl, rfl, SqL.of ez4, atIz _ hi, rfl, _, rfl, ?_⟩
      refine neI (fun ne => ?_) (fun eq => ?_)
      · have ngp : g ≠ p := fun e => by rw [e, e3] at hg; cases hg
        have ncp : c ≠ p := fun e => by
          rw [e, e3] at hv1
          have : (Rz n rv).length = 0 := by injection hv1 with h; injection h with h; rw [← h]; rfl
          rw [Rz_len] at this
          omega
        have hg4 := s4' _ _ ngp hg
        have hv14 := s4' _ _ ncp hv1
        have hv24 : ∀ k, k < n → H4 (rv k) = some (.lst (Lz n (y'.V k))) := fun k hk => s4' _ _ (fun e => by
          have := hv2 k hk
          rw [e, e3] at this
          have : (Lz n (y'.V k)).length = 0 := by injection this with h; injection h with h; rw [← h]; rfl
          rw [Lz_len] at this
          omega) (hv2 k hk)
        obtain ⟨t, cc, q1, q2⟩ := sc
        refine ⟨_, rfl, .inl ⟨rfl, _, SqL.of q1⟩, ?_⟩
        refine ⟨_, rfl, g, C, dx, _, _, rfl, hg4, T.cl, T.nI, gf_right .., c, rfl, ⟨_, SqL.of hv14⟩, fun D hD => lc_list (xs := Rz n rv) (fun i' H' => Same H4 H' ∧ H' D = some (.lst (Lz i' fun k => y'.V k i))) ⟨same_upd hD, upd_same⟩ (fun _ H' _ p => SqL.of (p.1 _ _ hv14)) (fun i' v H' hv p => ?_) (fun H5 p5 => ?_)⟩
        · have hi' : i' < n := by have := (List.getElem?_eq_some_iff.mp hv).1; rw [Rz_len] at this; exact this
          cases Option.some.inj ((Rz_get rv hi').symm.trans hv)
          obtain ⟨s1, e1⟩ := p
          refine ⟨rfl, _, rfl, _, rfl, rv i', _, _, _, rfl, rfl, SqL.of (s1 _ _ (hv24 i' hi')), atIz _ hi, _, e1, small (by rw [Lz_len]; omega), fun b z e => ?_, ?_⟩
          · rw [upd_ne (ne_of_none e hD)]; exact s1 _ _ e
          · rw [upd_same, Lz_succ]
        · rw [Rz_len] at p5
          obtain ⟨s5, e5⟩ := p5
          refine ⟨_, rfl, _, rfl, z, _, _, _, rfl, rfl, SqL.of (s5 _ _ ez4), atIz _ hi, ?_⟩
          refine ⟨by show 2 ≤ sizeLine; decide, fun tt htt => ?_⟩
          have s6 : Same H5 (upd H5 tt (.tup [.ref D, .int (Ch.part y'.R st'.length i)])) := same_upd htt
          have s46 := same_tr s5 s6
          refine ⟨p, _, _, rfl, rfl, s46 _ _ q1, small (by rw [Rz_len]; have := jsT_len (Ch.part y'.R st'.length) i; omega), ?_⟩
          refine ⟨_, _, rfl, fun b o e => ?_, fun q o ne' e => ?_, ?_⟩
          · rw [upd_ne (ne_of_none e hp)]; exact s46 _ _ (s4 _ _ e)
          · rw [upd_ne ne']; exact s46 _ _ (s4' _ _ ne' e)
          · rw [jsT_take ne]
            exact ScAt.more (s46 _ _ q1) (fun i j e => ⟨s46 _ _ (q2 i j e).1, s46 _ _ (q2 i j e).2⟩) upd_same (s6 _ _ e5) n1
      · refine ⟨_, _, rfl, s4, s4', ?_⟩
        rw [jsT_skip eq]; exact sc
    · rintro σ H4 ⟨u4, u5, rfl, s4, s4', sc⟩
      exact ⟨_, rfl, k H4 p st' wk y' (same_tr (same_tr s1 s2) s4) np sc gr⟩
end
end Cw

set_option maxRecDepth 100000
set_option maxHeartbeats 8000000
namespace Cw
open PySem L2
/-- even on a scale with these weights and this measure -/
def EvW (n : Nat) (W : Nat → Int) (m : Int) (x : Nat → Int) : Prop := if m = 0 then Ch.sm n (fun l => W l * x l) = 0 else (Ch.sm n fun l => W l * x l).fmod m = 0
theorem evw_evn {n m j : Nat} {R V : Nat → Nat → Int} {x : Nat → Int} : EvW n (fun l => V l j) (Ch.part R m j) x ↔ Ch.Evn R V m n x j := by
  have e : Ch.sm n (fun l => V l j * x l) = Ch.xV V n x j := Ch.sm_congr fun l _ => Int.mul_comm _ _
  unfold EvW Ch.Evn
  rw [e]
theorem bills_span {b : Nat → Nat → Int} {n N i : Nat} {st wk : List Ch.Pr} (lv : Ch.LV n N b (w0 b N) n (st, wk)) (hi : i < N) : Ch.Span (Ch.stM st) st.length n (b i) := by
  refine lv.back (fun p => Ch.Span (Ch.stM st) st.length n p.r) (fun p h t a c => ?_) (fun p h t a c => ?_) (fun p a => ?_) (fun p m => ?_) (fun p m => ?_) ⟨b i, fun j => if j = i then 1 else 0⟩ (List.mem_map.mpr ⟨i, List.mem_range.mpr hi, rfl⟩)
  · refine (a.add (c.mul t)).congr fun l _ => ?_
    show p.r l = (p.r l - t * h.r l) + t * h.r l
    omega
  · refine (a.add (c.mul (- t))).congr fun l _ => ?_
    show p.r l - t * h.r l = p.r l + (- t) * h.r l
    rw [Int.neg_mul]; omega
  · refine (a.mul (-1)).congr fun l _ => ?_
    show p.r l = -1 * (- p.r l)
    omega
  · obtain ⟨k, hk, e⟩ := List.mem_iff_getElem.mp m
    have e2 : st[k]? = some p := by rw [List.getElem?_eq_getElem hk, e]
    rw [← Ch.stM_of e2]
    exact Ch.Span.row hk
  · exact Ch.Span.nought.congr fun l hl => lv.z p m l hl
theorem fm_big {x : Int} (h : x ≠ 0) : x.fmod ((x.natAbs : Int) + 1) ≠ 0 := by
  intro e
  have q := Ch.fm_eq x ((x.natAbs : Int) + 1)
  rw [e] at q
  generalize x.fdiv ((x.natAbs : Int) + 1) = t at q
  have n := Ch.nab_mul ((x.natAbs : Int) + 1) t
  have q2 : x.natAbs = (((x.natAbs : Int) + 1) * t).natAbs := by rw [← show x = ((x.natAbs : Int) + 1) * t by omega]
  have a : ((x.natAbs : Int) + 1).natAbs = x.natAbs + 1 := by omega
  rw [n, a] at q2
  rcases Nat.eq_zero_or_pos t.natAbs with z | z
  · rw [z] at q2; omega
  · have := Nat.le_mul_of_pos_right (x.natAbs + 1) z
    omega
section
variable {P : Program} {w : World} {K : PySem.W.Frag} {mg : Str → Option Value} {base : Heap}
abbrev sEven : Stmt := top 62
theorem scEven : FnScope ["one", "other", "scale", "heavy"] ["one", "other", "scale"] (defScope sEven) := ⟨rfl, rfl, rfl, by decide +kernel, rfl, by decide +kernel, by decide +kernel⟩
def spEven (K : PySem.W.Frag) : Sp := fun vs H Q _ => ∃ (a c t v : Addr) (n : Nat) (f g W : Nat → Int) (m : Int), vs = [.ref a, .ref c, .ref t] ∧ SqL K H a (Lz n f) ∧ SqL K H c (Lz n g) ∧ H t = some (.tup [.ref v, .int m]) ∧ H v = some (.lst (Lz n W)) ∧ n ≤ 100 ∧ (∀ l, l < n → IntMulOk 1 (f l)) ∧ (∀ l, l < n → IntMulOk (W l) (g l - 1 * f l)) ∧
  ∀ H' (q : Bool), Same H H' → (q = true ↔ EvW n W m fun l => g l - 1 * f l) → Q (.bl q) H'
theorem ok_even {f : Addr} {fd : FuncData} (F : Fun K "even" "even" sEven f fd) (cW : Cal P w K mg base "weight" 1 ["weights", "row"] (spWeight K)) (cT : Cal P w K mg base "taken" 1 ["row", "other", "times"] (spTaken K)) : FnOk P w K mg base CX0 2 f fd ["one", "other", "scale"] (spEven K) := by
  obtain ⟨fW, fdW, GW, gW, kW, bW⟩ := cW
  obtain ⟨fT, fdT, GT, gT, kT, bT⟩ := cT
  refine F.ok scEven (fun vs H Q E h => ?_) (fun cdv A outer s H vs Q E hr h => ?_)
  · obtain ⟨a, c, t, v, n, f, g, W, m, rfl, _⟩ := h
    rfl
  · obtain ⟨a, c, t, v, n, f, g, W, m, rfl, ha, hc, ht, hv, hn, o1, o2, k⟩ := h
    refine ⟨_, pss_cons (ps_set (i := 3) scEven.nd rfl (Or.inl rfl) (pe_call GW hr rfl gW kW bW .nil pass0 (pa_cons (pe_ix ix_tup (pv 2) pe_int (fun _ _ => rfl)) (pa_cons (pe_call GT hr rfl gT kT bT .nil pass0 (pa_cons (pv 1) (pa_cons (pv 0) (pa_cons pe_int pa_nil)))) pa_nil))))
      (pss_cons (ps_if (pt_cmpR op_eq (pe_ix ix_tup (pv 2) pe_int (fun _ _ => rfl)) pe_int (nomark _)) (pss_one (ps_ret (pe_cmpR op_eq (pv 3) pe_int (nomark _)))) pss_nil)
      (pss_one (ps_ret (pe_cmpR op_eq (pe_op op_modZ (pv 3) (pe_ix ix_tup (pv 2) pe_int (fun _ _ => rfl))) pe_int (nomark _))))), ?_⟩
    refine ⟨_, rfl, t, _, _, _, rfl, rfl, SqT.of ht, rfl, _, rfl, _, rfl, c, a, n, g, f, 1, rfl, hc, ha, hn, o1, fun H1 p s1 np e1 => ?_⟩
    refine ⟨v, p, n, W, _, rfl, s1.seq (SqL.of hv), SqL.of e1, hn, o2, fun H2 s2 => ?_⟩
    have s12 := same_tr s1 s2
    refine ⟨_, rfl, t, _, _, _, rfl, rfl, SqT.of (s12 _ _ ht), rfl, rfl, _, rfl, ?_⟩
    refine eqI (fun z => ?_) (fun z => ?_)
    · refine ⟨_, rfl, rfl, k H2 _ s12 ?_⟩
      unfold EvW
      rw [if_pos z, dec_int]
      simp
    · refine ⟨_, rfl, _, rfl, t, _, _, _, rfl, rfl, SqT.of (s12 _ _ ht), rfl, _, _, rfl, rfl, z, rfl, k H2 _ s12 ?_⟩
      unfold EvW
      rw [if_neg z, dec_int]
      simp
end
end Cw

set_option maxRecDepth 100000
set_option maxHeartbeats 8000000
namespace Cw
open PySem L2
section
variable {P : Program} {w : World} {K : PySem.W.Frag} {mg : Str → Option Value} {base : Heap}
abbrev sDenial : Stmt := top 63
theorem scDenial : FnScope ["hall", "one", "other", "heavy", "scale"] ["hall", "one", "other"] (defScope sDenial) := ⟨rfl, rfl, rfl, by decide +kernel, rfl, by decide +kernel, by decide +kernel⟩
/-- a denial at t -/
def DnE (H : Hp) (Q : VK) (n N : Nat) (b : Nat → Nat → Int) (x : Nat → Int) : Prop := ∀ H' t v m W, Same H H' → H' t = some (.tup [.ref v, .int m]) → H' v = some (.lst (Lz n W)) → 2 ≤ m → (∀ i, i < N → (Ch.sm n fun l => W l * b i l).fmod m = 0) → (Ch.sm n fun l => W l * x l).fmod m ≠ 0 → (∀ l, l < n → (W l).natAbs ≤ Ch.tw 98559494) → Q (.ref t) H'
def spDenial : Sp := fun vs H Q _ => ∃ (h a c : Addr) (n N : Nat) (b : Nat → Nat → Int) (B M e : Nat) (f g : Nat → Int), vs = [.ref h, .ref a, .ref c] ∧ Hall H h n N b ∧ HB n N b B M ∧ H a = some (.lst (Lz n f)) ∧ H c = some (.lst (Lz n g)) ∧ (∀ l, l < n → (f l).natAbs ≤ Ch.tw e) ∧ (∀ l, l < n → (g l - 1 * f l).natAbs ≤ Ch.tw e) ∧ e ≤ 1000 ∧
  (∃ st wk, Ch.LT (w0 b N) n (st, wk) ∧ ¬ Ch.Span (Ch.stM st) st.length n fun l => g l - 1 * f l) ∧ DnE H Q n N b fun l => g l - 1 * f l
theorem ok_denial {f : Addr} {fd : FuncData} (F : Fun K "denial" "denial" sDenial f fd) (mab : mg "abs" = none) (cA : Cal P w K mg base "apart" 4 ["hall", "one", "other"] spApart) (cS : Cal P w K mg base "scales" 9 ["hall"] spScales)
    (cE : Cal P w K mg base "even" 2 ["one", "other", "scale"] (spEven K)) (cW : Cal P w K mg base "weight" 1 ["weights", "row"] (spWeight K)) : FnOk P w K mg base CX0 10 f fd ["hall", "one", "other"] spDenial := by
  obtain ⟨fA, fdA, GA, gA, kA, bA⟩ := cA
  obtain ⟨fS, fdS, GS, gS, kS, bS⟩ := cS
  obtain ⟨fE, fdE, GE, gE, kE, bE⟩ := cE
  obtain ⟨fW, fdW, GW, gW, kW, bW⟩ := cW
  refine F.ok scDenial (fun vs H Q E h => ?_) (fun cdv A outer s H vs Q E hr h => ?_)
  · obtain ⟨h, a, c, n, N, b, B, M, e, f, g, rfl, _⟩ := h
    rfl
  · obtain ⟨h, a, c, n, N, b, B, M, e, f, g, rfl, hl, hB, ha, hc, hf, hg, he, ns, k⟩ := h
    have hr4 : Room 4 _ := hr.mono (by decide)
    have hr2 : Room 2 _ := hr.mono (by decide)
    have hr1 : Room 1 _ := hr.mono (by decide)
    have n1 := hl.n1
    have n6 := hl.n6
    refine ⟨_, pss_cons (ps_set (i := 3) scDenial.nd rfl (Or.inl rfl) (pe_call GA hr4 rfl gA kA bA .nil pass0 (pa_cons (pv 0) (pa_cons (pv 1) (pa_cons (pv 2) pa_nil)))))
      (pss_cons (ps_for PassesOwn.never rfl (pi_list (pe_call GS hr rfl gS kS bS .nil pass0 (pa_cons (pv 0) pa_nil))) (pg_name (i := 4) scDenial.nd rfl (Or.inl rfl))
        (pss_one (ps_if (pt_not (pt_val (pe_call GE hr2 rfl gE kE bE .nil pass0 (pa_cons (pv 1) (pa_cons (pv 2) (pa_cons (pv 4) pa_nil))))))
          (pss_cons (ps_if (pt_cmpR op_eq (pe_ix ix_tup (pv 4) pe_int (fun _ _ => rfl)) pe_int (nomark _))
            (pss_one (ps_ret (pe_tup (pa_cons (pe_ix ix_tup (pv 4) pe_int (fun _ _ => rfl)) (pa_cons (pe_op op_add (pe_callB call_abs (by rfl) mab (by decide +kernel) (pa_cons (pe_call GW hr1 rfl gW kW bW .nil pass0 (pa_cons (pe_ix ix_tup (pv 4) pe_int (fun _ _ => rfl)) (pa_cons (pv 3) pa_nil))) pa_nil)) pe_int) pa_nil))))) pss_nil)
          (pss_one (ps_ret (pv 4)))) pss_nil)))
      (pss_one (ps_ret pe_non))), ?_⟩
    refine ⟨_, rfl, _, rfl, _, rfl, h, a, c, n, N, b, f, g, rfl, hl, ha, hc, fun H1 hv s1 nhv ehv => ?_⟩
    refine ⟨_, rfl, h, n, N, b, B, M, rfl, hl.same s1, hB, fun H2 p st wk y s2 np sc gr => ?_⟩
    obtain ⟨t, cc, q1, q2⟩ := sc
    have s12 := same_tr s1 s2
    have tab := gr.de.tab
    refine ⟨p, rfl, ⟨_, SqL.of q1⟩, for_list (K := K) (a := p) (xs := Rz (jsT (Ch.part y.R st.length) n).length t) (fun i σ H' => ∃ u, σ = [some (.ref h), some (.ref a), some (.ref c), some (.ref hv), u] ∧ Same H2 H' ∧ ∀ i' j, i' < i → (jsT (Ch.part y.R st.length) n)[i']? = some j → EvW n (fun l => y.V l j) (Ch.part y.R st.length j) fun l => g l - 1 * f l)
      ⟨none, rfl, same_rfl, fun i' j h => by omega⟩ (fun i σ H' _ ⟨_, _, q, _⟩ => SqL.of (q _ _ q1)) ?_ ?_⟩
    · rintro i v σ H3 hv' ⟨u, rfl, s3, al⟩
      have hi : i < (jsT (Ch.part y.R st.length) n).length := by have := (List.getElem?_eq_some_iff.mp hv').1; rw [Rz_len] at this; exact this
      cases Option.some.inj ((Rz_get t hi).symm.trans hv')
      have ej : (jsT (Ch.part y.R st.length) n)[i]? = some ((jsT (Ch.part y.R st.length) n)[i]) := List.getElem?_eq_getElem hi
      generalize (jsT (Ch.part y.R st.length) n)[i] = j at ej
      obtain ⟨r1, r2⟩ := q2 i j ej
      obtain ⟨jn, j1⟩ := jsT_mem.mp (List.mem_of_getElem? ej)
      have s13 := same_tr s12 s3
      have s23 := same_tr s2 s3
      have wb : ∀ l, l < n → (y.V l j).natAbs ≤ Ch.tw 98559494 := fun l hl => (tab l j hl jn).1
      have ok2 : ∀ l, l < n → IntMulOk (y.V l j) (g l - 1 * f l) := fun l hl => mulT (wb l hl) (hg l hl) (by omega)
      have fair : ∀ i, i < N → Ch.Evn y.R y.V st.length n (b i) j := fun i hi => Ch.fair_of gr.de.bond gr.de.dia (bills_span gr.lv hi) jn
      have exj : ∀ x, Ch.sm n (fun l => y.V l j * x l) = Ch.xV y.V n x j := fun x => Ch.sm_congr fun l _ => Int.mul_comm _ _
      refine ⟨_, rfl, _, rfl, _, rfl, a, c, t i, cc i, n, f, g, _, _, rfl, SqL.of (s13 _ _ ha), SqL.of (s13 _ _ hc), s3 _ _ r1, s3 _ _ r2, by omega, fun l hl => mulT (a := 1) (b := e) (Nat.le_trans (by decide) (Ch.tw_pos 1)) (hf l hl) (by omega), ok2, fun H4 q s4 hq => ?_⟩
      have s24 := same_tr s3 s4
      have s14 := same_tr s13 s4
      cases q with
      | true =>
        refine ⟨true, rfl, iteF ⟨_, rfl, s24, fun i' j' hi' e => ?_⟩⟩
        rcases Nat.lt_or_ge i' i with z | z
        · exact al i' j' z e
        · obtain rfl : i' = i := by omega
          cases Option.some.inj (ej.symm.trans e)
          exact hq.mp rfl
      | false =>
        have nev : ¬ EvW n (fun l => y.V l j) (Ch.part y.R st.length j) fun l => g l - 1 * f l := fun z => by cases hq.mpr z
        refine ⟨false, rfl, iteT ?_⟩
        refine ⟨_, rfl, t i, _, _, _, rfl, rfl, SqT.of (s24 _ _ r1), rfl, rfl, _, rfl, ?_⟩
        refine eqI (fun z => ?_) (fun z => ?_)
        · have hx : Ch.sm n (fun l => y.V l j * (g l - 1 * f l)) ≠ 0 := fun e => nev (by unfold EvW; rw [if_pos z]; exact e)
          refine ⟨_, rfl, t i, _, _, _, rfl, rfl, SqT.of (s24 _ _ r1), rfl, ?_⟩
          refine ⟨_, rfl, t i, _, _, _, rfl, rfl, SqT.of (s24 _ _ r1), rfl, _, rfl, cc i, hv, n, fun l => y.V l j, fun l => g l - 1 * f l, rfl, SqL.of (s24 _ _ r2), SqL.of (same_tr (same_tr s2 s3) s4 _ _ ehv), by omega, ok2, fun H5 s5 => ?_⟩
          refine ⟨_, rfl, ?_⟩
          rw [absI]
          refine ⟨_, _, rfl, rfl, ?_⟩
          refine ⟨by show 2 ≤ sizeLine; decide, fun T hT => ?_⟩
          have s6 : Same H5 (upd H5 T (.tup [.ref (cc i), .int ((Ch.sm n (fun l => y.V l j * (g l - 1 * f l))).natAbs + 1)])) := same_upd hT
          have m2 : ∀ x : Int, x ≠ 0 → (2 : Int) ≤ (x.natAbs : Int) + 1 := fun x h => by omega
          refine k _ T (cc i) (((Ch.sm n (fun l => y.V l j * (g l - 1 * f l))).natAbs : Int) + 1) (fun l => y.V l j) (same_tr (same_tr s14 s5) s6) upd_same (s6 _ _ (s5 _ _ (s24 _ _ r2))) (m2 _ hx) (fun i' hi' => ?_) (fm_big hx) wb
          have := fair i' hi'
          unfold Ch.Evn at this
          rw [if_pos z] at this
          rw [exj, this]
          exact Int.zero_fmod _
        · refine ⟨_, rfl, ?_⟩
          have pj : 0 < Ch.part y.R st.length j := by
            unfold Ch.part at z ⊢
            by_cases c : j < st.length
            · rw [if_pos c]; exact gr.de.dia.p j c c jn
            · rw [if_neg c] at z; exact absurd rfl z
          refine k _ (t i) (cc i) _ (fun l => y.V l j) s14 (s24 _ _ r1) (s24 _ _ r2) (by omega) (fun i' hi' => ?_) (fun e => nev (by unfold EvW; rw [if_neg z]; exact e)) wb
          have := fair i' hi'
          unfold Ch.Evn at this
          rw [if_neg z] at this
          rw [exj]; exact this
    · rintro σ H3 ⟨u, rfl, s3, al⟩
      exfalso
      obtain ⟨st', wk', lt', nsp⟩ := ns
      have e := lt'.uni gr.lt
      cases e
      refine nsp (Ch.tell_of gr.de.bond gr.de.dia fun j hj => ?_)
      by_cases c : Ch.part y.R st.length j = 1
      · unfold Ch.Evn
        rw [c, if_neg (by decide), Int.fmod_def, Int.fdiv_one]; omega
      · have mj : j ∈ jsT (Ch.part y.R st.length) n := jsT_mem.mpr ⟨hj, c⟩
        obtain ⟨i, hi, e⟩ := List.mem_iff_getElem.mp mj
        exact evw_evn.mp (al i j (by rw [Rz_len]; exact hi) (by rw [List.getElem?_eq_getElem hi, e]))
end
end Cw

set_option maxRecDepth 100000
set_option maxHeartbeats 8000000
namespace Cw
open PySem L2
/-- an error's class -/
structure ExT (K : PySem.W.Frag) (mg : Str → Option Value) (x : Str) (U : Addr) : Prop where
  g : mg x = some (.ref U)
  x : PySem.W.excIn K U [.type "ValueError", .type "Exception", .type "BaseException", .type "object"] "ValueError.__new__" = true
  k : PySem.W.keepIn K (.ref U) = true
  b : PySem.W.subIn K (.ref U) (.type "BaseException") = some true
  t : PySem.W.typeIn K (.ref U) = some (.type "type")
theorem passNo {X : Cx} : Passes (L2.CX X.prog X.w) X (fun _ _ _ => False) := passes_call takes0 (fun _ _ _ _ h => h)
/-- a def that may raise -/
def CalX (P : Program) (w : World) (K : PySem.W.Frag) (mg : Str → Option Value) (base : Heap) (name : Str) (k : Nat) (ps : List Str) (sp : Sp) : Prop :=
  ∃ f fd, FnOk P w K mg base (L2.CX P w) k f fd ps sp ∧ mg name = some (.ref f) ∧ PySem.W.keepIn K (.ref f) = true ∧ Binds K fd ps []
section
variable {P : Program} {w : World} {K : PySem.W.Frag} {mg : Str → Option Value} {base : Heap}
abbrev sSame : Stmt := top 37
theorem scSame : FnScope ["one", "other"] ["one", "other"] (defScope sSame) := ⟨rfl, rfl, rfl, by decide +kernel, rfl, by decide +kernel, by decide +kernel⟩
def spSame (U : Addr) : Sp := fun vs H Q E => ∃ (h g : Addr) (n n' N N' : Nat) (b b' : Nat → Nat → Int), vs = [.ref h, .ref g] ∧ Hall H h n N b ∧ Hall H g n' N' b' ∧ (n ≠ n' → E (.ref U) none H) ∧ (n = n' → Q .non H)
theorem ok_same {f U : Addr} {fd : FuncData} (F : Fun K "same_kinds" "same_kinds" sSame f fd) (T : ExT K mg "Unlike" U) : FnOk P w K mg base (L2.CX P w) 1 f fd ["one", "other"] (spSame U) := by
  refine F.okX scSame (fun vs H Q E h => ?_) (fun cdv A outer s H vs Q E hr h => ?_)
  · obtain ⟨h, g, n, n', N, N', b, b', rfl, _⟩ := h
    rfl
  · obtain ⟨h, g, n, n', N, N', b, b', rfl, hl, gl, kx, kq⟩ := h
    refine ⟨_, pss_one (ps_if (pt_cmpR op_ne (pe_ix ix_tup (pv 0) pe_int (fun _ _ => rfl)) (pe_ix ix_tup (pv 1) pe_int (fun _ _ => rfl)) (nomark _))
      (pss_one (ps_raise rfl (takes_of rfl rfl rfl rfl) (pmk_own PySem.F.excBase_ValueError T.x T.g T.k (raises_own T.b T.t) rfl))) pss_nil), ?_⟩
    obtain ⟨tb, r, hh, hb, hR⟩ := hl.at_
    obtain ⟨tb', r', hh', hb', hR'⟩ := gl.at_
    refine ⟨_, rfl, h, _, _, _, rfl, rfl, SqT.of hh, rfl, _, rfl, g, _, _, _, rfl, rfl, SqT.of hh', rfl, rfl, _, rfl, ?_⟩
    refine neI (fun ne => ?_) (fun eq => ?_)
    · exact kx (by omega)
    · exact kq (by omega)
abbrev sJoined : Stmt := top 38
theorem scJoined : FnScope ["one", "other"] ["one", "other"] (defScope sJoined) := ⟨rfl, rfl, rfl, by decide +kernel, rfl, by decide +kernel, by decide +kernel⟩
def spUnl (U : Addr) : Sp := fun vs H Q E => ∃ (h g : Addr) (n n' N N' : Nat) (b b' : Nat → Nat → Int), vs = [.ref h, .ref g] ∧ Hall H h n N b ∧ Hall H g n' N' b' ∧ n ≠ n' ∧ E (.ref U) none H
theorem ok_joined {f U : Addr} {fd : FuncData} (F : Fun K "joined" "joined" sJoined f fd) (cS : CalX P w K mg base "same_kinds" 1 ["one", "other"] (spSame U)) : FnOk P w K mg base (L2.CX P w) 2 f fd ["one", "other"] (spUnl U) := by
  obtain ⟨fS, fdS, GS, gS, kS, bS⟩ := cS
  refine F.okX scJoined (fun vs H Q E h => ?_) (fun cdv A outer s H vs Q E hr h => ?_)
  · obtain ⟨h, g, n, n', N, N', b, b', rfl, _⟩ := h
    rfl
  · obtain ⟨h, g, n, n', N, N', b, b', rfl, hl, gl, ne, kx⟩ := h
    refine ⟨_, pss_cons (ps_expr (pe_call GS hr rfl gS kS bS .nil (passes_call (takes_of rfl rfl rfl rfl) (fun _ _ _ _ h => h)) (pa_cons (pv 0) (pa_cons (pv 1) pa_nil)))) (pss_one ps_never), ?_⟩
    exact ⟨_, rfl, _, rfl, h, g, n, n', N, N', b, b', rfl, hl, gl, fun _ => kx, fun e => absurd e ne⟩
abbrev sMet : Stmt := top 39
theorem scMet : FnScope ["one", "other", "ours", "idle", "uses", "common"] ["one", "other"] (defScope sMet) := ⟨rfl, rfl, rfl, by decide +kernel, rfl, by decide +kernel, by decide +kernel⟩
theorem ok_met {f U : Addr} {fd : FuncData} (F : Fun K "met" "met" sMet f fd) (cS : CalX P w K mg base "same_kinds" 1 ["one", "other"] (spSame U)) : FnOk P w K mg base (L2.CX P w) 2 f fd ["one", "other"] (spUnl U) := by
  obtain ⟨fS, fdS, GS, gS, kS, bS⟩ := cS
  refine F.okX scMet (fun vs H Q E h => ?_) (fun cdv A outer s H vs Q E hr h => ?_)
  · obtain ⟨h, g, n, n', N, N', b, b', rfl, _⟩ := h
    rfl
  · obtain ⟨h, g, n, n', N, N', b, b', rfl, hl, gl, ne, kx⟩ := h
    refine ⟨_, pss_cons (ps_expr (pe_call GS hr rfl gS kS bS .nil (passes_call (takes_of rfl rfl rfl rfl) (fun _ _ _ _ h => h)) (pa_cons (pv 0) (pa_cons (pv 1) pa_nil)))) (pss_cons ps_never (pss_cons ps_never (pss_cons ps_never (pss_one ps_never)))), ?_⟩
    exact ⟨_, rfl, _, rfl, h, g, n, n', N, N', b, b', rfl, hl, gl, fun _ => kx, fun e => absurd e ne⟩
abbrev sWithin : Stmt := top 41
theorem scWithin : FnScope ["one", "other"] ["one", "other"] (defScope sWithin) := ⟨rfl, rfl, rfl, by decide +kernel, rfl, by decide +kernel, by decide +kernel⟩
/-- each bill in the other one's stair -/
def AllIn (n N N' : Nat) (b b' : Nat → Nat → Int) : Prop := ∃ st wk, Ch.LT (w0 b' N') n (st, wk) ∧ ∀ i, i < N → Ch.Span (Ch.stM st) st.length n (b i)
theorem AllIn.iff {n N N' : Nat} {b b' : Nat → Nat → Int} {st wk : List Ch.Pr} (h : Ch.LT (w0 b' N') n (st, wk)) : AllIn n N N' b b' ↔ ∀ i, i < N → Ch.Span (Ch.stM st) st.length n (b i) := by
  constructor
  · rintro ⟨st', wk', h', a⟩
    cases h'.uni h
    exact a
  · exact fun a => ⟨st, wk, h, a⟩
def spWithin (U : Addr) : Sp := fun vs H Q E => ∃ (h g : Addr) (n n' N N' : Nat) (b b' : Nat → Nat → Int), vs = [.ref h, .ref g] ∧ Hall H h n N b ∧ Hall H g n' N' b' ∧ (n ≠ n' → E (.ref U) none H) ∧
  (n = n' → (∃ B M, HB n N' b' B M) ∧ (∀ i l, i < N → l < n → (b i l).natAbs ≤ Ch.tw 100) ∧ ∀ H' (c : Bool), Same H H' → (c = true ↔ AllIn n N N' b b') → Q (.bl c) H')
theorem st_le {n N B M : Nat} {b : Nat → Nat → Int} {st wk : List Ch.Pr} (hB : HB n N b B M) (lv : Ch.LV n N b (w0 b N) n (st, wk)) (ls : Ch.LSz n N B (st, wk)) : ∀ k l, k < st.length → l < n → (Ch.stM st k l).natAbs ≤ Ch.tw 1900 := fun k l hk' hl => by
  obtain ⟨hp, ech, _⟩ := lv.ech
  replace ech : Ch.Ech st n hp := ech
  have len := lv.len
  rw [w0_len] at len
  simp only at len
  obtain ⟨p, ep⟩ := Ch.Ech.m hk'
  rw [Ch.stM_of ep]
  exact Nat.le_trans ((ls.st p (List.mem_of_getElem? ep)).1 l hl) (Ch.tw_le (sb_le hB.1 st.length ech.le (by omega)))
theorem ok_within {f U : Addr} {fd : FuncData} (F : Fun K "within" "within" sWithin f fd) (cS : CalX P w K mg base "same_kinds" 1 ["one", "other"] (spSame U)) (cT : Cal P w K mg base "stair" 6 ["hall"] (spStair K)) (cL : Cal P w K mg base "lies_in" 3 ["rows", "stairs"] (spLies K)) : FnOk P w K mg base (L2.CX P w) 7 f fd ["one", "other"] (spWithin U) := by
  obtain ⟨fS, fdS, GS, gS, kS, bS⟩ := cS
  obtain ⟨fT, fdT, GT, gT, kT, bT⟩ := cT
  obtain ⟨fL, fdL, GL, gL, kL, bL⟩ := cL
  refine F.okX scWithin (fun vs H Q E h => ?_) (fun cdv A outer s H vs Q E hr h => ?_)
  · obtain ⟨h, g, n, n', N, N', b, b', rfl, _⟩ := h
    rfl
  · obtain ⟨h, g, n, n', N, N', b, b', rfl, hl, gl, kx, kq⟩ := h
    have hr1 : Room 1 _ := hr.mono (by decide)
    have hr3 : Room 3 _ := hr.mono (by decide)
    refine ⟨_, pss_cons (ps_expr (pe_call GS hr1 rfl gS kS bS .nil (passes_call (takes_of rfl rfl rfl rfl) (fun _ _ _ _ h => h)) (pa_cons (pv 0) (pa_cons (pv 1) pa_nil))))
      (pss_one (ps_ret (pe_call GL hr3 rfl gL kL bL .nil pass0 (pa_cons (pe_ix ix_tup (pv 0) pe_int (fun _ _ => rfl)) (pa_cons (pe_call GT hr rfl gT kT bT .nil pass0 (pa_cons (pv 1) pa_nil)) pa_nil))))), ?_⟩
    refine ⟨_, rfl, _, rfl, h, g, n, n', N, N', b, b', rfl, hl, gl, kx, fun e => ?_⟩
    subst e
    obtain ⟨⟨B, M, hB⟩, hb, k⟩ := kq rfl
    have n6 := hl.n6
    have N8 := hl.N8
    obtain ⟨tb, r, hh, hbl, hR⟩ := hl.at_
    refine ⟨_, rfl, h, _, _, _, rfl, rfl, SqT.of hh, rfl, _, rfl, g, n, N', b', B, M, rfl, gl, hB, fun H1 p st wk s1 np np' hS lt lv ls => ?_⟩
    have stl := st_le hB lv ls
    obtain ⟨hp, ech, _⟩ := lv.ech
    replace ech : Ch.Ech st n hp := ech
    have le := ech.le
    refine ⟨tb, p, n, N, 100, 1900, b, st, hp, rfl, ⟨r, s1 _ _ hbl, fun i hi => s1 _ _ (hR i hi)⟩, hS, ech, by omega, by omega, by omega, hb, stl, by omega, by omega, fun H2 c s2 hc => ?_⟩
    exact k H2 c (same_tr s1 s2) (hc.trans (AllIn.iff lt).symm)
end
end Cw

set_option maxRecDepth 100000
set_option maxHeartbeats 8000000
namespace Cw
open PySem L2
theorem len3 {n N B M : Nat} {b : Nat → Nat → Int} {st wk : List Ch.Pr} (hB : HB n N b B M) (lv : Ch.LV n N b (w0 b N) n (st, wk)) : st.length ≤ 3 := by
  obtain ⟨hp, ech, _⟩ := lv.ech
  replace ech : Ch.Ech st n hp := ech
  have le := ech.le
  have len := lv.len
  rw [w0_len] at len
  simp only at len
  have hk := hB.1
  cases hk <;> omega
theorem prd_le {f : Nat → Int} {e : Nat} : ∀ {k : Nat}, (∀ i, i < k → (f i).natAbs ≤ Ch.tw e) → (prd f k).natAbs ≤ Ch.tw (k * e)
  | 0, _ => by show (1 : Int).natAbs ≤ _; exact Nat.le_trans (by decide) (Ch.tw_pos _)
  | k + 1, h => by
    have := Ch.nab_mul_le (prd_le (k := k) fun i hi => h i (by omega)) (h k (by omega))
    rw [Ch.tw_mul] at this
    rw [Nat.add_mul, Nat.one_mul]
    exact this
section
variable {P : Program} {w : World} {K : PySem.W.Frag} {mg : Str → Option Value} {base : Heap}
abbrev sIndex : Stmt := top 43
theorem scIndex : FnScope ["one", "other", "ours", "theirs"] ["one", "other"] (defScope sIndex) := ⟨rfl, rfl, rfl, by decide +kernel, rfl, by decide +kernel, by decide +kernel⟩
def spIndex (U W : Addr) : Sp := fun vs H Q E => ∃ (h g : Addr) (n n' N N' : Nat) (b b' : Nat → Nat → Int), vs = [.ref h, .ref g] ∧ Hall H h n N b ∧ Hall H g n' N' b' ∧ (n ≠ n' → E (.ref U) none H) ∧
  (n = n' → (∃ B M, HB n N b B M) ∧ (∃ B M, HB n N' b' B M) ∧ (∀ i l, i < N → l < n → (b i l).natAbs ≤ Ch.tw 100) ∧ (∀ H', Same H H' → ¬ AllIn n N N' b b' → E (.ref W) none H') ∧ ∀ H' v, Same H H' → AllIn n N N' b b' → Q v H')
theorem ok_index {f U W : Addr} {fd : FuncData} (F : Fun K "index_in" "index_in" sIndex f fd) (T : ExT K mg "NotWithin" W) (ml : mg "len" = none) (cW : CalX P w K mg base "within" 7 ["one", "other"] (spWithin U)) (cT : Cal P w K mg base "stair" 6 ["hall"] (spStair K))
    (cP : Cal P w K mg base "product" 1 ["numbers"] (spProd K)) (cH : Cal P w K mg base "heads" 2 ["rows"] (spHeads K)) : FnOk P w K mg base (L2.CX P w) 8 f fd ["one", "other"] (spIndex U W) := by
  obtain ⟨fW, fdW, GW, gW, kW, bW⟩ := cW
  obtain ⟨fT, fdT, GT, gT, kT, bT⟩ := cT
  obtain ⟨fP, fdP, GP, gP, kP, bP⟩ := cP
  obtain ⟨fH, fdH, GH, gH, kH, bH⟩ := cH
  refine F.okX scIndex (fun vs H Q E h => ?_) (fun cdv A outer s H vs Q E hr h => ?_)
  · obtain ⟨h, g, n, n', N, N', b, b', rfl, _⟩ := h
    rfl
  · obtain ⟨h, g, n, n', N, N', b, b', rfl, hl, gl, kx, kq⟩ := h
    have hr1 : Room 1 _ := hr.mono (by decide)
    have hr2 : Room 2 _ := hr.mono (by decide)
    have hr6 : Room 6 _ := hr.mono (by decide)
    refine ⟨_, pss_cons (ps_if (pt_not (pt_val (pe_call GW hr rfl gW kW bW .nil (passes_call (takes_of rfl rfl rfl rfl) (fun _ _ _ _ h => h)) (pa_cons (pv 0) (pa_cons (pv 1) pa_nil)))))
        (pss_one (ps_raise rfl (takes_of rfl rfl rfl rfl) (pmk_own PySem.F.excBase_ValueError T.x T.g T.k (raises_own T.b T.t) rfl))) pss_nil)
      (pss_cons (ps_set (i := 2) scIndex.nd rfl (Or.inl rfl) (pe_call GT hr6 rfl gT kT bT .nil pass0 (pa_cons (pv 0) pa_nil)))
      (pss_cons (ps_set (i := 3) scIndex.nd rfl (Or.inl rfl) (pe_call GT hr6 rfl gT kT bT .nil pass0 (pa_cons (pv 1) pa_nil)))
      (pss_cons (ps_if (pt_cmpR op_lt (pe_callB call_len_seq (by rfl) ml PySem.boot_len (pa_cons (pv 2) pa_nil)) (pe_callB call_len_seq (by rfl) ml PySem.boot_len (pa_cons (pv 3) pa_nil)) (nomark _)) (pss_one (ps_ret pe_non)) pss_nil)
      (pss_one (ps_ret (pe_op op_fdivZ (pe_call GP hr1 rfl gP kP bP .nil pass0 (pa_cons (pe_call GH hr2 rfl gH kH bH .nil pass0 (pa_cons (pv 2) pa_nil)) pa_nil)) (pe_call GP hr1 rfl gP kP bP .nil pass0 (pa_cons (pe_call GH hr2 rfl gH kH bH .nil pass0 (pa_cons (pv 3) pa_nil)) pa_nil)))))))), ?_⟩
    refine ⟨_, rfl, _, rfl, h, g, n, n', N, N', b, b', rfl, hl, gl, kx, fun e => ?_⟩
    subst e
    obtain ⟨⟨B, M, hB⟩, ⟨B', M', hB'⟩, hb, kx2, k⟩ := kq rfl
    have n6 := hl.n6
    refine ⟨⟨B', M', hB'⟩, hb, fun H1 c s1 hc => ?_⟩
    cases c with
    | false => exact ⟨false, rfl, iteT (kx2 H1 s1 fun a => by cases hc.mpr a)⟩
    | true =>
      refine ⟨true, rfl, iteF ?_⟩
      have all := hc.mp rfl
      refine ⟨_, rfl, h, n, N, b, B, M, rfl, hl.same s1, hB, fun H2 p st wk s2 np np' hS lt lv ls => ?_⟩
      refine ⟨_, rfl, g, n, N', b', B', M', rfl, (gl.same s1).same s2, hB', fun H3 q su wu s3 nq nq' hU lt' lv' ls' => ?_⟩
      have l3 := len3 hB lv
      have l3' := len3 hB' lv'
      have sl := st_le hB lv ls
      have sl' := st_le hB' lv' ls'
      obtain ⟨hp, ech, _⟩ := lv.ech
      replace ech : Ch.Ech st n hp := ech
      obtain ⟨hu, ech', _⟩ := lv'.ech
      replace ech' : Ch.Ech su n hu := ech'
      obtain ⟨rr, e1, e2⟩ := id (hS.same s3)
      obtain ⟨rr', e1', e2'⟩ := id hU
      have s13 := same_tr (same_tr s1 s2) s3
      refine ⟨_, rfl, p, _, rfl, .inl e1, _, rfl, q, _, rfl, .inl e1', _, _, rfl, rfl, _, rfl, ?_⟩
      rw [Rz_len, Rz_len]
      have f1 : ∀ i, i < st.length → (Ch.stM st i (hp i)).natAbs ≤ Ch.tw 1900 := fun i hi => sl i (hp i) hi (ech.lt i hi)
      have f2 : ∀ i, i < su.length → (Ch.stM su i (hu i)).natAbs ≤ Ch.tw 1900 := fun i hi => sl' i (hu i) hi (ech'.lt i hi)
      by_cases lt0 : (st.length : Int) < (su.length : Int)
      · rw [decide_eq_true lt0]
        exact iteT (k _ _ s13 all)
      · rw [decide_eq_false lt0]
        refine iteF ⟨_, rfl, p, n, st, hp, rfl, hS.same s3, ech, by omega, by omega, fun H4 z s4 nz ez => ?_⟩
        refine ⟨z, _, _, rfl, SqL.of ez, fun i hi => mulT (prd_le fun j hj => f1 j (by omega)) (f1 i hi) ?_, ?_⟩
        · have : i * 1900 ≤ 3 * 1900 := Nat.mul_le_mul_right _ (by omega)
          omega
        refine ⟨_, rfl, q, n, su, hu, rfl, hU.same s4, ech', by omega, by omega, fun H5 y s5 ny ey => ?_⟩
        refine ⟨y, _, _, rfl, SqL.of ey, fun i hi => mulT (prd_le fun j hj => f2 j (by omega)) (f2 i hi) ?_, ?_⟩
        · have : i * 1900 ≤ 3 * 1900 := Nat.mul_le_mul_right _ (by omega)
          omega
        have pp : 0 < prd (fun i => Ch.stM su i (hu i)) su.length := prd_pos fun i hi => ech'.head hi
        refine ⟨_, _, rfl, rfl, ⟨by omega, logT (prd_le f2) ?_⟩, k _ _ (same_tr (same_tr s13 s4) s5) all⟩
        have : su.length * 1900 ≤ 3 * 1900 := Nat.mul_le_mul_right _ (by omega)
        omega
end
end Cw

set_option maxRecDepth 100000
set_option maxHeartbeats 8000000
namespace Cw
open PySem L2
/-- what is_row answers of a thing -/
def RwB (K : PySem.W.Frag) (H : Hp) (n : Nat) (x : V) (c : Bool) : Prop := (NoLst K H x ∧ c = false) ∨ ∃ (a : Addr) (xs : List V) (b : Bool), x = .ref a ∧ H a = some (.lst xs) ∧ AllW xs b ∧ c = (decide (xs.length = n) && b)
/-- a table that does not fit -/
def NoFit (K : PySem.W.Frag) (H : Hp) (n n' : Nat) (v : V) : Prop := NoLst K H v ∨ ∃ (a : Addr) (xs : List V), v = .ref a ∧ H a = some (.lst xs) ∧
  (xs.length ≠ n ∨ ∃ cs : List Bool, (∀ (i : Nat) (x : V), xs[i]? = some x → ∃ c, cs[i]? = some c ∧ RwB K H n' x c) ∧ ∃ i, i < xs.length ∧ cs[i]? = some false)
section
variable {P : Program} {w : World} {K : PySem.W.Frag} {mg : Str → Option Value} {base : Heap}
abbrev sFit : Stmt := top 66
theorem scFit : FnScope ["one", "table", "other", "row"] ["one", "table", "other"] (defScope sFit) := ⟨rfl, rfl, rfl, by decide +kernel, rfl, by decide +kernel, by decide +kernel⟩
def spFit (K : PySem.W.Frag) (U : Addr) : Sp := fun vs H Q E => ∃ (h g : Addr) (v : V) (n n' N N' : Nat) (b b' : Nat → Nat → Int), vs = [.ref h, v, .ref g] ∧ Hall H h n N b ∧ Hall H g n' N' b' ∧ NoFit K H n n' v ∧ E (.ref U) none H
theorem ok_fit {f U : Addr} {fd : FuncData} (F : Fun K "fitting" "fitting" sFit f fd) (T : ExT K mg "Unlike" U) (ms : mg "isinstance" = none) (mli : mg "list" = none) (ml : mg "len" = none) (cR : Cal P w K mg base "is_row" 2 ["size", "thing"] (spIsR K)) : FnOk P w K mg base (L2.CX P w) 3 f fd ["one", "table", "other"] (spFit K U) := by
  obtain ⟨fR, fdR, GR, gR, kR, bR⟩ := cR
  refine F.okX scFit (fun vs H Q E h => ?_) (fun cdv A outer s H vs Q E hr h => ?_)
  · obtain ⟨h, g, v, n, n', N, N', b, b', rfl, _⟩ := h
    rfl
  · obtain ⟨h, g, v, n, n', N, N', b, b', rfl, hl, gl, nf, kx⟩ := h
    refine ⟨_, pss_cons (ps_if (PW.pt (pw_or (pt_not (pt_val (pe_callB call_isi (by rfl) ms (by decide +kernel) (pa_cons (pv 1) (pa_cons (pe_bltn (v := .ty "list") (by rfl) mli (by decide +kernel) rfl) pa_nil)))))
        (pw_or1 (pt_cmpR op_ne (pe_callB call_len_seq (by rfl) ml PySem.boot_len (pa_cons (pv 1) pa_nil)) (pe_ix ix_tup (pv 0) pe_int (fun _ _ => rfl)) (nomark _)))))
        (pss_one (ps_raise rfl (takes_of rfl rfl rfl rfl) (pmk_own PySem.F.excBase_ValueError T.x T.g T.k (raises_own T.b T.t) rfl))) pss_nil)
      (pss_one (ps_for (by exact passes_of rfl) rfl (pi_list (pv 1)) (pg_name (i := 3) scFit.nd rfl (Or.inl rfl))
        (pss_one (ps_if (pt_not (pt_val (pe_call GR hr rfl gR kR bR .nil pass0 (pa_cons (pe_ix ix_tup (pv 2) pe_int (fun _ _ => rfl)) (pa_cons (pv 3) pa_nil)))))
          (pss_one (ps_raise rfl (takes_of rfl rfl rfl rfl) (pmk_own PySem.F.excBase_ValueError T.x T.g T.k (raises_own T.b T.t) rfl))) pss_nil)))), ?_⟩
    obtain ⟨tb, r, hh, hbl, hR⟩ := hl.at_
    obtain ⟨tb', r', hh', hbl', hR'⟩ := gl.at_
    have n6 := gl.n6
    rcases nf with ⟨t, ht, hk⟩ | ⟨a, xs, rfl, ha, alt⟩
    · exact ⟨_, rfl, _, _, _, _, _, rfl, .ty _, ht, hk, _, rfl, iteT (iteT kx)⟩
    · refine ⟨_, rfl, _, _, _, _, _, rfl, .ty _, .base (.lst ha), kit_ty (r := true) (by decide +kernel), _, rfl, iteF ?_⟩
      refine ⟨_, rfl, a, _, rfl, .inl (SqL.of ha), _, rfl, h, _, _, _, rfl, rfl, SqT.of hh, rfl, rfl, _, rfl, ?_⟩
      refine neI (fun ne => kx) (fun eq => ?_)
      have en : xs.length = n := by omega
      rcases alt with q | ⟨cs, hcs, i0, hi0, ef⟩
      · exact absurd en q
      refine ⟨_, rfl, a, rfl, ⟨_, SqL.of ha⟩, for_list (K := K) (a := a) (xs := xs) (fun i σ H' => ∃ u, σ = [some (.ref h), some (.ref a), some (.ref g), u] ∧ H' = H ∧ ∀ j, j < i → cs[j]? = some true) ⟨none, rfl, rfl, fun j h => by omega⟩ (fun i σ H' _ ⟨_, _, e, _⟩ => by rw [e]; exact SqL.of ha) ?_ ?_⟩
      · rintro i x σ H' hx ⟨u, rfl, rfl, al⟩
        obtain ⟨c, ec, rb⟩ := hcs i x hx
        have nx : c = true → ∀ j, j < i + 1 → cs[j]? = some true := fun e j hj => by
          rcases Nat.lt_or_ge j i with q | q
          · exact al j q
          · obtain rfl : j = i := by omega
            rw [ec, e]
        refine ⟨_, rfl, g, _, _, _, rfl, rfl, SqT.of hh', rfl, _, rfl, n', x, rfl, by omega, ?_⟩
        rcases rb with ⟨nl, rfl⟩ | ⟨a', ys, b0, rfl, hy, aw, e⟩
        · exact .inl ⟨nl, false, rfl, iteT kx⟩
        · refine .inr ⟨a', ys, b0, rfl, hy, aw, ?_⟩
          rw [← e]
          cases c with
          | true => exact ⟨true, rfl, iteF ⟨_, rfl, rfl, nx rfl⟩⟩
          | false => exact ⟨false, rfl, iteT kx⟩
      · rintro σ H' ⟨u, rfl, rfl, al⟩
        exfalso
        have := al i0 hi0
        rw [ef] at this
        cases this
abbrev sSound : Stmt := top 67
theorem scSound : FnScope ["one", "table", "other", "rows", "bill"] ["one", "table", "other"] (defScope sSound) := ⟨rfl, rfl, rfl, by decide +kernel, rfl, by decide +kernel, by decide +kernel⟩
theorem ok_sound {f U : Addr} {fd : FuncData} (F : Fun K "sound" "sound" sSound f fd) (cF : CalX P w K mg base "fitting" 3 ["one", "table", "other"] (spFit K U)) : FnOk P w K mg base (L2.CX P w) 4 f fd ["one", "table", "other"] (spFit K U) := by
  obtain ⟨fS, fdS, GS, gS, kS, bS⟩ := cF
  refine F.okX scSound (fun vs H Q E h => ?_) (fun cdv A outer s H vs Q E hr h => ?_)
  · obtain ⟨h, g, v, n, n', N, N', b, b', rfl, _⟩ := h
    rfl
  · obtain ⟨h, g, v, n, n', N, N', b, b', rfl, hl, gl, nf, kx⟩ := h
    refine ⟨_, pss_cons (ps_expr (pe_call GS hr rfl gS kS bS .nil (passes_call (takes_of rfl rfl rfl rfl) (fun _ _ _ _ h => h)) (pa_cons (pv 0) (pa_cons (pv 1) (pa_cons (pv 2) pa_nil))))) (pss_cons ps_never (pss_cons ps_never (pss_one ps_never))), ?_⟩
    exact ⟨_, rfl, _, rfl, _, rfl, h, g, v, n, n', N, N', b, b', rfl, hl, gl, nf, kx⟩
abbrev sPulled : Stmt := top 68
theorem scPulled : FnScope ["one", "table", "other", "uses", "idle"] ["one", "table", "other"] (defScope sPulled) := ⟨rfl, rfl, rfl, by decide +kernel, rfl, by decide +kernel, by decide +kernel⟩
theorem ok_pulled {f U : Addr} {fd : FuncData} (F : Fun K "pulled" "pulled" sPulled f fd) (cF : CalX P w K mg base "fitting" 3 ["one", "table", "other"] (spFit K U)) : FnOk P w K mg base (L2.CX P w) 4 f fd ["one", "table", "other"] (spFit K U) := by
  obtain ⟨fS, fdS, GS, gS, kS, bS⟩ := cF
  refine F.okX scPulled (fun vs H Q E h => ?_) (fun cdv A outer s H vs Q E hr h => ?_)
  · obtain ⟨h, g, v, n, n', N, N', b, b', rfl, _⟩ := h
    rfl
  · obtain ⟨h, g, v, n, n', N, N', b, b', rfl, hl, gl, nf, kx⟩ := h
    refine ⟨_, pss_cons (ps_expr (pe_call GS hr rfl gS kS bS .nil (passes_call (takes_of rfl rfl rfl rfl) (fun _ _ _ _ h => h)) (pa_cons (pv 0) (pa_cons (pv 1) (pa_cons (pv 2) pa_nil))))) (pss_cons ps_never (pss_one ps_never)), ?_⟩
    exact ⟨_, rfl, _, rfl, _, rfl, h, g, v, n, n', N, N', b, b', rfl, hl, gl, nf, kx⟩
end
end Cw

set_option maxRecDepth 100000
set_option maxHeartbeats 8000000
namespace Cw
open PySem L2
/-- the bound of a drawn number, by its mode -/
def mB : Nat → Nat
  | 0 => 4
  | 1 => 30
  | _ => 999999999999999999999999999999
theorem dp_ints {K : PySem.W.Frag} {H : Hp} : ∀ ns : List Int, DpAll K H (ns.map V.int) (ns.map PyData.int)
  | [] => .nil
  | n :: r => .cons (.int n) (dp_ints r)
theorem fmod_nat (k n : Nat) : (k : Int).fmod (n : Int) = ((k % n : Nat) : Int) := by
  rw [Int.fmod_eq_emod_of_nonneg _ (Int.natCast_nonneg _)]; exact (Int.natCast_emod k n).symm
section
variable {P : Program} {w : World} {K : PySem.W.Frag} {mg : Str → Option Value} {base : Heap}
abbrev sCell : Stmt := top 70
theorem scCell : FnScope ["_law_script", "_law_k"] ["_law_script", "_law_k"] (defScope sCell) := ⟨rfl, rfl, rfl, by decide +kernel, rfl, by decide +kernel, by decide +kernel⟩
def spCell (K : PySem.W.Frag) : Sp := fun vs H Q _ => ∃ (a : Addr) (ns : List Int) (k : Nat), vs = [.ref a, .int k] ∧ SqL K H a (ns.map V.int) ∧ ∀ H' r, Same H H' → Q (.int r) H'
theorem ok_cell {f : Addr} {fd : FuncData} (F : Fun K "_law_cell_at" "_law_cell_at" sCell f fd) (ml : mg "len" = none) : FnOk P w K mg base CX0 1 f fd ["_law_script", "_law_k"] (spCell K) := by
  refine F.ok scCell (fun vs H Q E h => ?_) (fun cdv A outer s H vs Q E hr h => ?_)
  · obtain ⟨a, ns, k, rfl, _⟩ := h
    rfl
  · obtain ⟨a, ns, k, rfl, ha, kq⟩ := h
    refine ⟨_, pss_cons (ps_if (pt_cmpR op_lt (pv 1) (pe_callB call_len_seq (by rfl) ml PySem.boot_len (pa_cons (pv 0) pa_nil)) (nomark _)) (pss_one (ps_ret (pe_ix ix_list (pv 0) (pv 1) (fun _ _ => rfl)))) pss_nil)
      (pss_cons (ps_if (pt_cmpR (op_eqD hr.units) (pv 0) (pe_lst pa_nil) (nomark _)) (pss_one (ps_ret pe_int)) pss_nil)
      (pss_one (ps_ret (pe_op op_add (pe_op op_mul (pe_ix ix_list (pv 0) (pe_op op_modZ (pv 1) (pe_callB call_len_seq (by rfl) ml PySem.boot_len (pa_cons (pv 0) pa_nil))) (fun _ _ => rfl)) pe_int) (pv 1))))), ?_⟩
    refine ⟨_, rfl, _, rfl, a, _, rfl, .inl ha, _, _, rfl, rfl, _, rfl, ?_⟩
    rw [List.length_map]
    have get : ∀ i, i < ns.length → ∃ r, (ns.map V.int)[i]? = some (.int r) := fun i hi => ⟨ns[i], by rw [List.getElem?_map, List.getElem?_eq_getElem hi]; rfl⟩
    by_cases lt : (k : Int) < (ns.length : Int)
    · rw [decide_eq_true lt]
      obtain ⟨r, e⟩ := get k (by omega)
      exact iteT ⟨_, rfl, _, rfl, a, _, _, _, rfl, rfl, ha, atI_nat e, kq H r same_rfl⟩
    · rw [decide_eq_false lt]
      refine iteF ⟨_, rfl, Nat.zero_le _, fun l hl => ?_⟩
      have s1 : Same H (upd H l (.lst [])) := same_upd hl
      refine ⟨.list (ns.map PyData.int), .list [], .lst (s1.seq ha) (dp_ints ns), .lst (SqL.of upd_same) .nil, PySem.W.ke_shaped_ints ns, PySem.W.ke_shaped_ints [], _, rfl, ?_⟩
      have ev : PyData.eqv (.list (ns.map PyData.int)) (.list []) = decide (ns = []) := by
        rw [show PyData.eqv (.list (ns.map PyData.int)) (.list []) = PyData.eqvAll (ns.map PyData.int) (([] : List Int).map PyData.int) by simp [PyData.eqv]]
        exact PySem.W.ked_eqvAll ns []
      rw [ev]
      by_cases z : ns = []
      · rw [decide_eq_true z]
        exact iteT (kq _ 0 s1)
      · rw [decide_eq_false z]
        have p : 0 < ns.length := List.length_pos_iff.mpr z
        obtain ⟨r, e⟩ := get (k % ns.length) (Nat.mod_lt _ p)
        refine iteF ⟨_, rfl, _, rfl, _, rfl, a, _, rfl, .inl (s1.seq ha), _, _, rfl, rfl, ?_, ?_⟩
        · rw [List.length_map]; omega
        · have fe : (k : Int).fmod (((ns.map V.int).length : Nat) : Int) = ((k % ns.length : Nat) : Int) := by rw [List.length_map]; exact fmod_nat _ _
          exact ⟨a, _, ((k % ns.length : Nat) : Int), _, rfl, congrArg V.int fe, s1.seq ha, atI_nat e, _, _, rfl, rfl, .inr ⟨by decide, by decide⟩, _, rfl, _, _, rfl, rfl, kq _ _ s1⟩
abbrev sNum : Stmt := top 73
theorem scNum : FnScope ["_law_cell", "_law_mode", "_law_number_here", "_law_wide"] ["_law_cell", "_law_mode"] (defScope sNum) := ⟨rfl, rfl, rfl, by decide +kernel, rfl, by decide +kernel, by decide +kernel⟩
def spNum : Sp := fun vs H Q _ => ∃ (c : Int) (md : Nat), vs = [.int c, .int md] ∧ md ≤ 2 ∧ ∀ H' (r : Int), Same H H' → r.natAbs ≤ mB md → Q (.int r) H'
theorem ok_num {f : Addr} {fd : FuncData} (F : Fun K "_law_number" "_law_number" sNum f fd) : FnOk P w K mg base CX0 1 f fd ["_law_cell", "_law_mode"] spNum := by
  refine F.ok scNum (fun vs H Q E h => ?_) (fun cdv A outer s H vs Q E hr h => ?_)
  · obtain ⟨c, md, rfl, _⟩ := h
    rfl
  · obtain ⟨c, md, rfl, hm, k⟩ := h
    refine ⟨_, pss_cons (ps_if (pt_cmpR op_eq (pv 1) pe_int (nomark _))
        (pss_cons (ps_set (i := 2) scNum.nd rfl (Or.inl rfl) (pe_op op_modZ (pv 0) (pe_op op_pow pe_int pe_int)))
        (pss_cons (ps_if (pt_cmpR op_eq (pe_op op_modZ (pe_op op_fdivZ (pv 0) (pe_op op_pow pe_int pe_int)) pe_int) pe_int (nomark _)) (pss_one (ps_ret (pe_un un_neg (pv 2)))) pss_nil)
        (pss_one (ps_ret (pv 2))))) pss_nil)
      (pss_cons (ps_set (i := 3) scNum.nd rfl (Or.inl rfl) (pe_ix ix_list (pe_lst (pa_cons pe_int (pa_cons pe_int pa_nil))) (pv 1) (fun _ _ => rfl)))
      (pss_cons (ps_set (i := 2) scNum.nd rfl (Or.inl rfl) (pe_op op_modZ (pv 0) (pv 3)))
      (pss_cons (ps_if (pt_cmpR op_gt (pv 2) (pe_op op_fdivZ (pv 3) pe_int) (nomark _)) (pss_one (ps_ret (pe_op op_sub (pv 2) (pv 3)))) pss_nil)
      (pss_one (ps_ret (pv 2)))))), ?_⟩
    have T : (10 : Int) ^ (30 : Int).toNat = 1000000000000000000000000000000 := by decide +kernel
    have cp : CPow 10 30 := ⟨by decide, by decide, by decide⟩
    refine ⟨_, rfl, rfl, _, rfl, ?_⟩
    refine eqI (fun e => ?_) (fun e => ?_)
    · obtain rfl : md = 2 := by omega
      have bd := Ch.fm_lt c (show (1000000000000000000000000000000 : Int) ≠ 0 by decide)
      refine ⟨_, rfl, _, _, rfl, rfl, cp, _, _, rfl, rfl, (by rw [T]; exact (show (1000000000000000000000000000000 : Int) ≠ 0 by decide)), ?_⟩
      refine ⟨_, rfl, _, _, rfl, rfl, cp, _, _, rfl, rfl, ⟨(by rw [T]; decide), (by rw [T]; exact logT (a := 100) (by rw [Ch.tw_is]; decide) (by decide))⟩, _, _, rfl, rfl, (show (2 : Int) ≠ 0 by decide), rfl, _, rfl, ?_⟩
      rw [T]
      refine eqI (fun e1 => ?_) (fun e1 => ?_)
      · refine ⟨_, rfl, _, rfl, k _ _ same_rfl ?_⟩
        rw [Int.natAbs_neg]
        show _ ≤ 999999999999999999999999999999
        omega
      · refine ⟨_, rfl, k _ _ same_rfl ?_⟩
        show _ ≤ 999999999999999999999999999999
        omega
    · refine ⟨by show 2 ≤ sizeLine; decide, fun l hl => ?_⟩
      have s1 : Same H (upd H l (.lst [.int 9, .int 61])) := same_upd hl
      have m01 : md = 0 ∨ md = 1 := by omega
      rcases m01 with rfl | rfl
      · refine ⟨_, rfl, l, _, _, _, rfl, rfl, SqL.of upd_same, rfl, ?_⟩
        have b1 := Ch.fm_pos c (show (0 : Int) < 9 by decide)
        have b2 := Ch.fm_lt c (show (9 : Int) ≠ 0 by decide)
        refine ⟨_, rfl, _, rfl, _, _, rfl, rfl, (show (9 : Int) ≠ 0 by decide), ?_⟩
        refine ⟨_, rfl, _, rfl, _, _, rfl, rfl, ⟨by decide, by decide +kernel⟩, _, _, rfl, rfl, _, rfl, ?_⟩
        by_cases g : ((9 : Int).fdiv 2) < c.fmod 9
        · rw [decide_eq_true g]
          have g' : (4 : Int) < c.fmod 9 := g
          refine iteT ⟨_, rfl, _, rfl, _, _, rfl, rfl, k _ _ s1 ?_⟩
          show _ ≤ 4
          omega
        · rw [decide_eq_false g]
          have g' : ¬ (4 : Int) < c.fmod 9 := g
          refine iteF ⟨_, rfl, k _ _ s1 ?_⟩
          show _ ≤ 4
          omega
      · refine ⟨_, rfl, l, _, _, _, rfl, rfl, SqL.of upd_same, rfl, ?_⟩
        have b1 := Ch.fm_pos c (show (0 : Int) < 61 by decide)
        have b2 := Ch.fm_lt c (show (61 : Int) ≠ 0 by decide)
        refine ⟨_, rfl, _, rfl, _, _, rfl, rfl, (show (61 : Int) ≠ 0 by decide), ?_⟩
        refine ⟨_, rfl, _, rfl, _, _, rfl, rfl, ⟨by decide, by decide +kernel⟩, _, _, rfl, rfl, _, rfl, ?_⟩
        by_cases g : ((61 : Int).fdiv 2) < c.fmod 61
        · rw [decide_eq_true g]
          have g' : (30 : Int) < c.fmod 61 := g
          refine iteT ⟨_, rfl, _, rfl, _, _, rfl, rfl, k _ _ s1 ?_⟩
          show _ ≤ 30
          omega
        · rw [decide_eq_false g]
          have g' : ¬ (30 : Int) < c.fmod 61 := g
          refine iteF ⟨_, rfl, k _ _ s1 ?_⟩
          show _ ≤ 30
          omega
end
end Cw

set_option maxRecDepth 100000
set_option maxHeartbeats 8000000
namespace Cw
open PySem L2
section
variable {P : Program} {w : World} {K : PySem.W.Frag} {mg : Str → Option Value} {base : Heap}
abbrev sRow : Stmt := top 74
theorem scRow : FnScope ["_law_script", "_law_at", "_law_size", "_law_mode", "_law_k"] ["_law_script", "_law_at", "_law_size", "_law_mode"] (defScope sRow) := ⟨rfl, rfl, rfl, by decide +kernel, rfl, by decide +kernel, by decide +kernel⟩
def spRow (K : PySem.W.Frag) : Sp := fun vs H Q _ => ∃ (a : Addr) (ns : List Int) (at_ n md : Nat), vs = [.ref a, .int at_, .int n, .int md] ∧ SqL K H a (ns.map V.int) ∧ n ≤ 100 ∧ md ≤ 2 ∧ ∀ H' p f, Same H H' → H p = none → H' p = some (.lst (Lz n f)) → (∀ l, l < n → (f l).natAbs ≤ mB md) → Q (.ref p) H'
theorem ok_row {f : Addr} {fd : FuncData} (F : Fun K "_law_row" "_law_row" sRow f fd) (mr : mg "range" = none) (cC : Cal P w K mg base "_law_cell_at" 1 ["_law_script", "_law_k"] (spCell K)) (cN : Cal P w K mg base "_law_number" 1 ["_law_cell", "_law_mode"] spNum) : FnOk P w K mg base CX0 2 f fd ["_law_script", "_law_at", "_law_size", "_law_mode"] (spRow K) := by
  obtain ⟨fC, fdC, GC, gC, kC, bC⟩ := cC
  obtain ⟨fN, fdN, GN, gN, kN, bN⟩ := cN
  refine F.ok scRow (fun vs H Q E h => ?_) (fun cdv A outer s H vs Q E hr h => ?_)
  · obtain ⟨a, ns, at_, n, md, rfl, _⟩ := h
    rfl
  · obtain ⟨a, ns, at_, n, md, rfl, ha, hn, hm, k⟩ := h
    refine ⟨_, pss_one (ps_ret (pe_lc (own := [("_law_k", 4)]) (g := gName 4) (tt := tYes) (te := tCall spNum [] _ (tCons (tCall (spCell K) [] _ (tCons (tVar 0) (tCons (tOp (rI0 fun i j => .int (i + j)) (tVar 1) (tVar 4)) tNil))) (tCons (tVar 3) tNil))) (by rfl) scRow.nd (pi_range1 rfl mr (pa_cons (pv 2) pa_nil)) (blkOk_by (own := [("_law_k", 4)]) (N := ["_law_script", "_law_at", "_law_size", "_law_mode", "_law_k"]) (sc := defScope sRow) (by decide +kernel))
      (fun _ _ _ _ _ => pg_name (i := 4) scRow.nd rfl (Or.inl rfl)) (fun _ _ _ _ _ => pts_nil) (fun _ _ _ _ _ => pe_call GN hr rfl gN kN bN .nil pass0 (pa_cons (pe_call GC hr rfl gC kC bC .nil pass0 (pa_cons (pv 0) (pa_cons (pe_op op_add (pv 1) (pv 4)) pa_nil))) (pa_cons (pv 3) pa_nil))))), ?_⟩
    refine ⟨_, rfl, n, rfl, by omega, by omega, fun D hD => lc_range (lo := 0) (n := n) (fun i H' => Same H H' ∧ ∃ f, H' D = some (.lst (Lz i f)) ∧ ∀ l, l < i → (f l).natAbs ≤ mB md) ⟨same_upd hD, fun _ => 0, upd_same, fun l h => by omega⟩ (fun i H1 hi p => ?_) (fun H' p => ?_)⟩
    · obtain ⟨s1, f, e1, hf⟩ := p
      refine ⟨rfl, _, rfl, _, rfl, _, rfl, _, _, rfl, rfl, ?_⟩
      refine ⟨a, ns, at_ + i, by rw [Int.zero_add]; rfl, s1.seq ha, fun H2 c s2 => ?_⟩
      refine ⟨_, rfl, c, md, rfl, hm, fun H3 r s3 hr3 => ?_⟩
      have s13 := same_tr s2 s3
      refine ⟨_, s13 _ _ e1, small (by rw [Lz_len]; omega), fun b z e => ?_, fun l => if l = i then r else f l, ?_, fun l hl => ?_⟩
      · rw [upd_ne (ne_of_none e hD)]; exact s13 _ _ (s1 _ _ e)
      · rw [upd_same, Lz_succ, if_pos rfl, Lz_congr (f := fun l => if l = i then r else f l) (g := f) fun l hl => if_neg (by omega)]
      · by_cases c : l = i
        · simp only [if_pos c]; exact hr3
        · simp only [if_neg c]; exact hf l (by omega)
    · obtain ⟨s1, f, e1, hf⟩ := p
      exact k H' D f s1 hD e1 hf
abbrev sPlus : Stmt := top 76
theorem scPlus : FnScope ["_law_one", "_law_other", "_law_times", "_law_k"] ["_law_one", "_law_other", "_law_times"] (defScope sPlus) := ⟨rfl, rfl, rfl, by decide +kernel, rfl, by decide +kernel, by decide +kernel⟩
def spPlus (K : PySem.W.Frag) : Sp := fun vs H Q _ => ∃ (a c : Addr) (n : Nat) (f g : Nat → Int) (t : Int), vs = [.ref a, .ref c, .int t] ∧ SqL K H a (Lz n f) ∧ SqL K H c (Lz n g) ∧ n ≤ 100 ∧ (∀ l, l < n → IntMulOk t (g l)) ∧ NewL H Q n fun l => f l + t * g l
theorem ok_plus {f : Addr} {fd : FuncData} (F : Fun K "_law_plus" "_law_plus" sPlus f fd) (mr : mg "range" = none) (ml : mg "len" = none) : FnOk P w K mg base CX0 1 f fd ["_law_one", "_law_other", "_law_times"] (spPlus K) := by
  refine F.ok scPlus (fun vs H Q E h => ?_) (fun cdv A outer s H vs Q E hr h => ?_)
  · obtain ⟨a, c, n, f, g, t, rfl, _⟩ := h
    rfl
  · obtain ⟨a, c, n, f, g, t, rfl, ha, hc, hn, ok, k⟩ := h
    refine ⟨_, pss_one (ps_ret (pe_lc (own := [("_law_k", 3)]) (g := gName 3) (tt := tYes) (te := tOp (rI0 fun i j => .int (i + j)) (tOp (rIxL K) (tVar 0) (tVar 3)) (tOp (rI (fun i j => IntMulOk i j) fun i j => .int (i * j)) (tVar 2) (tOp (rIxL K) (tVar 1) (tVar 3)))) (by rfl) scPlus.nd (pi_range1 rfl mr (pa_cons (pe_callB call_len_seq (by rfl) ml PySem.boot_len (pa_cons (pv 0) pa_nil)) pa_nil)) (blkOk_by (own := [("_law_k", 3)]) (N := ["_law_one", "_law_other", "_law_times", "_law_k"]) (sc := defScope sPlus) (by decide +kernel))
      (fun _ _ _ _ _ => pg_name (i := 3) scPlus.nd rfl (Or.inl rfl)) (fun _ _ _ _ _ => pts_nil) (fun _ _ _ _ _ => pe_op op_add (pe_ix ix_list (pv 0) (pv 3) (fun _ _ => rfl)) (pe_op op_mulZ (pv 2) (pe_ix ix_list (pv 1) (pv 3) (fun _ _ => rfl)))))), ?_⟩
    refine ⟨_, rfl, a, _, rfl, .inl ha, ?_⟩
    rw [Lz_len]
    refine ⟨n, rfl, by omega, by omega, fun D hD => lc_range (lo := 0) (n := n) (fun i H' => Same H H' ∧ H' D = some (.lst (Lz i fun l => f l + t * g l))) ⟨same_upd hD, upd_same⟩ (fun i H1 hi p => ?_) (fun H' p => k H' D p.1 hD p.2)⟩
    obtain ⟨s1, e1⟩ := p
    refine ⟨rfl, _, rfl, _, rfl, a, _, _, _, rfl, rfl, s1.seq ha, (by rw [Int.zero_add]; exact atIz _ hi), _, rfl, _, rfl, _, rfl, c, _, _, _, rfl, rfl, s1.seq hc, (by rw [Int.zero_add]; exact atIz _ hi), _, _, rfl, rfl, ok i hi, _, _, rfl, rfl, _, e1, small (by rw [Lz_len]; omega), fun b z e => ?_, ?_⟩
    · rw [upd_ne (ne_of_none e hD)]; exact s1 _ _ e
    · rw [upd_same, Lz_succ]
abbrev sHeavy : Stmt := top 77
theorem scHeavy : FnScope ["_law_weights", "_law_row_here", "_law_made", "_law_k"] ["_law_weights", "_law_row_here"] (defScope sHeavy) := ⟨rfl, rfl, rfl, by decide +kernel, rfl, by decide +kernel, by decide +kernel⟩
def spHeavy (K : PySem.W.Frag) : Sp := fun vs H Q _ => ∃ (a c : Addr) (n : Nat) (f g : Nat → Int), vs = [.ref a, .ref c] ∧ SqL K H a (Lz n f) ∧ SqL K H c (Lz n g) ∧ n ≤ 100 ∧ (∀ l, l < n → IntMulOk (f l) (g l)) ∧ Q (.int (Ch.sm n fun l => f l * g l)) H
theorem ok_heavy {f : Addr} {fd : FuncData} (F : Fun K "_law_heavy" "_law_heavy" sHeavy f fd) (mr : mg "range" = none) (ml : mg "len" = none) : FnOk P w K mg base CX0 1 f fd ["_law_weights", "_law_row_here"] (spHeavy K) := by
  refine F.ok scHeavy (fun vs H Q E h => ?_) (fun cdv A outer s H vs Q E hr h => ?_)
  · obtain ⟨a, c, n, f, g, rfl, _⟩ := h
    rfl
  · obtain ⟨a, c, n, f, g, rfl, ha, hc, hn, ok, k⟩ := h
    refine ⟨_, pss_cons (ps_set (i := 2) scHeavy.nd rfl (Or.inl rfl) pe_int)
      (pss_cons (ps_for PassesOwn.never rfl (pi_range1 rfl mr (pa_cons (pe_callB call_len_seq (by rfl) ml PySem.boot_len (pa_cons (pv 1) pa_nil)) pa_nil)) (pg_name (i := 3) scHeavy.nd rfl (Or.inl rfl))
        (pss_one (ps_set (i := 2) scHeavy.nd rfl (Or.inl rfl) (pe_op op_add (pv 2) (pe_op op_mulZ (pe_ix ix_list (pv 0) (pv 3) (fun _ _ => rfl)) (pe_ix ix_list (pv 1) (pv 3) (fun _ _ => rfl)))))))
      (pss_one (ps_ret (pv 2)))), ?_⟩
    refine ⟨_, rfl, c, _, rfl, .inl hc, ?_⟩
    rw [Lz_len]
    refine ⟨n, rfl, by omega, by omega, for_range (lo := 0) (n := n) (fun i σ H' => ∃ u, σ = [some (.ref a), some (.ref c), some (.int (Ch.sm i fun l => f l * g l)), u] ∧ H' = H) ⟨none, rfl, rfl⟩ ?_ ?_⟩
    · rintro i σ H1 hi ⟨u, rfl, rfl⟩
      exact ⟨_, rfl, _, rfl, _, rfl, a, _, _, _, rfl, rfl, ha, (by rw [Int.zero_add]; exact atIz _ hi), _, rfl, _, rfl, c, _, _, _, rfl, rfl, hc, (by rw [Int.zero_add]; exact atIz _ hi), _, _, rfl, rfl, ok i hi, _, _, rfl, rfl, _, rfl, rfl⟩
    · rintro σ H1 ⟨u, rfl, rfl⟩
      exact ⟨_, rfl, k⟩
end
end Cw

set_option maxRecDepth 100000
set_option maxHeartbeats 8000000
namespace Cw
open PySem L2
theorem one_ok (x : Int) : IntMulOk 1 x := CMul.ok (.inl ⟨by decide, by decide⟩)
theorem neg_ok (x : Int) : IntMulOk (-1) x := CMul.ok (.inl ⟨by decide, by decide⟩)
theorem dp_Lz {K : PySem.W.Frag} {H : Hp} {a : Addr} {n : Nat} {f : Nat → Int} (h : SqL K H a (Lz n f)) : Dp K H (.ref a) (.list (((List.range n).map f).map PyData.int)) := by
  refine .lst h ?_
  have : Lz n f = ((List.range n).map f).map V.int := by unfold Lz; rw [List.map_map]; rfl
  rw [this]
  exact dp_ints _
theorem eqv_Lz {n : Nat} {f g : Nat → Int} (h : ∀ l, l < n → f l = g l) : PyData.eqv (.list (((List.range n).map f).map PyData.int)) (.list (((List.range n).map g).map PyData.int)) = true := by
  have e : (List.range n).map f = (List.range n).map g := List.map_congr_left fun l hl => h l (List.mem_range.mp hl)
  rw [e, show ∀ x : List PyData, PyData.eqv (.list x) (.list x) = PyData.eqvAll x x from fun x => by simp [PyData.eqv], PySem.W.ked_eqvAll, decide_eq_true rfl]
section
variable {P : Program} {w : World} {K : PySem.W.Frag} {mg : Str → Option Value} {base : Heap}
abbrev sLW : Stmt := top 71
theorem scLW : FnScope ["_law_found"] ["_law_found"] (defScope sLW) := ⟨rfl, rfl, rfl, by decide +kernel, rfl, by decide +kernel, by decide +kernel⟩
def spLW : Sp := fun vs H Q _ => ∃ i : Int, vs = [.int i] ∧ Q (.bl true) H
theorem ok_LW {f : Addr} {fd : FuncData} (F : Fun K "_law_whole" "_law_whole" sLW f fd) (ms : mg "isinstance" = none) (mi : mg "int" = none) (mb : mg "bool" = none) : FnOk P w K mg base CX0 1 f fd ["_law_found"] spLW := by
  refine F.ok scLW (fun vs H Q E h => ?_) (fun cdv A outer s H vs Q E hr h => ?_)
  · obtain ⟨i, rfl, _⟩ := h
    rfl
  · obtain ⟨i, rfl, k⟩ := h
    refine ⟨_, pss_one (ps_ret (pe_and (pe_callB call_isi (by rfl) ms (by decide +kernel) (pa_cons (pv 0) (pa_cons (pe_bltn (v := .ty "int") (by rfl) mi (by decide +kernel) rfl) pa_nil)))
      (pe_one (pe_not (pe_callB call_isi (by rfl) ms (by decide +kernel) (pa_cons (pv 0) (pa_cons (pe_bltn (v := .ty "bool") (by rfl) mb (by decide +kernel) rfl) pa_nil))))))), ?_⟩
    exact ⟨_, rfl, _, _, _, _, _, rfl, .ty _, .base (.int i), kit_ty (r := true) (by decide +kernel), _, rfl, iteT ⟨_, rfl, _, _, _, _, _, rfl, .ty _, .base (.int i), kit_ty (r := false) (by decide +kernel), _, rfl, k⟩⟩
abbrev sLR : Stmt := top 72
theorem scLR : FnScope ["_law_found", "_law_size", "_law_number_here"] ["_law_found", "_law_size"] (defScope sLR) := ⟨rfl, rfl, rfl, by decide +kernel, rfl, by decide +kernel, by decide +kernel⟩
def spLR : Sp := fun vs H Q _ => ∃ (a : Addr) (n : Nat) (f : Nat → Int), vs = [.ref a, .int n] ∧ H a = some (.lst (Lz n f)) ∧ Q (.bl true) H
theorem ok_LR {f : Addr} {fd : FuncData} (F : Fun K "_law_is_row" "_law_is_row" sLR f fd) (ms : mg "isinstance" = none) (mli : mg "list" = none) (ml : mg "len" = none) (cW : Cal P w K mg base "_law_whole" 1 ["_law_found"] spLW) : FnOk P w K mg base CX0 2 f fd ["_law_found", "_law_size"] spLR := by
  obtain ⟨fW, fdW, GW, gW, kW, bW⟩ := cW
  refine F.ok scLR (fun vs H Q E h => ?_) (fun cdv A outer s H vs Q E hr h => ?_)
  · obtain ⟨a, n, f, rfl, _⟩ := h
    rfl
  · obtain ⟨a, n, f, rfl, ha, k⟩ := h
    refine ⟨_, pss_cons (ps_if (PW.pt (pw_or (pt_not (pt_val (pe_callB call_isi (by rfl) ms (by decide +kernel) (pa_cons (pv 0) (pa_cons (pe_bltn (v := .ty "list") (by rfl) mli (by decide +kernel) rfl) pa_nil)))))
        (pw_or1 (pt_cmpR op_ne (pe_callB call_len_seq (by rfl) ml PySem.boot_len (pa_cons (pv 0) pa_nil)) (pv 1) (nomark _))))) (pss_one (ps_ret pe_bl)) pss_nil)
      (pss_cons (ps_for PassesOwn.never rfl (pi_list (pv 0)) (pg_name (i := 2) scLR.nd rfl (Or.inl rfl)) (pss_one (ps_if (pt_not (pt_val (pe_call GW hr rfl gW kW bW .nil pass0 (pa_cons (pv 2) pa_nil)))) (pss_one (ps_ret pe_bl)) pss_nil)))
      (pss_one (ps_ret pe_bl))), ?_⟩
    refine ⟨_, rfl, _, _, _, _, _, rfl, .ty _, .base (.lst ha), kit_ty (r := true) (by decide +kernel), _, rfl, iteF ?_⟩
    refine ⟨_, rfl, a, _, rfl, .inl (SqL.of ha), _, rfl, rfl, _, rfl, ?_⟩
    rw [Lz_len]
    refine neI (fun e => absurd rfl e) (fun _ => ?_)
    refine ⟨_, rfl, a, rfl, ⟨_, SqL.of ha⟩, for_list (K := K) (a := a) (xs := Lz n f) (fun i σ H' => ∃ u, σ = [some (.ref a), some (.int n), u] ∧ H' = H) ⟨none, rfl, rfl⟩ (fun i σ H' _ ⟨_, _, e⟩ => by rw [e]; exact SqL.of ha) ?_ ?_⟩
    · rintro i v σ H' hv ⟨u, rfl, rfl⟩
      have hi : i < n := by have := (List.getElem?_eq_some_iff.mp hv).1; rw [Lz_len] at this; exact this
      cases Option.some.inj ((Lz_get f hi).symm.trans hv)
      exact ⟨_, rfl, f i, rfl, true, rfl, iteF ⟨_, rfl, rfl⟩⟩
    · rintro σ H' ⟨u, rfl, rfl⟩
      exact k
abbrev sSum : Stmt := top 75
theorem scSum : FnScope ["_law_size", "_law_rows", "_law_times", "_law_k", "_law_made", "_law_j"] ["_law_size", "_law_rows", "_law_times"] (defScope sSum) := ⟨rfl, rfl, rfl, by decide +kernel, rfl, by decide +kernel, by decide +kernel⟩
def spSum (K : PySem.W.Frag) : Sp := fun vs H Q _ => ∃ (p q : Addr) (n N : Nat) (r : Nat → Addr) (b : Nat → Nat → Int) (u : Nat → Int), vs = [.int n, .ref p, .ref q] ∧ SqL K H p (Rz N r) ∧ Rows K H N n r b ∧ SqL K H q (Lz N u) ∧ n ≤ 100 ∧ N ≤ 100 ∧ (∀ i l, i < N → l < n → IntMulOk (u i) (b i l)) ∧
  ∀ H' p, Same H H' → H p = none → H' p = some (.lst (Lz n fun l => Ch.sm N fun i => u i * b i l)) → Q (.ref p) H'
theorem ok_sum {f : Addr} {fd : FuncData} (F : Fun K "_law_sum" "_law_sum" sSum f fd) (mr : mg "range" = none) (ml : mg "len" = none) : FnOk P w K mg base CX0 1 f fd ["_law_size", "_law_rows", "_law_times"] (spSum K) := by
  refine F.ok scSum (fun vs H Q E h => ?_) (fun cdv A outer s H vs Q E hr h => ?_)
  · obtain ⟨p, q, n, N, r, b, u, rfl, _⟩ := h
    rfl
  · obtain ⟨p, q, n, N, r, b, u, rfl, hp, hR, hq, hn, hN, ok, k⟩ := h
    refine ⟨_, pss_cons (ps_set (i := 4) scSum.nd rfl (Or.inr rfl) (pe_lc (own := [("_law_k", 3)]) (g := gName 3) (tt := tYes) (te := tC (.int 0)) (by rfl) scSum.nd (pi_range1 rfl mr (pa_cons (pv 0) pa_nil))
        (blkOk_by (own := [("_law_k", 3)]) (N := ["_law_size", "_law_rows", "_law_times", "_law_k", "_law_made", "_law_j"]) (sc := defScope sSum) (by decide +kernel)) (fun _ _ _ _ _ => pg_name (i := 3) scSum.nd rfl (Or.inl rfl)) (fun _ _ _ _ _ => pts_nil) (fun _ _ _ _ _ => pe_int)))
      (pss_cons (ps_for PassesOwn.never rfl (pi_range1 rfl mr (pa_cons (pe_callB call_len_seq (by rfl) ml PySem.boot_len (pa_cons (pv 1) pa_nil)) pa_nil)) (pg_name (i := 5) scSum.nd rfl (Or.inr rfl))
        (pss_one (ps_set (i := 4) scSum.nd rfl (Or.inr rfl) (pe_lc (own := [("_law_k", 3)]) (g := gName 3) (tt := tYes) (te := tOp (rI0 fun i j => .int (i + j)) (tOp (rIxL K) (tVar 4) (tVar 3)) (tOp (rI (fun i j => IntMulOk i j) fun i j => .int (i * j)) (tOp (rIxL K) (tVar 2) (tVar 5)) (tOp (rIxL K) (tOp (rIxL K) (tVar 1) (tVar 5)) (tVar 3)))) (by rfl) scSum.nd (pi_range1 rfl mr (pa_cons (pv 0) pa_nil))
          (blkOk_by (own := [("_law_k", 3)]) (N := ["_law_size", "_law_rows", "_law_times", "_law_k", "_law_made", "_law_j"]) (sc := defScope sSum) (by decide +kernel)) (fun _ _ _ _ _ => pg_name (i := 3) scSum.nd rfl (Or.inl rfl)) (fun _ _ _ _ _ => pts_nil)
          (fun _ _ _ _ _ => pe_op op_add (pe_ix ix_list (pv 4) (pv 3) (fun _ _ => rfl)) (pe_op op_mulZ (pe_ix ix_list (pv 2) (pv 5) (fun _ _ => rfl)) (pe_ix ix_list (pe_ix ix_list (pv 1) (pv 5) (fun _ _ => rfl)) (pv 3) (fun _ _ => rfl))))))))
      (pss_one (ps_ret (pv 4)))), ?_⟩
    refine ⟨_, rfl, n, rfl, by omega, by omega, fun D hD => lc_range (lo := 0) (n := n) (fun i H' => Same H H' ∧ H' D = some (.lst (Lz i fun _ => 0))) ⟨same_upd hD, upd_same⟩ (fun i H1 hi p => ?_) (fun H1 p => ?_)⟩
    · refine ⟨rfl, _, p.2, small (by rw [Lz_len]; omega), fun b x e => ?_, ?_⟩
      · rw [upd_ne (ne_of_none e hD)]; exact p.1 b x e
      · rw [upd_same, Lz_succ]
    · obtain ⟨s1, e1⟩ := p
      refine ⟨_, rfl, p, _, rfl, .inl (s1.seq hp), ?_⟩
      rw [Rz_len]
      refine ⟨N, rfl, by omega, by omega, for_range (lo := 0) (n := N) (fun i σ H' => ∃ (u3 u5 : Option V) (D : Addr), σ = [some (.int n), some (.ref p), some (.ref q), u3, some (.ref D), u5] ∧ Same H H' ∧ H D = none ∧ H' D = some (.lst (Lz n fun l => Ch.sm i fun i => u i * b i l))) ⟨_, _, D, rfl, s1, hD, e1⟩ ?_ ?_⟩
      · rintro i σ H2 hi ⟨u3, u5, D2, rfl, s2, hD2, e2⟩
        refine ⟨_, rfl, n, rfl, by omega, by omega, fun D3 hD3 => lc_range (lo := 0) (n := n) (fun l H' => Same H2 H' ∧ H' D3 = some (.lst (Lz l fun l => Ch.sm (i + 1) fun i => u i * b i l))) ⟨same_upd hD3, upd_same⟩ (fun l H3 hl p3 => ?_) (fun H3 p3 => ?_)⟩
        · obtain ⟨s3, e3⟩ := p3
          have s23 := same_tr s2 s3
          refine ⟨rfl, _, rfl, _, rfl, D2, _, _, _, rfl, rfl, SqL.of (s3 _ _ e2), (by rw [Int.zero_add]; exact atIz _ hl), _, rfl, _, rfl, q, _, _, _, rfl, rfl, s23.seq hq, (by rw [Int.zero_add]; exact atIz _ hi), _, rfl, _, rfl, p, _, _, _, rfl, rfl, s23.seq hp, (by rw [Int.zero_add]; exact atI_nat (Rz_get r hi)), _, rfl, r i, _, _, _, rfl, rfl, s23.seq (hR i hi), (by rw [Int.zero_add]; exact atIz _ hl), _, _, rfl, rfl, ok i l hi hl, _, _, rfl, rfl, _, e3, small (by rw [Lz_len]; omega), fun b z e => ?_, ?_⟩
          · rw [upd_ne (ne_of_none e hD3)]; exact s3 _ _ e
          · rw [upd_same, Lz_succ]; rfl
        · obtain ⟨s3, e3⟩ := p3
          exact ⟨_, _, D3, rfl, same_tr s2 s3, s2.free hD3, e3⟩
      · rintro σ H2 ⟨u3, u5, D2, rfl, s2, hD2, e2⟩
        exact ⟨_, rfl, k H2 D2 s2 hD2 e2⟩
end
end Cw

set_option maxRecDepth 100000
set_option maxHeartbeats 8000000
namespace Cw
open PySem L2
theorem hb100 {n N B M : Nat} {b : Nat → Nat → Int} (h : HB n N b B M) : ∀ i l, i < N → l < n → (b i l).natAbs ≤ Ch.tw 100 := fun i l hi hl => by
  have h1 := h.2 i l hi hl
  have h2 := h.1.tw
  have h3 : Ch.tw B ≤ Ch.tw 100 := Ch.tw_le (by have := h.1; cases this <;> decide)
  omega
section
variable {P : Program} {w : World} {K : PySem.W.Frag} {mg : Str → Option Value} {base : Heap}
abbrev sLeads : Stmt := top 78
theorem scLeads : FnScope ["_law_bills", "_law_one", "_law_other", "_law_uses"] ["_law_bills", "_law_one", "_law_other", "_law_uses"] (defScope sLeads) := ⟨rfl, rfl, rfl, by decide +kernel, rfl, by decide +kernel, by decide +kernel⟩
def spLeads (K : PySem.W.Frag) : Sp := fun vs H Q _ => ∃ (p a c q : Addr) (n N : Nat) (r : Nat → Addr) (b : Nat → Nat → Int) (f g u : Nat → Int), vs = [.ref p, .ref a, .ref c, .ref q] ∧ SqL K H p (Rz N r) ∧ Rows K H N n r b ∧ SqL K H a (Lz n f) ∧ SqL K H c (Lz n g) ∧ H q = some (.lst (Lz N u)) ∧ n ≤ 100 ∧ N ≤ 100 ∧ (∀ i l, i < N → l < n → IntMulOk (u i) (b i l)) ∧
  (∀ l, l < n → g l = f l + Ch.sm N fun i => u i * b i l) ∧ ∀ H', Same H H' → Q (.bl true) H'
theorem ok_leads {f : Addr} {fd : FuncData} (F : Fun K "_law_leads" "_law_leads" sLeads f fd) (ml : mg "len" = none) (cR : Cal P w K mg base "_law_is_row" 2 ["_law_found", "_law_size"] spLR) (cP : Cal P w K mg base "_law_plus" 1 ["_law_one", "_law_other", "_law_times"] (spPlus K)) (cS : Cal P w K mg base "_law_sum" 1 ["_law_size", "_law_rows", "_law_times"] (spSum K)) :
    FnOk P w K mg base CX0 3 f fd ["_law_bills", "_law_one", "_law_other", "_law_uses"] (spLeads K) := by
  obtain ⟨fR, fdR, GR, gR, kR, bR⟩ := cR
  obtain ⟨fP, fdP, GP, gP, kP, bP⟩ := cP
  obtain ⟨fS, fdS, GS, gS, kS, bS⟩ := cS
  refine F.ok scLeads (fun vs H Q E h => ?_) (fun cdv A outer s H vs Q E hr h => ?_)
  · obtain ⟨p, a, c, q, n, N, r, b, f, g, u, rfl, _⟩ := h
    rfl
  · obtain ⟨p, a, c, q, n, N, r, b, f, g, u, rfl, hp, hR, ha, hc, hq, hn, hN, ok, e, k⟩ := h
    have hr1 : Room 1 _ := hr.mono (by decide)
    refine ⟨_, pss_cons (ps_if (pt_not (pt_val (pe_call GR hr rfl gR kR bR .nil pass0 (pa_cons (pv 3) (pa_cons (pe_callB call_len_seq (by rfl) ml PySem.boot_len (pa_cons (pv 0) pa_nil)) pa_nil))))) (pss_one (ps_ret pe_bl)) pss_nil)
      (pss_one (ps_ret (pe_cmpR (op_eqD hr.units) (pe_call GP hr1 rfl gP kP bP .nil pass0 (pa_cons (pv 1) (pa_cons (pe_call GS hr1 rfl gS kS bS .nil pass0 (pa_cons (pe_callB call_len_seq (by rfl) ml PySem.boot_len (pa_cons (pv 1) pa_nil)) (pa_cons (pv 0) (pa_cons (pv 3) pa_nil)))) (pa_cons pe_int pa_nil)))) (pv 2) (nomark _)))), ?_⟩
    refine ⟨_, rfl, _, rfl, p, _, rfl, .inl hp, ?_⟩
    rw [Rz_len]
    refine ⟨q, N, u, rfl, hq, true, rfl, iteF ?_⟩
    refine ⟨_, rfl, _, rfl, a, _, rfl, .inl ha, _, rfl, _, rfl, ?_⟩
    rw [Lz_len]
    refine ⟨p, q, n, N, r, b, u, rfl, hp, hR, SqL.of hq, hn, hN, ok, fun H1 p1 s1 n1 e1 => ?_⟩
    refine ⟨a, p1, n, f, _, 1, rfl, s1.seq ha, SqL.of e1, hn, fun l hl => one_ok _, fun H2 p2 s2 n2 e2 => ?_⟩
    have s12 := same_tr s1 s2
    refine ⟨_, rfl, _, _, dp_Lz (SqL.of e2), dp_Lz (s12.seq hc), PySem.W.ke_shaped_ints _, PySem.W.ke_shaped_ints _, ?_⟩
    rw [eqv_Lz fun l hl => by rw [e l hl]; omega]
    exact k H2 s12
abbrev sDenies : Stmt := top 79
theorem scDenies : FnScope ["_law_bills", "_law_one", "_law_other", "_law_scale", "_law_bill"] ["_law_bills", "_law_one", "_law_other", "_law_scale"] (defScope sDenies) := ⟨rfl, rfl, rfl, by decide +kernel, rfl, by decide +kernel, by decide +kernel⟩
def spDenies (K : PySem.W.Frag) : Sp := fun vs H Q _ => ∃ (p a c t v : Addr) (n N : Nat) (r : Nat → Addr) (b : Nat → Nat → Int) (f g W : Nat → Int) (m : Int), vs = [.ref p, .ref a, .ref c, .ref t] ∧ SqL K H p (Rz N r) ∧ Rows K H N n r b ∧ SqL K H a (Lz n f) ∧ SqL K H c (Lz n g) ∧ H t = some (.tup [.ref v, .int m]) ∧ H v = some (.lst (Lz n W)) ∧ n ≤ 100 ∧ N ≤ 100 ∧ 2 ≤ m ∧
  (∀ i l, i < N → l < n → IntMulOk (W l) (b i l)) ∧ (∀ l, l < n → IntMulOk (W l) (g l + -1 * f l)) ∧ (∀ i, i < N → (Ch.sm n fun l => W l * b i l).fmod m = 0) ∧ (Ch.sm n fun l => W l * (g l + -1 * f l)).fmod m ≠ 0 ∧ ∀ H', Same H H' → Q (.bl true) H'
theorem ok_denies {f : Addr} {fd : FuncData} (F : Fun K "_law_denies" "_law_denies" sDenies f fd) (ms : mg "isinstance" = none) (mt : mg "tuple" = none) (ml : mg "len" = none) (cW : Cal P w K mg base "_law_whole" 1 ["_law_found"] spLW) (cR : Cal P w K mg base "_law_is_row" 2 ["_law_found", "_law_size"] spLR)
    (cH : Cal P w K mg base "_law_heavy" 1 ["_law_weights", "_law_row_here"] (spHeavy K)) (cP : Cal P w K mg base "_law_plus" 1 ["_law_one", "_law_other", "_law_times"] (spPlus K)) : FnOk P w K mg base CX0 3 f fd ["_law_bills", "_law_one", "_law_other", "_law_scale"] (spDenies K) := by
  obtain ⟨fW, fdW, GW, gW, kW, bW⟩ := cW
  obtain ⟨fR, fdR, GR, gR, kR, bR⟩ := cR
  obtain ⟨fH, fdH, GH, gH, kH, bH⟩ := cH
  obtain ⟨fP, fdP, GP, gP, kP, bP⟩ := cP
  refine F.ok scDenies (fun vs H Q E h => ?_) (fun cdv A outer s H vs Q E hr h => ?_)
  · obtain ⟨p, a, c, t, v, n, N, r, b, f, g, W, m, rfl, _⟩ := h
    rfl
  · obtain ⟨p, a, c, t, v, n, N, r, b, f, g, W, m, rfl, hp, hR, ha, hc, ht, hv, hn, hN, hm, okb, okx, fair, nev, k⟩ := h
    have hr1 : Room 1 _ := hr.mono (by decide)
    refine ⟨_, pss_cons (ps_if (PW.pt (pw_or (pt_not (pt_val (pe_callB call_isi (by rfl) ms (by decide +kernel) (pa_cons (pv 3) (pa_cons (pe_bltn (v := .ty "tuple") (by rfl) mt (by decide +kernel) rfl) pa_nil)))))
        (pw_or (pt_cmpR op_ne (pe_callB call_len_seq (by rfl) ml PySem.boot_len (pa_cons (pv 3) pa_nil)) pe_int (nomark _)) (pw_or1 (pt_not (pt_val (pe_call GW hr1 rfl gW kW bW .nil pass0 (pa_cons (pe_ix ix_tup (pv 3) pe_int (fun _ _ => rfl)) pa_nil)))))))) (pss_one (ps_ret pe_bl)) pss_nil)
      (pss_cons (ps_if (PW.pt (pw_or (pt_not (pt_val (pe_call GR hr rfl gR kR bR .nil pass0 (pa_cons (pe_ix ix_tup (pv 3) pe_int (fun _ _ => rfl)) (pa_cons (pe_callB call_len_seq (by rfl) ml PySem.boot_len (pa_cons (pv 1) pa_nil)) pa_nil)))))
        (pw_or1 (pt_cmpR op_lt (pe_ix ix_tup (pv 3) pe_int (fun _ _ => rfl)) pe_int (nomark _))))) (pss_one (ps_ret pe_bl)) pss_nil)
      (pss_cons (ps_for PassesOwn.never rfl (pi_list (pv 0)) (pg_name (i := 4) scDenies.nd rfl (Or.inl rfl))
        (pss_one (ps_if (pt_cmpR op_ne (pe_op op_modZ (pe_call GH hr1 rfl gH kH bH .nil pass0 (pa_cons (pe_ix ix_tup (pv 3) pe_int (fun _ _ => rfl)) (pa_cons (pv 4) pa_nil))) (pe_ix ix_tup (pv 3) pe_int (fun _ _ => rfl))) pe_int (nomark _)) (pss_one (ps_ret pe_bl)) pss_nil)))
      (pss_one (ps_ret (pe_cmpR op_ne (pe_op op_modZ (pe_call GH hr1 rfl gH kH bH .nil pass0 (pa_cons (pe_ix ix_tup (pv 3) pe_int (fun _ _ => rfl)) (pa_cons (pe_call GP hr1 rfl gP kP bP .nil pass0 (pa_cons (pv 2) (pa_cons (pv 1) (pa_cons (pe_un un_neg pe_int) pa_nil)))) pa_nil))) (pe_ix ix_tup (pv 3) pe_int (fun _ _ => rfl))) pe_int (nomark _)))))), ?_⟩
    refine ⟨_, rfl, _, _, _, _, _, rfl, .ty _, .base (.tup ht), kit_ty (r := true) (by decide +kernel), _, rfl, iteF ?_⟩
    refine ⟨_, rfl, t, _, rfl, .inr (SqT.of ht), rfl, _, rfl, ?_⟩
    refine neI (fun e => absurd rfl e) (fun _ => ?_)
    refine ⟨_, rfl, t, _, _, _, rfl, rfl, SqT.of ht, rfl, m, rfl, true, rfl, iteF ?_⟩
    refine ⟨_, rfl, t, _, _, _, rfl, rfl, SqT.of ht, rfl, _, rfl, a, _, rfl, .inl ha, ?_⟩
    rw [Lz_len]
    refine ⟨v, n, W, rfl, hv, true, rfl, iteF ?_⟩
    refine ⟨_, rfl, t, _, _, _, rfl, rfl, SqT.of ht, rfl, _, _, rfl, rfl, _, rfl, ?_⟩
    rw [decide_eq_false (by omega)]
    refine iteF ⟨_, rfl, p, rfl, ⟨_, hp⟩, for_list (K := K) (a := p) (xs := Rz N r) (fun i σ H' => ∃ z, σ = [some (.ref p), some (.ref a), some (.ref c), some (.ref t), z] ∧ H' = H) ⟨none, rfl, rfl⟩ (fun i σ H' _ ⟨_, _, e⟩ => by rw [e]; exact hp) ?_ ?_⟩
    · rintro i x σ H' hx ⟨z, rfl, rfl⟩
      have hi : i < N := by have := (List.getElem?_eq_some_iff.mp hx).1; rw [Rz_len] at this; exact this
      cases Option.some.inj ((Rz_get r hi).symm.trans hx)
      refine ⟨_, rfl, t, _, _, _, rfl, rfl, SqT.of ht, rfl, _, rfl, v, r i, n, W, b i, rfl, SqL.of hv, hR i hi, hn, fun l hl => okb i l hi hl, ?_⟩
      refine ⟨_, rfl, t, _, _, _, rfl, rfl, SqT.of ht, rfl, _, _, rfl, rfl, (show m ≠ 0 by omega), rfl, _, rfl, ?_⟩
      exact neI (fun e => absurd (fair i hi) e) (fun _ => ⟨_, rfl, rfl⟩)
    · rintro σ H' ⟨z, rfl, rfl⟩
      refine ⟨_, rfl, t, _, _, _, rfl, rfl, SqT.of ht, rfl, _, rfl, _, rfl, _, rfl, ?_⟩
      refine ⟨c, a, n, g, f, -1, rfl, hc, ha, hn, fun l hl => neg_ok _, fun H1 p1 s1 n1 e1 => ?_⟩
      refine ⟨v, p1, n, W, _, rfl, s1.seq (SqL.of hv), SqL.of e1, hn, okx, ?_⟩
      refine ⟨_, rfl, t, _, _, _, rfl, rfl, SqT.of (s1 _ _ ht), rfl, _, _, rfl, rfl, (show m ≠ 0 by omega), rfl, ?_⟩
      rw [dec_int]
      rw [beq_eq_false_iff_ne.mpr nev]
      exact k H1 s1
end
end Cw

set_option maxRecDepth 100000
set_option maxHeartbeats 8000000
namespace Cw
open PySem L2
section
variable {P : Program} {w : World} {K : PySem.W.Frag} {mg : Str → Option Value} {base : Heap}
abbrev sCopied : Stmt := top 81
theorem scCopied : FnScope ["_law_rows", "_law_row_here"] ["_law_rows"] (defScope sCopied) := ⟨rfl, rfl, rfl, by decide +kernel, rfl, by decide +kernel, by decide +kernel⟩
def spCopied (K : PySem.W.Frag) : Sp := fun vs H Q _ => ∃ (p : Addr) (n N : Nat) (r : Nat → Addr) (b : Nat → Nat → Int), vs = [.ref p] ∧ SqL K H p (Rz N r) ∧ Rows K H N n r b ∧ 1 ≤ n ∧ N ≤ 100 ∧ ∀ H' q, Same H H' → H q = none → MAt H' q N n b → Q (.ref q) H'
theorem ok_copied {f : Addr} {fd : FuncData} (F : Fun K "_law_copied" "_law_copied" sCopied f fd) (mli : mg "list" = none) : FnOk P w K mg base CX0 1 f fd ["_law_rows"] (spCopied K) := by
  refine F.ok scCopied (fun vs H Q E h => ?_) (fun cdv A outer s H vs Q E hr h => ?_)
  · obtain ⟨p, n, N, r, b, rfl, _⟩ := h
    rfl
  · obtain ⟨p, n, N, r, b, rfl, hp, hR, hn, hN, k⟩ := h
    refine ⟨_, pss_one (ps_ret (pe_lc (own := [("_law_row_here", 1)]) (g := gName 1) (tt := tYes) (te := tCB (rListOf K) (tCons (tVar 1) tNil)) (by rfl) scCopied.nd (pi_list (pv 0)) (blkOk_by (own := [("_law_row_here", 1)]) (N := ["_law_rows", "_law_row_here"]) (sc := defScope sCopied) (by decide +kernel))
        (fun _ _ _ _ _ => pg_name (i := 1) scCopied.nd rfl (Or.inl rfl)) (fun _ _ _ _ _ => pts_nil) (fun _ _ _ _ _ => pe_callTy call_list_of (by rfl) mli (by decide +kernel) (pa_cons (pv 1) pa_nil)))), ?_⟩
    refine ⟨_, rfl, p, rfl, ⟨_, hp⟩, fun D hD => lc_list (xs := Rz N r) (fun i' H' => Same H H' ∧ MAt H' D i' n b) ⟨same_upd hD, fun _ => 0, upd_same, fun k hk => absurd hk (Nat.not_lt_zero _)⟩ (fun _ H' _ p => p.1.seq hp) (fun i' v H' hv p => ?_) (fun H2 p => ?_)⟩
    · have hi' : i' < N := by have := (List.getElem?_eq_some_iff.mp hv).1; rw [Rz_len] at this; exact this
      cases Option.some.inj ((Rz_get r hi').symm.trans hv)
      obtain ⟨s1, q, e1, e2⟩ := p
      refine ⟨rfl, _, rfl, r i', _, rfl, .inl (s1.seq (hR i' hi')), fun p6 np6 => ?_⟩
      have s6 : Same H' (upd H' p6 (.lst (Lz n (b i')))) := same_upd np6
      refine ⟨_, s6 _ _ e1, small (by rw [Rz_len]; omega), fun b z e => ?_, MAt.more (s6 _ _ e1) (fun k hk => s6 _ _ (e2 k hk)) upd_same hn⟩
      rw [upd_ne (ne_of_none e hD)]; exact s6 _ _ (s1 _ _ e)
    · rw [Rz_len] at p
      exact k H2 D p.1 hD p.2
abbrev sLS : Stmt := top 82
theorem scLS : FnScope ["_law_hall", "_law_bills", "_law_one", "_law_other", "_law_uses", "_law_scale"] ["_law_hall", "_law_bills", "_law_one", "_law_other"] (defScope sLS) := ⟨rfl, rfl, rfl, by decide +kernel, rfl, by decide +kernel, by decide +kernel⟩
/-- the difference lies in the hall's stair -/
def InSt (n N : Nat) (b : Nat → Nat → Int) (x : Nat → Int) : Prop := ∃ st wk, Ch.LT (w0 b N) n (st, wk) ∧ Ch.Span (Ch.stM st) st.length n x
def spLS (K : PySem.W.Frag) : Sp := fun vs H Q _ => ∃ (h p a c : Addr) (n N : Nat) (r : Nat → Addr) (b : Nat → Nat → Int) (B M : Nat) (f g : Nat → Int), vs = [.ref h, .ref p, .ref a, .ref c] ∧ Hall H h n N b ∧ HB n N b B M ∧ SqL K H p (Rz N r) ∧ Rows K H N n r b ∧ SqL K H a (Lz n f) ∧ SqL K H c (Lz n g) ∧ (∀ l, l < n → (f l).natAbs ≤ Ch.tw 101) ∧ (∀ l, l < n → (g l - 1 * f l).natAbs ≤ Ch.tw 101) ∧
  ∀ H' (v : Bool), Same H H' → (v = true ↔ InSt n N b fun l => g l - 1 * f l) → Q (.bl v) H'
theorem ok_LS {f : Addr} {fd : FuncData} (F : Fun K "_law_same" "_law_same" sLS f fd) (mli : mg "list" = none) (mi : mg "int" = none) (cP : Cal P w K mg base "plan" 6 ["hall", "one", "other"] spPlan) (cD : Cal P w K mg base "denial" 10 ["hall", "one", "other"] spDenial)
    (cL : Cal P w K mg base "_law_leads" 3 ["_law_bills", "_law_one", "_law_other", "_law_uses"] (spLeads K)) (cN : Cal P w K mg base "_law_denies" 3 ["_law_bills", "_law_one", "_law_other", "_law_scale"] (spDenies K)) : FnOk P w K mg base CX0 11 f fd ["_law_hall", "_law_bills", "_law_one", "_law_other"] (spLS K) := by
  obtain ⟨fP, fdP, GP, gP, kP, bP⟩ := cP
  obtain ⟨fD, fdD, GD, gD, kD, bD⟩ := cD
  obtain ⟨fL, fdL, GL, gL, kL, bL⟩ := cL
  obtain ⟨fN, fdN, GN, gN, kN, bN⟩ := cN
  refine F.ok scLS (fun vs H Q E h => ?_) (fun cdv A outer s H vs Q E hr h => ?_)
  · obtain ⟨h, p, a, c, n, N, r, b, B, M, f, g, rfl, _⟩ := h
    rfl
  · obtain ⟨h, p, a, c, n, N, r, b, B, M, f, g, rfl, hl, hB, hp, hR, ha, hc, hf, hg, k⟩ := h
    have hr6 : Room 6 _ := hr.mono (by decide)
    have hr3 : Room 3 _ := hr.mono (by decide)
    have n6 := hl.n6
    have N8 := hl.N8
    have b100 := hb100 hB
    refine ⟨_, pss_cons (ps_set (i := 4) scLS.nd rfl (Or.inl rfl) (pe_call GP hr6 rfl gP kP bP .nil pass0 (pa_cons (pv 0) (pa_cons (pe_callTy call_list_of (by rfl) mli (by decide +kernel) (pa_cons (pv 2) pa_nil)) (pa_cons (pe_callTy call_list_of (by rfl) mli (by decide +kernel) (pa_cons (pv 3) pa_nil)) pa_nil)))))
      (pss_cons (ps_if (pt_cmpR op_notN (pv 4) pe_non (nomark _)) (pss_one (ps_ret (pe_ix ix_list (pe_lst (pa_cons pe_non (pa_cons pe_bl pa_nil))) (pe_callTy call_int1 (by rfl) mi (by decide +kernel) (pa_cons (pe_call GL hr3 rfl gL kL bL .nil pass0 (pa_cons (pv 1) (pa_cons (pv 2) (pa_cons (pv 3) (pa_cons (pv 4) pa_nil))))) pa_nil)) (fun _ _ => rfl)))) pss_nil)
      (pss_cons (ps_set (i := 5) scLS.nd rfl (Or.inl rfl) (pe_call GD hr rfl gD kD bD .nil pass0 (pa_cons (pv 0) (pa_cons (pe_callTy call_list_of (by rfl) mli (by decide +kernel) (pa_cons (pv 2) pa_nil)) (pa_cons (pe_callTy call_list_of (by rfl) mli (by decide +kernel) (pa_cons (pv 3) pa_nil)) pa_nil)))))
      (pss_cons (ps_if (PW.pt (pw_or (pt_cmpR op_isN (pv 5) pe_non (nomark _)) (pw_or1 (pt_not (pt_val (pe_call GN hr3 rfl gN kN bN .nil pass0 (pa_cons (pv 1) (pa_cons (pv 2) (pa_cons (pv 3) (pa_cons (pv 5) pa_nil)))))))))) (pss_one (ps_ret pe_non)) pss_nil)
      (pss_one (ps_ret pe_bl))))), ?_⟩
    refine ⟨_, rfl, _, rfl, a, _, rfl, .inl ha, fun a1 na1 => ?_⟩
    have s1 : Same H (upd H a1 (.lst (Lz n f))) := same_upd na1
    have e1 : (upd H a1 (.lst (Lz n f))) a1 = some (.lst (Lz n f)) := upd_same
    generalize upd H a1 (.lst (Lz n f)) = H1 at *
    refine ⟨_, rfl, c, _, rfl, .inl (s1.seq hc), fun c1 nc1 => ?_⟩
    have s2 : Same H1 (upd H1 c1 (.lst (Lz n g))) := same_upd nc1
    have e2 : (upd H1 c1 (.lst (Lz n g))) c1 = some (.lst (Lz n g)) := upd_same
    generalize upd H1 c1 (.lst (Lz n g)) = H2 at *
    have s12 := same_tr s1 s2
    refine ⟨h, a1, c1, n, N, b, B, M, 101, f, g, rfl, hl.same s12, hB, s2 _ _ e1, e2, hg, by omega, fun H3 st wk s3 lt lv ls nsp => ?_, fun H3 q st wk u s3 nq eq lt lv ls sp us ub => ?_⟩
    · -- no plan: a denial
      have s13 := same_tr s12 s3
      refine ⟨_, rfl, rfl, _, rfl, ?_⟩
      refine iteF ?_
      refine ⟨_, rfl, _, rfl, a, _, rfl, .inl (s13.seq ha), fun a2 na2 => ?_⟩
      have s4 : Same H3 (upd H3 a2 (.lst (Lz n f))) := same_upd na2
      have e4 : (upd H3 a2 (.lst (Lz n f))) a2 = some (.lst (Lz n f)) := upd_same
      generalize upd H3 a2 (.lst (Lz n f)) = H4 at *
      have s14 := same_tr s13 s4
      refine ⟨_, rfl, c, _, rfl, .inl (s14.seq hc), fun c2 nc2 => ?_⟩
      have s5 : Same H4 (upd H4 c2 (.lst (Lz n g))) := same_upd nc2
      have e5 : (upd H4 c2 (.lst (Lz n g))) c2 = some (.lst (Lz n g)) := upd_same
      generalize upd H4 c2 (.lst (Lz n g)) = H5 at *
      have s15 := same_tr s14 s5
      refine ⟨h, a2, c2, n, N, b, B, M, 101, f, g, rfl, hl.same s15, hB, s5 _ _ e4, e5, hf, hg, by omega, ⟨st, wk, lt, nsp⟩, fun H6 t v m W s6 et ev m2 fair nev wb => ?_⟩
      have s16 := same_tr s15 s6
      have ex : ∀ l, g l + -1 * f l = g l - 1 * f l := fun l => by omega
      refine ⟨_, rfl, rfl, _, rfl, ?_⟩
      rw [decide_eq_false (by intro e; cases e)]
      refine iteF ?_
      refine ⟨_, rfl, _, rfl, _, rfl, _, rfl, p, a, c, t, v, n, N, r, b, f, g, W, m, rfl, s16.seq hp, hR.same s16, s16.seq ha, s16.seq hc, et, ev, by omega, by omega, m2, fun i l hi hl' => mulT (wb l hl') (b100 i l hi hl') (by omega), fun l hl' => mulT (wb l hl') (by rw [ex]; exact hg l hl') (by omega), fair, by simp only [ex]; exact nev, fun H7 s7 => ?_⟩
      refine ⟨true, rfl, iteF ?_⟩
      exact k H7 false (same_tr s16 s7) ⟨(fun z => nomatch z), fun ⟨st', wk', lt', sp'⟩ => by
        cases lt'.uni lt
        exact absurd sp' nsp⟩
    · have s13 := same_tr s12 s3
      refine ⟨_, rfl, rfl, _, rfl, ?_⟩
      rw [decide_eq_false (by intro e; cases e)]
      refine iteT ⟨by show 2 ≤ sizeLine; decide, fun l hl' => ?_⟩
      have s4 : Same H3 (upd H3 l (.lst [.non, .bl true])) := same_upd hl'
      have e4 : (upd H3 l (.lst [.non, .bl true])) l = some (.lst [.non, .bl true]) := upd_same
      generalize upd H3 l (.lst [.non, .bl true]) = H4 at *
      have s14 := same_tr s13 s4
      refine ⟨_, rfl, _, rfl, _, rfl, _, rfl, p, a, c, q, n, N, r, b, f, g, u, rfl, s14.seq hp, hR.same s14, s14.seq ha, s14.seq hc, s4 _ _ eq, by omega, by omega, fun i l hi hl' => mulT (ub i hi) (b100 i l hi hl') (by omega), fun l hl' => by have z : g l - 1 * f l = Ch.sm N fun i => u i * b i l := us l hl'; omega, fun H5 s5 => ?_⟩
      refine .inr ⟨true, rfl, ?_⟩
      exact ⟨l, _, 1, _, rfl, rfl, SqL.of (s5 _ _ e4), rfl, k H5 true (same_tr s14 s5) ⟨fun _ => ⟨st, wk, lt, sp⟩, fun _ => rfl⟩⟩
end
end Cw

set_option maxRecDepth 100000
set_option maxHeartbeats 8000000
namespace Cw
open PySem L2
theorem lt_ex {n N B M : Nat} {b : Nat → Nat → Int} (hB : HB n N b B M) : ∃ st wk, Ch.LT (w0 b N) n (st, wk) := by
  obtain ⟨s, lt, _⟩ := Ch.laid_to (w0 := w0 b N) (bm := b) (b := B) (fun p m => by rw [w0_len]; exact w0_good b n N p m) (fun p m => by rw [w0_len]; exact w0_bp hB.2 hB.1.tw p m) n (Nat.le_refl _)
  exact ⟨s.1, s.2, lt⟩
theorem fmod_cell (c : Int) (m : Int) (h : 0 < m) : 0 ≤ c.fmod m ∧ c.fmod m < m := ⟨Ch.fm_pos c h, Int.fmod_lt_of_pos c h⟩
theorem mode_get {z : Int} (h : 0 ≤ z) (h5 : z < 5) : ∃ md : Int, 0 ≤ md ∧ md ≤ 2 ∧ atI [V.int 0, V.int 0, V.int 0, V.int 1, V.int 2] z = some (V.int md) := by
  have : z = 0 ∨ z = 1 ∨ z = 2 ∨ z = 3 ∨ z = 4 := by omega
  rcases this with rfl | rfl | rfl | rfl | rfl
  · exact ⟨0, by decide, by decide, rfl⟩
  · exact ⟨0, by decide, by decide, rfl⟩
  · exact ⟨0, by decide, by decide, rfl⟩
  · exact ⟨1, by decide, by decide, rfl⟩
  · exact ⟨2, by decide, by decide, rfl⟩
/-- what is drawn -/
def Drw (md n N : Nat) : Prop := (md = 0 ∧ n = 6 ∧ N ≤ 3) ∨ (md = 0 ∧ 1 ≤ n ∧ n ≤ 3 ∧ N ≤ 8) ∨ (md = 1 ∧ 1 ≤ n ∧ n ≤ 3 ∧ N ≤ 3) ∨ (md = 2 ∧ 1 ≤ n ∧ n ≤ 2 ∧ N ≤ 2)
theorem Drw.hb {md n N : Nat} {b : Nat → Nat → Int} (h : Drw md n N) (hb : ∀ i l, i < N → l < n → (b i l).natAbs ≤ mB md) : (∃ B M, HB n N b B M) ∧ ∀ i l, i < N → l < n → (b i l).natAbs ≤ 999999999999999999999999999999 := by
  rcases h with ⟨rfl, h1, h2⟩ | ⟨rfl, h0, h1, h2⟩ | ⟨rfl, h0, h1, h2⟩ | ⟨rfl, h0, h1, h2⟩
  · exact ⟨⟨2, 4, .a (by omega) h2, hb⟩, fun i l a c => Nat.le_trans (hb i l a c) (by decide)⟩
  · exact ⟨⟨2, 4, .b h1 h2, hb⟩, fun i l a c => Nat.le_trans (hb i l a c) (by decide)⟩
  · exact ⟨⟨5, 30, .c h1 h2, hb⟩, fun i l a c => Nat.le_trans (hb i l a c) (by decide)⟩
  · refine ⟨⟨100, Ch.tw 100, .d h1 h2, fun i l a c => Nat.le_trans (hb i l a c) ?_⟩, hb⟩
    rw [Ch.tw_is]; decide
theorem MAt.snoc {H : Hp} {D p : Addr} {i n : Nat} {b : Nat → Nat → Int} {f : Nat → Int} {q : Nat → Addr} (h1 : H D = some (.lst (Rz i q))) (h2 : ∀ k, k < i → H (q k) = some (.lst (Lz n (b k)))) (h3 : H p = some (.lst (Lz n f))) (hn : 1 ≤ n) : MAt (upd H D (.lst (Rz i q ++ [.ref p]))) D (i + 1) n fun k => if k = i then f else b k := by
  refine MAt.more h1 (fun k hk => ?_) ?_ hn
  · rw [h2 k hk, if_neg (by omega)]
  · rw [h3, if_pos rfl]
section
variable {P : Program} {w : World} {K : PySem.W.Frag} {mg : Str → Option Value} {base : Heap}
abbrev sTwo : Stmt := top 80
theorem scTwo : FnScope ["_law_script", "_law_mode", "_law_kinds", "_law_many", "_law_others", "_law_k", "_law_one", "_law_other"] ["_law_script"] (defScope sTwo) := ⟨rfl, rfl, rfl, by decide +kernel, rfl, by decide +kernel, by decide +kernel⟩
def spTwo (K : PySem.W.Frag) : Sp := fun vs H Q _ => ∃ (a : Addr) (ns : List Int), vs = [.ref a] ∧ SqL K H a (ns.map V.int) ∧ ∀ H' t p q (n N N' : Nat) (b b' : Nat → Nat → Int), Same H H' → H' t = some (.tup [.int n, .ref p, .ref q]) → MAt H' p N n b → MAt H' q N' n b' → 1 ≤ n → (n ≤ 3 ∨ n = 6) → N ≤ 8 → N' ≤ 8 →
  (∃ B M, HB n N b B M) → (∀ i l, i < N → l < n → (b i l).natAbs ≤ 999999999999999999999999999999) → (∃ B M, HB n N' b' B M) → (∀ i l, i < N' → l < n → (b' i l).natAbs ≤ 999999999999999999999999999999) → Q (.ref t) H'
theorem ok_two {f : Addr} {fd : FuncData} (F : Fun K "_law_two" "_law_two" sTwo f fd) (mr : mg "range" = none) (cC : Cal P w K mg base "_law_cell_at" 1 ["_law_script", "_law_k"] (spCell K)) (cR : Cal P w K mg base "_law_row" 2 ["_law_script", "_law_at", "_law_size", "_law_mode"] (spRow K)) : FnOk P w K mg base CX0 3 f fd ["_law_script"] (spTwo K) := by
  obtain ⟨fC, fdC, GC, gC, kC, bC⟩ := cC
  obtain ⟨fR, fdR, GR, gR, kR, bR⟩ := cR
  refine F.ok scTwo (fun vs H Q E h => ?_) (fun cdv A outer s H vs Q E hr h => ?_)
  · obtain ⟨a, ns, rfl, _⟩ := h
    rfl
  · obtain ⟨a, ns, rfl, ha, k⟩ := h
    have hr1 : Room 1 _ := hr.mono (by decide)
    refine ⟨_, pss_cons (ps_set (i := 1) scTwo.nd rfl (Or.inr rfl) (pe_ix ix_list (pe_lst (pa_cons pe_int (pa_cons pe_int (pa_cons pe_int (pa_cons pe_int (pa_cons pe_int pa_nil)))))) (pe_op op_modZ (pe_call GC hr1 rfl gC kC bC .nil pass0 (pa_cons (pv 0) (pa_cons pe_int pa_nil))) pe_int) (fun _ _ => rfl)))
      (pss_cons (ps_set (i := 2) scTwo.nd rfl (Or.inr rfl) (pe_op op_add pe_int (pe_op op_modZ (pe_call GC hr1 rfl gC kC bC .nil pass0 (pa_cons (pv 0) (pa_cons pe_int pa_nil))) pe_int)))
      (pss_cons (ps_set (i := 3) scTwo.nd rfl (Or.inl rfl) (pe_op op_modZ (pe_call GC hr1 rfl gC kC bC .nil pass0 (pa_cons (pv 0) (pa_cons pe_int pa_nil))) pe_int))
      (pss_cons (ps_set (i := 4) scTwo.nd rfl (Or.inl rfl) (pe_op op_modZ (pe_call GC hr1 rfl gC kC bC .nil pass0 (pa_cons (pv 0) (pa_cons pe_int pa_nil))) pe_int))
      (C8.pss_cut (ps_if (pt_cmpR op_eq (pe_op op_modZ (pe_call GC hr1 rfl gC kC bC .nil pass0 (pa_cons (pv 0) (pa_cons pe_int pa_nil))) pe_int) pe_int (nomark _))
        (pss_cons (ps_set (i := 2) scTwo.nd rfl (Or.inr rfl) pe_int) (pss_one (ps_set (i := 1) scTwo.nd rfl (Or.inr rfl) pe_int))) pss_nil)
      (C8.pss_cut (ps_if (PW.pt (pw_and (pt_cmpR op_lt (pv 2) pe_int (nomark _)) (pw_and (pt_cmpR op_eq (pv 1) pe_int (nomark _)) (pw_and1 (pt_cmpR op_eq (pe_op op_modZ (pe_call GC hr1 rfl gC kC bC .nil pass0 (pa_cons (pv 0) (pa_cons pe_int pa_nil))) pe_int) pe_int (nomark _))))))
        (pss_cons (ps_set (i := 3) scTwo.nd rfl (Or.inl rfl) (pe_op op_add (pv 3) pe_int)) (pss_one (ps_set (i := 4) scTwo.nd rfl (Or.inl rfl) (pe_op op_add (pv 4) pe_int)))) pss_nil)
      (C8.pss_cut (ps_if (pt_cmpR op_eq (pv 1) pe_int (nomark _))
        (pss_cons (ps_set (i := 2) scTwo.nd rfl (Or.inr rfl) (pe_op op_add pe_int (pe_op op_modZ (pv 2) pe_int))) (pss_cons (ps_set (i := 3) scTwo.nd rfl (Or.inl rfl) (pe_op op_modZ (pv 3) pe_int)) (pss_one (ps_set (i := 4) scTwo.nd rfl (Or.inl rfl) (pe_op op_modZ (pv 4) pe_int))))) pss_nil)
      (pss_cons (ps_setLc (i := 6) (own := [("_law_k", 5)]) (g := gName 5) (tt := tYes) (te := tCall (spRow K) [] _ (tCons (tVar 0) (tCons (tOp (rI0 fun i j => .int (i + j)) (tC (.int 8)) (tOp (rI (fun i j => IntMulOk i j) fun i j => .int (i * j)) (tVar 2) (tVar 5))) (tCons (tVar 2) (tCons (tVar 1) tNil))))) (by rfl) scTwo.nd rfl rfl (sw_true rfl rfl rfl (by decide +kernel)) (pi_range1 rfl mr (pa_cons (pv 3) pa_nil))
        (blkOk_by (own := [("_law_k", 5)]) (N := ["_law_script", "_law_mode", "_law_kinds", "_law_many", "_law_others", "_law_k", "_law_one", "_law_other"]) (sc := defScope sTwo) (by decide +kernel)) (fun _ _ _ _ _ => pg_name (i := 5) scTwo.nd rfl (Or.inl rfl)) (fun _ _ _ _ _ => pts_nil)
        (fun _ _ _ _ _ => pe_call GR hr rfl gR kR bR .nil pass0 (pa_cons (pv 0) (pa_cons (pe_op op_add pe_int (pe_op op_mulZ (pv 2) (pv 5))) (pa_cons (pv 2) (pa_cons (pv 1) pa_nil))))))
      (pss_cons (ps_setLc (i := 7) (own := [("_law_k", 5)]) (g := gName 5) (tt := tYes) (te := tCall (spRow K) [] _ (tCons (tVar 0) (tCons (tOp (rI0 fun i j => .int (i + j)) (tC (.int 27)) (tOp (rI (fun i j => IntMulOk i j) fun i j => .int (i * j)) (tVar 2) (tVar 5))) (tCons (tVar 2) (tCons (tVar 1) tNil))))) (by rfl) scTwo.nd rfl rfl (sw_true rfl rfl rfl (by decide +kernel)) (pi_range1 rfl mr (pa_cons (pv 4) pa_nil))
        (blkOk_by (own := [("_law_k", 5)]) (N := ["_law_script", "_law_mode", "_law_kinds", "_law_many", "_law_others", "_law_k", "_law_one", "_law_other"]) (sc := defScope sTwo) (by decide +kernel)) (fun _ _ _ _ _ => pg_name (i := 5) scTwo.nd rfl (Or.inl rfl)) (fun _ _ _ _ _ => pts_nil)
        (fun _ _ _ _ _ => pe_call GR hr rfl gR kR bR .nil pass0 (pa_cons (pv 0) (pa_cons (pe_op op_add pe_int (pe_op op_mulZ (pv 2) (pv 5))) (pa_cons (pv 2) (pa_cons (pv 1) pa_nil))))))
      (pss_one (ps_ret (pe_tup (pa_cons (pv 2) (pa_cons (pv 6) (pa_cons (pv 7) pa_nil)))))))))))))), ?_⟩
    refine ⟨by show 5 ≤ sizeLine; decide, fun l hl => ?_⟩
    have s1 : Same H (upd H l (.lst [.int 0, .int 0, .int 0, .int 1, .int 2])) := same_upd hl
    have e1 : (upd H l (.lst [.int 0, .int 0, .int 0, .int 1, .int 2])) l = some (.lst [.int 0, .int 0, .int 0, .int 1, .int 2]) := upd_same
    generalize upd H l (.lst [.int 0, .int 0, .int 0, .int 1, .int 2]) = H1 at *
    refine ⟨_, rfl, a, ns, 2, rfl, s1.seq ha, fun H2 c0 s2 => ?_⟩
    obtain ⟨z1, z2⟩ := fmod_cell c0 5 (by decide)
    obtain ⟨md, m0, m2, me⟩ := mode_get z1 z2
    have s02 := same_tr s1 s2
    refine ⟨_, _, rfl, rfl, (show (5 : Int) ≠ 0 by decide), l, _, _, _, rfl, rfl, SqL.of (s2 _ _ e1), me, ?_⟩
    refine ⟨_, rfl, a, ns, 0, rfl, s02.seq ha, fun H3 c1 s3 => ?_⟩
    obtain ⟨z3, z4⟩ := fmod_cell c1 3 (by decide)
    have s03 := same_tr s02 s3
    refine ⟨_, _, rfl, rfl, (show (3 : Int) ≠ 0 by decide), _, _, rfl, rfl, ?_⟩
    refine ⟨_, rfl, a, ns, 1, rfl, s03.seq ha, fun H4 c2 s4 => ?_⟩
    obtain ⟨z5, z6⟩ := fmod_cell c2 4 (by decide)
    have s04 := same_tr s03 s4
    refine ⟨_, _, rfl, rfl, (show (4 : Int) ≠ 0 by decide), ?_⟩
    refine ⟨_, rfl, a, ns, 3, rfl, s04.seq ha, fun H5 c3 s5 => ?_⟩
    obtain ⟨z7, z8⟩ := fmod_cell c3 4 (by decide)
    have s05 := same_tr s04 s5
    refine ⟨_, _, rfl, rfl, (show (4 : Int) ≠ 0 by decide), ?_⟩
    refine ⟨fun σ H' => ∃ (md n N N' : Int), σ = [some (.ref a), some (.int md), some (.int n), some (.int N), some (.int N'), none, none, none] ∧ Same H H' ∧ 0 ≤ N ∧ N ≤ 3 ∧ 0 ≤ N' ∧ N' ≤ 3 ∧ ((1 ≤ n ∧ n ≤ 3 ∧ 0 ≤ md ∧ md ≤ 2) ∨ (n = 6 ∧ md = 0)), ?_, ?_⟩
    · refine ⟨_, rfl, a, ns, 4, rfl, s05.seq ha, fun H6 c4 s6 => ?_⟩
      refine ⟨_, _, rfl, rfl, (show (7 : Int) ≠ 0 by decide), rfl, _, rfl, ?_⟩
      refine eqI (fun e => ?_) (fun e => ?_)
      · exact ⟨0, 6, c2.fmod 4, c3.fmod 4, rfl, same_tr s05 s6, z5, by omega, z7, by omega, .inr ⟨rfl, rfl⟩⟩
      · exact ⟨md, 1 + c1.fmod 3, c2.fmod 4, c3.fmod 4, rfl, same_tr s05 s6, z5, by omega, z7, by omega, .inl ⟨by omega, by omega, m0, m2⟩⟩
    clear z1 z2 z3 z4 z5 z6 z7 z8 s05 s04 s03 s02 s1 s2 s3 s4 s5 me m0 m2 e1
    clear md
    rintro σ H6 ⟨md, n, N, N', rfl, s6, h1, h2, h3, h4, alt⟩
    refine ⟨fun σ H' => ∃ (md n N N' : Int), σ = [some (.ref a), some (.int md), some (.int n), some (.int N), some (.int N'), none, none, none] ∧ Same H H' ∧ 0 ≤ N ∧ 0 ≤ N' ∧ ((n = 6 ∧ md = 0 ∧ N ≤ 3 ∧ N' ≤ 3) ∨ (1 ≤ n ∧ n ≤ 3 ∧ md = 0 ∧ N ≤ 8 ∧ N' ≤ 8) ∨ (1 ≤ n ∧ n ≤ 3 ∧ 1 ≤ md ∧ md ≤ 2 ∧ N ≤ 3 ∧ N' ≤ 3)), ?_, ?_⟩
    · refine ⟨_, rfl, _, _, rfl, rfl, _, rfl, ?_⟩
      by_cases n4 : n < 4
      · rw [decide_eq_true n4]
        refine iteT ⟨_, rfl, rfl, _, rfl, ?_⟩
        refine eqI (fun e => ?_) (fun e => ?_)
        · refine ⟨_, rfl, a, ns, 7, rfl, s6.seq ha, fun H7 c5 s7 => ?_⟩
          refine ⟨_, _, rfl, rfl, (show (3 : Int) ≠ 0 by decide), rfl, _, rfl, ?_⟩
          refine eqI (fun e' => ?_) (fun e' => ?_)
          · refine ⟨_, rfl, _, _, rfl, rfl, _, rfl, _, _, rfl, rfl, ?_⟩
            exact ⟨md, n, N + 5, N' + 5, rfl, same_tr s6 s7, by omega, by omega, by omega⟩
          · exact ⟨md, n, N, N', rfl, same_tr s6 s7, by omega, by omega, by omega⟩
        · exact ⟨md, n, N, N', rfl, s6, by omega, by omega, by omega⟩
      · rw [decide_eq_false n4]
        exact iteF (iteF ⟨md, n, N, N', rfl, s6, by omega, by omega, by omega⟩)
    clear alt s6 h1 h2 h3 h4
    clear md n N N' H6
    rintro σ H6 ⟨md, n, N, N', rfl, s6, h1, h2, alt⟩
    refine ⟨fun σ H' => ∃ (md n N N' : Nat), σ = [some (.ref a), some (.int md), some (.int n), some (.int N), some (.int N'), none, none, none] ∧ Same H H' ∧ Drw md n N ∧ Drw md n N', ?_, ?_⟩
    · refine ⟨_, rfl, rfl, _, rfl, ?_⟩
      refine eqI (fun e => ?_) (fun e => ?_)
      · obtain ⟨q1, q2⟩ := fmod_cell n 2 (by decide)
        obtain ⟨q3, q4⟩ := fmod_cell N 3 (by decide)
        obtain ⟨q5, q6⟩ := fmod_cell N' 3 (by decide)
        refine ⟨_, rfl, _, _, rfl, rfl, (show (2 : Int) ≠ 0 by decide), _, _, rfl, rfl, _, rfl, _, _, rfl, rfl, (show (3 : Int) ≠ 0 by decide), _, rfl, _, _, rfl, rfl, (show (3 : Int) ≠ 0 by decide), ?_⟩
        obtain ⟨y1, g1⟩ := Int.eq_ofNat_of_zero_le q1
        obtain ⟨y2, g2⟩ := Int.eq_ofNat_of_zero_le q3
        obtain ⟨y3, g3⟩ := Int.eq_ofNat_of_zero_le q5
        subst e
        exact ⟨2, 1 + y1, y2, y3, by rw [show ((1 + y1 : Nat) : Int) = 1 + n.fmod 2 by omega, ← g2, ← g3]; rfl, s6, by unfold Drw; omega, by unfold Drw; omega⟩
      · have m0 : 0 ≤ md := by omega
        have n0 : 0 ≤ n := by omega
        obtain ⟨y0, rfl⟩ := Int.eq_ofNat_of_zero_le m0
        obtain ⟨y1, rfl⟩ := Int.eq_ofNat_of_zero_le n0
        obtain ⟨y2, rfl⟩ := Int.eq_ofNat_of_zero_le h1
        obtain ⟨y3, rfl⟩ := Int.eq_ofNat_of_zero_le h2
        exact ⟨y0, y1, y2, y3, rfl, s6, by unfold Drw; omega, by unfold Drw; omega⟩
    clear alt s6 h1 h2
    clear md n N N' H6
    rintro σ H6 ⟨md, n, N, N', rfl, s6, d1, d2⟩
    have n1 : 1 ≤ n := by unfold Drw at d1; omega
    have n6 : n ≤ 6 := by unfold Drw at d1; omega
    have n3 : n ≤ 3 ∨ n = 6 := by unfold Drw at d1; omega
    have N8 : N ≤ 8 := by unfold Drw at d1; omega
    have N8' : N' ≤ 8 := by unfold Drw at d2; omega
    have m2 : md ≤ 2 := by unfold Drw at d1; omega
    have big : (6 : Int) < 2 ^ 64 := by decide
    have low : -(2 ^ 64 : Int) < 1 := by decide
    have mul : ∀ i : Nat, IntMulOk (n : Int) (0 + (i : Int)) := fun i => CMul.ok (.inl ⟨by omega, by omega⟩)
    have at_e : ∀ c i : Nat, (c : Int) + (n : Int) * (0 + (i : Int)) = ((c + n * i : Nat) : Int) := fun c i => by rw [Int.zero_add]; simp
    refine ⟨_, rfl, N, rfl, by omega, by omega, fun D hD => lc_range (lo := 0) (n := N) (fun i H' => Same H6 H' ∧ ∃ b, MAt H' D i n b ∧ ∀ k l, k < i → l < n → (b k l).natAbs ≤ mB md) ⟨same_upd hD, fun _ _ => 0, ⟨fun _ => 0, upd_same, fun k hk => absurd hk (Nat.not_lt_zero _)⟩, fun k l hk => by omega⟩ (fun i H7 hi p => ?_) (fun H7 p => ?_)⟩
    · obtain ⟨s7, b, ⟨q, e1, e2⟩, bb⟩ := p
      refine ⟨rfl, _, rfl, _, rfl, _, rfl, _, _, rfl, rfl, mul i, _, _, rfl, rfl, _, rfl, _, rfl, ?_⟩
      refine ⟨a, ns, 8 + n * i, n, md, by rw [← at_e]; rfl, (same_tr s6 s7).seq ha, by omega, m2, fun H8 p8 f s8 np8 e8 hf => ?_⟩
      refine ⟨_, s8 _ _ e1, small (by rw [Rz_len]; omega), fun b z e => ?_, _, MAt.snoc (s8 _ _ e1) (fun k hk => s8 _ _ (e2 k hk)) e8 n1, fun k l hk hl => ?_⟩
      · rw [upd_ne (ne_of_none e hD)]; exact s8 _ _ (s7 _ _ e)
      · by_cases c : k = i
        · simp only [if_pos c]; exact hf l hl
        · simp only [if_neg c]; exact bb k l (by omega) hl
    · obtain ⟨s7, b, mb, bb⟩ := p
      refine ⟨_, rfl, N', rfl, by omega, by omega, fun D2 hD2 => lc_range (lo := 0) (n := N') (fun i H' => Same H7 H' ∧ ∃ b, MAt H' D2 i n b ∧ ∀ k l, k < i → l < n → (b k l).natAbs ≤ mB md) ⟨same_upd hD2, fun _ _ => 0, ⟨fun _ => 0, upd_same, fun k hk => absurd hk (Nat.not_lt_zero _)⟩, fun k l hk => by omega⟩ (fun i H8 hi p => ?_) (fun H8 p => ?_)⟩
      · obtain ⟨s8, b, ⟨q, e1, e2⟩, bb⟩ := p
        refine ⟨rfl, _, rfl, _, rfl, _, rfl, _, _, rfl, rfl, mul i, _, _, rfl, rfl, _, rfl, _, rfl, ?_⟩
        refine ⟨a, ns, 27 + n * i, n, md, by rw [← at_e]; rfl, (same_tr (same_tr s6 s7) s8).seq ha, by omega, m2, fun H9 p9 f s9 np9 e9 hf => ?_⟩
        refine ⟨_, s9 _ _ e1, small (by rw [Rz_len]; omega), fun b z e => ?_, _, MAt.snoc (s9 _ _ e1) (fun k hk => s9 _ _ (e2 k hk)) e9 n1, fun k l hk hl => ?_⟩
        · rw [upd_ne (ne_of_none e hD2)]; exact s9 _ _ (s8 _ _ e)
        · by_cases c : k = i
          · simp only [if_pos c]; exact hf l hl
          · simp only [if_neg c]; exact bb k l (by omega) hl
      · obtain ⟨s8, b', mb', bb'⟩ := p
        refine ⟨_, rfl, _, rfl, _, rfl, by show 3 ≤ sizeLine; decide, fun t ht => ?_⟩
        have s9 : Same H8 (upd H8 t (.tup [.int n, .ref D, .ref D2])) := same_upd ht
        obtain ⟨x1, x2⟩ := d1.hb bb
        obtain ⟨y1, y2⟩ := d2.hb bb'
        exact k _ t D D2 n N N' b b' (same_tr s6 (same_tr s7 (same_tr s8 s9))) upd_same ((mb.same s8).same s9) (mb'.same s9) n1 n3 N8 N8' x1 x2 y1 y2
end
end Cw

set_option maxRecDepth 100000
set_option maxHeartbeats 8000000
namespace Cw
open PySem L2
section
variable {P : Program} {w : World} {K : PySem.W.Frag} {mg : Str → Option Value} {base : Heap}
abbrev sAllIn : Stmt := top 86
theorem scAllIn : FnScope ["_law_drawn", "_law_other", "_law_k", "_law_empty", "_law_level", "_law_bill", "_law_found"] ["_law_drawn", "_law_other"] (defScope sAllIn) := ⟨rfl, rfl, rfl, by decide +kernel, rfl, by decide +kernel, by decide +kernel⟩
def spAllIn (K : PySem.W.Frag) : Sp := fun vs H Q _ => ∃ (t g p q : Addr) (n N N' : Nat) (b b' : Nat → Nat → Int) (B M : Nat), vs = [.ref t, .ref g] ∧ H t = some (.tup [.int n, .ref p, .ref q]) ∧ MAt H p N n b ∧ MAt H q N' n b' ∧ Hall H g n N' b' ∧ HB n N' b' B M ∧ (∀ i l, i < N → l < n → (b i l).natAbs ≤ Ch.tw 100) ∧ N ≤ 8 ∧
  ∀ H' (v : Bool), Same H H' → (v = true ↔ AllIn n N N' b b') → Q (.bl v) H'
theorem ok_allIn {f : Addr} {fd : FuncData} (F : Fun K "_law_all_in" "_law_all_in" sAllIn f fd) (mr : mg "range" = none) (cS : Cal P w K mg base "_law_same" 11 ["_law_hall", "_law_bills", "_law_one", "_law_other"] (spLS K)) : FnOk P w K mg base CX0 12 f fd ["_law_drawn", "_law_other"] (spAllIn K) := by
  obtain ⟨fS, fdS, GS, gS, kS, bS⟩ := cS
  refine F.ok scAllIn (fun vs H Q E h => ?_) (fun cdv A outer s H vs Q E hr h => ?_)
  · obtain ⟨t, g, p, q, n, N, N', b, b', B, M, rfl, _⟩ := h
    rfl
  · obtain ⟨t, g, p, q, n, N, N', b, b', B, M, rfl, ht, ⟨r, hp1, hp2⟩, ⟨r', hq1, hq2⟩, gl, hB, hb, hN, k⟩ := h
    have n6 := gl.n6
    refine ⟨_, pss_cons (ps_setLc (i := 3) (own := [("_law_k", 2)]) (g := gName 2) (tt := tYes) (te := tC (.int 0)) (by rfl) scAllIn.nd rfl rfl (sw_true rfl rfl rfl (by decide +kernel)) (pi_range1 rfl mr (pa_cons (pe_ix ix_tup (pv 0) pe_int (fun _ _ => rfl)) pa_nil))
        (blkOk_by (own := [("_law_k", 2)]) (N := ["_law_drawn", "_law_other", "_law_k", "_law_empty", "_law_level", "_law_bill", "_law_found"]) (sc := defScope sAllIn) (by decide +kernel)) (fun _ _ _ _ _ => pg_name (i := 2) scAllIn.nd rfl (Or.inl rfl)) (fun _ _ _ _ _ => pts_nil) (fun _ _ _ _ _ => pe_int))
      (pss_cons (ps_set (i := 4) scAllIn.nd rfl (Or.inl rfl) pe_bl)
      (pss_cons (ps_for PassesOwn.never rfl (pi_list (pe_ix ix_tup (pv 0) pe_int (fun _ _ => rfl))) (pg_name (i := 5) scAllIn.nd rfl (Or.inl rfl))
        (pss_cons (ps_set (i := 6) scAllIn.nd rfl (Or.inl rfl) (pe_call GS hr rfl gS kS bS .nil pass0 (pa_cons (pv 1) (pa_cons (pe_ix ix_tup (pv 0) pe_int (fun _ _ => rfl)) (pa_cons (pv 3) (pa_cons (pv 5) pa_nil))))))
        (pss_cons (ps_if (pt_cmpR op_isN (pv 6) pe_non (nomark _)) (pss_one (ps_ret pe_non)) pss_nil)
        (pss_one (ps_set (i := 4) scAllIn.nd rfl (Or.inl rfl) (pe_and (pv 4) (pe_one (pv 6))))))))
      (pss_one (ps_ret (pv 4))))), ?_⟩
    refine ⟨_, rfl, t, _, _, _, rfl, rfl, SqT.of ht, rfl, n, rfl, by omega, by omega, fun D hD => lc_range (lo := 0) (n := n) (fun i H' => Same H H' ∧ H' D = some (.lst (Lz i fun _ => 0))) ⟨same_upd hD, upd_same⟩ (fun i H1 hi p => ?_) (fun H1 p => ?_)⟩
    · refine ⟨rfl, _, p.2, small (by rw [Lz_len]; omega), fun b x e => ?_, ?_⟩
      · rw [upd_ne (ne_of_none e hD)]; exact p.1 b x e
      · rw [upd_same, Lz_succ]
    · obtain ⟨s1, e1⟩ := p
      refine ⟨_, rfl, t, _, _, _, rfl, rfl, SqT.of (s1 _ _ ht), rfl, p, rfl, ⟨_, SqL.of (s1 _ _ hp1)⟩, for_list (K := K) (a := p) (xs := Rz N r) (fun i σ H' => ∃ (u5 u6 : Option V) (c : Bool), σ = [some (.ref t), some (.ref g), none, some (.ref D), some (.bl c), u5, u6] ∧ Same H1 H' ∧ (c = true ↔ ∀ j, j < i → InSt n N' b' (b j))) ⟨none, none, true, rfl, same_rfl, ⟨fun _ j hj => absurd hj (Nat.not_lt_zero _), fun _ => rfl⟩⟩ (fun i σ H' _ ⟨_, _, _, _, q, _⟩ => SqL.of (q _ _ (s1 _ _ hp1))) ?_ ?_⟩
      · rintro i x σ H2 hx ⟨u5, u6, c, rfl, s2, al⟩
        have hi : i < N := by have := (List.getElem?_eq_some_iff.mp hx).1; rw [Rz_len] at this; exact this
        cases Option.some.inj ((Rz_get r hi).symm.trans hx)
        have s12 := same_tr s1 s2
        refine ⟨_, rfl, _, rfl, t, _, _, _, rfl, rfl, SqT.of (s12 _ _ ht), rfl, _, rfl, _, rfl, ?_⟩
        refine ⟨g, q, D, r i, n, N', r', b', B, M, fun _ => 0, b i, rfl, gl.same s12, hB, SqL.of (s12 _ _ hq1), fun k hk => SqL.of (s12 _ _ (hq2 k hk)), SqL.of (s2 _ _ e1), SqL.of (s12 _ _ (hp2 i hi)), fun l hl => by simp, fun l hl => ?_, fun H3 v s3 hv => ?_⟩
        · have := hb i l hi hl
          have e : Ch.tw 101 = 2 * Ch.tw 100 := Ch.tw_succ 100
          show (b i l - 1 * 0).natAbs ≤ _
          omega
        · have s13 := same_tr s12 s3
          have hv2 : v = true ↔ InSt n N' b' (b i) := by
            rw [hv]
            constructor
            · rintro ⟨st, wk, lt, sp⟩
              exact ⟨st, wk, lt, sp.congr fun l hl => by show b i l = b i l - 1 * 0; omega⟩
            · rintro ⟨st, wk, lt, sp⟩
              exact ⟨st, wk, lt, sp.congr fun l hl => by show b i l - 1 * 0 = b i l; omega⟩
          have all : ∀ c' : Bool, (c' = true ↔ c = true ∧ v = true) → (c' = true ↔ ∀ j, j < i + 1 → InSt n N' b' (b j)) := fun c' h => by
            rw [h, al, hv2]
            exact ⟨fun ⟨x1, x2⟩ j hj => by
              rcases Nat.lt_or_ge j i with e | e
              · exact x1 j e
              · obtain rfl : j = i := by omega
                exact x2, fun x => ⟨fun j hj => x j (by omega), x i (by omega)⟩⟩
          refine ⟨_, rfl, rfl, _, rfl, ?_⟩
          rw [decide_eq_false (by intro e; cases e)]
          refine iteF ?_
          cases c with
          | true => exact ⟨_, rfl, true, rfl, iteT ⟨_, rfl, _, _, v, rfl, same_tr s2 s3, all v (by simp)⟩⟩
          | false => exact ⟨_, rfl, false, rfl, iteF ⟨_, _, false, rfl, same_tr s2 s3, all false (by simp)⟩⟩
      · rintro σ H2 ⟨u5, u6, c, rfl, s2, al⟩
        rw [Rz_len] at al
        refine ⟨_, rfl, k H2 c (same_tr s1 s2) (al.trans ?_)⟩
        obtain ⟨st, wk, lt⟩ := lt_ex hB
        rw [AllIn.iff lt]
        refine ⟨fun h i hi => ?_, fun h i hi => ⟨st, wk, lt, h i hi⟩⟩
        obtain ⟨st', wk', lt', sp⟩ := h i hi
        cases lt'.uni lt
        exact sp
end
end Cw

set_option maxRecDepth 100000
set_option maxHeartbeats 8000000
namespace Cw
open PySem L2
theorem allW_ints {xs : List V} (h : ∀ x, x ∈ xs → ∃ i : Int, x = .int i) : AllW xs true := by
  refine ⟨List.replicate xs.length true, by rw [List.length_replicate], fun i x hx => ?_, ?_⟩
  · have hi : i < xs.length := (List.getElem?_eq_some_iff.mp hx).1
    obtain ⟨z, rfl⟩ := h x (List.mem_of_getElem? hx)
    exact ⟨true, by rw [List.getElem?_replicate, if_pos hi], .int z⟩
  · symm
    exact List.all_eq_true.mpr fun c m => List.eq_of_mem_replicate m
theorem Lz_ints {n : Nat} {f : Nat → Int} {x : V} (h : x ∈ Lz n f) : ∃ i : Int, x = .int i := by
  unfold Lz at h
  obtain ⟨k, _, e⟩ := List.mem_map.mp h
  exact ⟨_, e.symm⟩
theorem allW_bad {n : Nat} {f : Nat → Int} {v : V} (hn : 1 ≤ n) (hv : Wh v false) : AllW ((Lz n f).set 0 v) false := by
  refine ⟨(List.range n).map fun k => decide (k ≠ 0), by rw [List.length_map, List.length_range, List.length_set, Lz_len], fun i x hx => ?_, ?_⟩
  · have hi : i < n := by have := (List.getElem?_eq_some_iff.mp hx).1; rw [List.length_set, Lz_len] at this; exact this
    refine ⟨decide (i ≠ 0), by rw [List.getElem?_map, List.getElem?_range hi]; rfl, ?_⟩
    by_cases c : i = 0
    · subst c
      rw [List.getElem?_set_self (by rw [Lz_len]; exact hi)] at hx
      cases hx
      exact hv
    · rw [List.getElem?_set_ne (fun e => c e.symm), Lz_get f hi] at hx
      cases hx
      rw [decide_eq_true c]
      exact .int _
  · symm
    refine Bool.eq_false_iff.mpr fun h => ?_
    have := List.all_eq_true.mp h false (List.mem_map.mpr ⟨0, List.mem_range.mpr hn, by simp⟩)
    cases this
theorem cut_len {xs : List V} (h : 1 ≤ xs.length) : (cutV xs (some 1) none).length = xs.length - 1 := by
  unfold cutV
  rw [HT.sIx_none, show (1 : Int) = ((1 : Nat) : Int) from rfl, HT.sIx_nat, List.length_take, List.length_drop]
  omega
theorem cut_mem {xs : List V} {x : V} {a b : Option Int} (h : x ∈ cutV xs a b) : x ∈ xs := List.mem_of_mem_drop (List.mem_of_mem_take h)
section
variable {K : PySem.W.Frag} {H : Hp} {m n i : Nat}
theorem nol_tup {a : Addr} {xs : List V} (h : H a = some (.tup xs)) : NoLst K H (.ref a) := ⟨_, .base (.tup h), kit_ty (by decide +kernel)⟩
theorem nol_non : NoLst K H .non := ⟨_, .base .non, kit_ty (by decide +kernel)⟩
theorem nol_int (i : Int) : NoLst K H (.int i) := ⟨_, .base (.int i), kit_ty (by decide +kernel)⟩
theorem nol_str (z : Str) : NoLst K H (.str z) := ⟨_, .base (.str z), kit_ty (by decide +kernel)⟩
theorem nol_dic {a : Addr} {kvs : List (Key × V)} (h : H a = some (.dK kvs)) : NoLst K H (.ref a) := ⟨_, .base (.dK h), kit_ty (by decide +kernel)⟩
theorem rw_row {a : Addr} {f : Nat → Int} (h : H a = some (.lst (Lz n f))) : RwB K H n (.ref a) true := .inr ⟨a, _, true, rfl, h, allW_ints fun x => Lz_ints, by rw [Lz_len]; simp⟩
theorem rw_nol {v : V} (h : NoLst K H v) : RwB K H n v false := .inl ⟨h, rfl⟩
theorem rw_len {a : Addr} {xs : List V} (h : H a = some (.lst xs)) (hx : ∀ x, x ∈ xs → ∃ i : Int, x = .int i) (l : xs.length ≠ n) : RwB K H n (.ref a) false := .inr ⟨a, xs, true, rfl, h, allW_ints hx, by rw [decide_eq_false l]; rfl⟩
theorem rw_bad {a : Addr} {f : Nat → Int} {v : V} (h : H a = some (.lst ((Lz n f).set 0 v))) (hn : 1 ≤ n) (hv : Wh v false) : RwB K H n (.ref a) false := .inr ⟨a, _, false, rfl, h, allW_bad hn hv, by simp⟩
theorem nofit_at {q : Addr} {xs : List V} {c : Nat → Bool} (hq : H q = some (.lst xs)) (hc : ∀ k x, xs[k]? = some x → RwB K H n x (c k)) (hi : i < xs.length) (hf : c i = false) : NoFit K H m n (.ref q) := by
  refine .inr ⟨q, xs, rfl, hq, .inr ⟨(List.range xs.length).map c, fun k x hx => ?_, i, hi, ?_⟩⟩
  · have hk : k < xs.length := (List.getElem?_eq_some_iff.mp hx).1
    exact ⟨c k, by rw [List.getElem?_map, List.getElem?_range hk]; rfl, hc k x hx⟩
  · rw [List.getElem?_map, List.getElem?_range hi, ← hf]; rfl
/-- one row set to what is no row -/
theorem nofit_set {q : Addr} {r : Nat → Addr} {R : Nat → Nat → Int} {v : V} (hq : H q = some (.lst ((Rz m r).set i v))) (hi : i < m) (hr : ∀ k, k < m → H (r k) = some (.lst (Lz n (R k)))) (hv : RwB K H n v false) : NoFit K H m n (.ref q) := by
  refine nofit_at (c := fun k => decide (k ≠ i)) (i := i) hq (fun k x hx => ?_) (by rw [List.length_set, Rz_len]; exact hi) (by simp)
  have hk : k < m := by have := (List.getElem?_eq_some_iff.mp hx).1; rw [List.length_set, Rz_len] at this; exact this
  by_cases c : k = i
  · subst c
    rw [List.getElem?_set_self (by rw [Rz_len]; exact hk)] at hx
    cases hx
    rw [show decide (k ≠ k) = false by simp]
    exact hv
  · rw [List.getElem?_set_ne (fun e => c e.symm), Rz_get r hk] at hx
    cases hx
    rw [show decide (k ≠ i) = true by simp [c]]
    exact rw_row (hr k hk)
/-- one row changed in its place -/
theorem nofit_in {q : Addr} {r : Nat → Addr} {R : Nat → Nat → Int} {xs : List V} (hq : H q = some (.lst (Rz m r))) (hi : i < m) (hr : ∀ k, k < m → H (r k) = some (.lst (Lz n (R k)))) (hn : 1 ≤ n) (hv : RwB K (upd H (r i) (.lst xs)) n (.ref (r i)) false) : NoFit K (upd H (r i) (.lst xs)) m n (.ref q) := by
  have nq : r i ≠ q := ref_ne hq (hr i hi) hn
  refine nofit_at (c := fun k => decide (r k ≠ r i)) (i := i) (xs := Rz m r) (by rw [upd_ne nq.symm]; exact hq) (fun k x hx => ?_) (by rw [Rz_len]; exact hi) (by simp)
  have hk : k < m := by have := (List.getElem?_eq_some_iff.mp hx).1; rw [Rz_len] at this; exact this
  rw [Rz_get r hk] at hx
  cases hx
  by_cases c : r k = r i
  · rw [show decide (r k ≠ r i) = false by simp [c], c]
    exact hv
  · rw [show decide (r k ≠ r i) = true by simp [c]]
    exact rw_row (f := R k) (by rw [upd_ne c]; exact hr k hk)
end
/-- rows made anew -/
def MAtN (H0 H : Hp) (l : Addr) (m n : Nat) (R : Nat → Nat → Int) : Prop := ∃ q : Nat → Addr, H l = some (.lst (Rz m q)) ∧ ∀ k, k < m → H (q k) = some (.lst (Lz n (R k))) ∧ H0 (q k) = none
theorem MAtN.more {H0 H : Hp} {D p : Addr} {i n : Nat} {R : Nat → Nat → Int} {q : Nat → Addr} (h1 : H D = some (.lst (Rz i q))) (h2 : ∀ k, k < i → H (q k) = some (.lst (Lz n (R k))) ∧ H0 (q k) = none) (h3 : H p = some (.lst (Lz n (R i)))) (h4 : H0 p = none) (hn : 1 ≤ n) : MAtN H0 (upd H D (.lst (Rz i q ++ [.ref p]))) D (i + 1) n R := by
  refine ⟨fun j => if j < i then q j else p, ?_, fun k hk => ?_⟩
  · rw [upd_same, Rz_succ, if_neg (Nat.lt_irrefl _)]
    rw [show Rz i (fun j => if j < i then q j else p) = Rz i q from Rz_congr fun j hj => if_pos hj]
  · by_cases c : k < i
    · simp only [if_pos c]
      rw [upd_ne (ref_ne h1 (h2 k c).1 hn)]; exact h2 k c
    · obtain rfl : k = i := by omega
      simp only [if_neg c]
      rw [upd_ne (ref_ne h1 h3 hn)]; exact ⟨h3, h4⟩
end Cw

set_option maxRecDepth 100000
set_option maxHeartbeats 8000000
namespace Cw
open PySem L2
theorem nat_is {m : Nat} {c : Int} (h : 1 ≤ m) : ∃ i : Nat, i < m ∧ c.fmod (m : Int) = (i : Int) := by
  have a := fmod_cell c (m : Int) (by omega)
  obtain ⟨i, e⟩ := Int.eq_ofNat_of_zero_le a.1
  exact ⟨i, by omega, e⟩
theorem menu4 {d : Addr} {z : Int} {s : Str} (h : 0 ≤ z ∧ z < 4) : ∃ v, atI [V.non, V.int 5, V.str s, V.ref d] z = some v ∧ ∀ (K : PySem.W.Frag) (H : Hp), H d = some (.dK []) → NoLst K H v := by
  have : z = 0 ∨ z = 1 ∨ z = 2 ∨ z = 3 := by omega
  rcases this with rfl | rfl | rfl | rfl
  · exact ⟨_, rfl, fun _ _ _ => nol_non⟩
  · exact ⟨_, rfl, fun _ _ _ => nol_int _⟩
  · exact ⟨_, rfl, fun _ _ _ => nol_str _⟩
  · exact ⟨_, rfl, fun _ _ hd => nol_dic hd⟩
theorem menu3 {z : Int} {s : Str} (h : 0 ≤ z ∧ z < 3) : ∃ v, atI [V.bl true, V.str s, V.non] z = some v ∧ Wh v false := by
  have : z = 0 ∨ z = 1 ∨ z = 2 := by omega
  rcases this with rfl | rfl | rfl
  · exact ⟨_, rfl, .bl _⟩
  · exact ⟨_, rfl, .str _⟩
  · exact ⟨_, rfl, .non⟩
section
variable {P : Program} {w : World} {K : PySem.W.Frag} {mg : Str → Option Value} {base : Heap}
abbrev sSpoil : Stmt := top 85
theorem scSpoil : FnScope ["_law_table", "_law_way", "_law_cell", "_law_row_here", "_law_made", "_law_at"] ["_law_table", "_law_way", "_law_cell"] (defScope sSpoil) := ⟨rfl, rfl, rfl, by decide +kernel, rfl, by decide +kernel, by decide +kernel⟩
def spSpoil (K : PySem.W.Frag) : Sp := fun vs H Q _ => ∃ (p : Addr) (m n : Nat) (r : Nat → Addr) (R : Nat → Nat → Int) (wy c : Int), vs = [.ref p, .int wy, .int c] ∧ SqL K H p (Rz m r) ∧ Rows K H m n r R ∧ 1 ≤ m ∧ m ≤ 100 ∧ 1 ≤ n ∧ n ≤ 100 ∧ ∀ H' v, Same H H' → NoFit K H' m n v → Q v H'
theorem ok_spoil {f : Addr} {fd : FuncData} (F : Fun K "_law_spoilt" "_law_spoilt" sSpoil f fd) (mli : mg "list" = none) (mt : mg "tuple" = none) (ml : mg "len" = none) : FnOk P w K mg base CX0 1 f fd ["_law_table", "_law_way", "_law_cell"] (spSpoil K) := by
  refine F.ok scSpoil (fun vs H Q E h => ?_) (fun cdv A outer s H vs Q E hr h => ?_)
  · obtain ⟨p, m, n, r, R, wy, c, rfl, _⟩ := h
    rfl
  · obtain ⟨p, m, n, r, R, wy, c, rfl, hp, hR, hm, hm1, hn, hn1, k⟩ := h
    refine ⟨_, pss_cons (ps_setLc (i := 4) (own := [("_law_row_here", 3)]) (g := gName 3) (tt := tYes) (te := tCB (rListOf K) (tCons (tVar 3) tNil)) (by rfl) scSpoil.nd rfl rfl (sw_true rfl rfl rfl (by decide +kernel)) (pi_list (pv 0))
        (blkOk_by (own := [("_law_row_here", 3)]) (N := ["_law_table", "_law_way", "_law_cell", "_law_row_here", "_law_made", "_law_at"]) (sc := defScope sSpoil) (by decide +kernel)) (fun _ _ _ _ _ => pg_name (i := 3) scSpoil.nd rfl (Or.inl rfl)) (fun _ _ _ _ _ => pts_nil) (fun _ _ _ _ _ => pe_callTy call_list_of (by rfl) mli (by decide +kernel) (pa_cons (pv 3) pa_nil)))
      (pss_cons (ps_if (pt_cmpR op_eq (pv 1) pe_int (nomark _)) (pss_one (ps_ret (pe_callTy call_tuple_of (by rfl) mt (by decide +kernel) (pa_cons (pv 4) pa_nil)))) pss_nil)
      (pss_cons (ps_if (pt_cmpR op_eq (pv 1) pe_int (nomark _)) (pss_one (ps_ret (pe_op op_cat (pv 4) (pe_lst (pa_cons (pe_callTy call_list_of (by rfl) mli (by decide +kernel) (pa_cons (pe_ix ix_list (pv 4) pe_int (fun _ _ => rfl)) pa_nil)) pa_nil))))) pss_nil)
      (pss_cons (ps_if (pt_cmpR op_eq (pv 1) pe_int (nomark _)) (pss_one (ps_ret (pe_slice sl_list (pv 4) (po_some pe_int) po_none))) pss_nil)
      (pss_cons (ps_set (i := 5) scSpoil.nd rfl (Or.inl rfl) (pe_op op_modZ (pv 2) (pe_callB call_len_seq (by rfl) ml PySem.boot_len (pa_cons (pv 4) pa_nil))))
      (pss_cons (ps_if (pt_cmpR op_eq (pv 1) pe_int (nomark _)) (pss_one (ps_asg (pe_callTy call_tuple_of (by rfl) mt (by decide +kernel) (pa_cons (pe_ix ix_list (pv 4) (pv 5) (fun _ _ => rfl)) pa_nil)) (pg_sub (pv 4) (pv 5) set_list)))
        (pss_one (ps_if (pt_cmpR op_eq (pv 1) pe_int (nomark _)) (pss_one (ps_expr (pe_bm PySem.F.plainAttrs_list PySem.F.slot_list_append PySem.F.type_list_append mt_append (pe_ix ix_list (pv 4) (pv 5) (fun _ _ => rfl)) (pa_cons (pe_op op_modZ (pv 2) pe_int) pa_nil))))
          (pss_one (ps_if (pt_cmpR op_eq (pv 1) pe_int (nomark _)) (pss_one (ps_asg (pe_slice sl_list (pe_ix ix_list (pv 4) (pv 5) (fun _ _ => rfl)) (po_some pe_int) po_none) (pg_sub (pv 4) (pv 5) set_list)))
            (pss_one (ps_if (pt_cmpR op_eq (pv 1) pe_int (nomark _)) (pss_one (ps_asg (pe_ix ix_list (pe_lst (pa_cons pe_non (pa_cons pe_int (pa_cons pe_str (pa_cons pe_dnewK pa_nil))))) (pe_op op_modZ (pe_op op_fdivZ (pv 2) pe_int) pe_int) (fun _ _ => rfl)) (pg_sub (pv 4) (pv 5) set_list)))
              (pss_one (ps_if (pt_cmpR op_eq (pv 1) pe_int (nomark _)) (pss_one (ps_asg (pe_ix ix_list (pe_lst (pa_cons pe_bl (pa_cons pe_str (pa_cons pe_non pa_nil)))) (pe_op op_modZ (pe_op op_fdivZ (pv 2) pe_int) pe_int) (fun _ _ => rfl)) (pg_sub (pe_ix ix_list (pv 4) (pv 5) (fun _ _ => rfl)) pe_int set_list)))
                (pss_one (ps_ret (pe_ix ix_list (pe_lst (pa_cons pe_non (pa_cons pe_int (pa_cons pe_str (pa_cons pe_dnewK pa_nil))))) (pe_op op_modZ (pv 2) pe_int) (fun _ _ => rfl)))))))))))))
      (pss_one (ps_ret (pv 4)))))))), ?_⟩
    refine ⟨_, rfl, p, rfl, ⟨_, hp⟩, fun q hq => lc_list (xs := Rz m r) (fun i' H' => Same H H' ∧ MAtN H H' q i' n R) ⟨same_upd hq, fun _ => 0, upd_same, fun k hk => absurd hk (Nat.not_lt_zero _)⟩ (fun _ H' _ p => p.1.seq hp) (fun i' v H' hv p => ?_) (fun H1 p1 => ?_)⟩
    · have hi' : i' < m := by have := (List.getElem?_eq_some_iff.mp hv).1; rw [Rz_len] at this; exact this
      cases Option.some.inj ((Rz_get r hi').symm.trans hv)
      obtain ⟨s1, q', e1, e2⟩ := p
      refine ⟨rfl, _, rfl, r i', _, rfl, .inl (s1.seq (hR i' hi')), fun p6 np6 => ?_⟩
      have s6 : Same H' (upd H' p6 (.lst (Lz n (R i')))) := same_upd np6
      refine ⟨_, s6 _ _ e1, small (by rw [Rz_len]; omega), fun b z e => ?_, MAtN.more (s6 _ _ e1) (fun k hk => ⟨s6 _ _ (e2 k hk).1, (e2 k hk).2⟩) upd_same (s1.free np6) hn⟩
      rw [upd_ne (ne_of_none e hq)]; exact s6 _ _ (s1 _ _ e)
    · rw [Rz_len] at p1
      obtain ⟨s1, r', e1, e2⟩ := p1
      have rows : ∀ k, k < m → H1 (r' k) = some (.lst (Lz n (R k))) := fun k hk => (e2 k hk).1
      have ml' : (Rz m r').length ≤ sizeLine := Nat.le_of_lt (small (by rw [Rz_len]; omega))
      refine ⟨_, rfl, rfl, _, rfl, ?_⟩
      refine eqI (fun w0 => ?_) (fun w0 => ?_)
      · -- a tuple
        refine ⟨_, rfl, q, _, rfl, .inl ⟨SqL.of e1, fun l hl => ?_⟩⟩
        exact k _ _ (same_tr s1 (same_upd hl)) (.inl (nol_tup upd_same))
      refine ⟨_, rfl, rfl, _, rfl, ?_⟩
      refine eqI (fun w1 => ?_) (fun w1 => ?_)
      · -- a row more
        refine ⟨_, rfl, _, rfl, q, _, _, _, rfl, rfl, SqL.of e1, (show atI (Rz m r') ((0 : Nat) : Int) = some (.ref (r' 0)) from atI_nat (Rz_get r' (by omega))), r' 0, _, rfl, .inl (SqL.of (rows 0 (by omega))), fun l hl => ?_⟩
        have s2 : Same H1 (upd H1 l (.lst (Lz n (R 0)))) := same_upd hl
        generalize upd H1 l (.lst (Lz n (R 0))) = H2 at *
        refine ⟨by show 1 ≤ sizeLine; decide, fun d hd => ?_⟩
        have s3 : Same H2 (upd H2 d (.lst [.ref l])) := same_upd hd
        have e3 : (upd H2 d (.lst [.ref l])) d = some (.lst [.ref l]) := upd_same
        generalize upd H2 d (.lst [.ref l]) = H3 at *
        refine ⟨q, d, _, _, rfl, rfl, s3 _ _ (s2 _ _ e1), e3, ?_, fun M hM => ?_⟩
        · rw [Rz_len]; exact Nat.le_of_lt (small (by simp; omega))
        · refine k _ _ (same_tr s1 (same_tr s2 (same_tr s3 (same_upd hM)))) (.inr ⟨M, _, rfl, upd_same, .inl ?_⟩)
          rw [List.length_append, Rz_len]
          simp
      refine ⟨_, rfl, rfl, _, rfl, ?_⟩
      refine eqI (fun w2 => ?_) (fun w2 => ?_)
      · -- a row less
        refine ⟨_, rfl, 1, rfl, q, _, rfl, SqL.of e1, fun l hl => ?_⟩
        refine k _ _ (same_tr s1 (same_upd hl)) (.inr ⟨l, _, rfl, upd_same, .inl ?_⟩)
        rw [cut_len (by rw [Rz_len]; exact hm), Rz_len]
        omega
      obtain ⟨i, hi, ei⟩ := nat_is (c := c) hm
      refine ⟨_, rfl, _, rfl, q, _, rfl, .inl (SqL.of e1), ?_⟩
      rw [Rz_len]
      refine ⟨_, _, rfl, rfl, (show (m : Int) ≠ 0 by omega), ?_⟩
      have ev : V.int (c.fmod (m : Int)) = V.int (i : Int) := congrArg V.int ei
      have nqi : r' i ≠ q := ref_ne e1 (rows i hi) hn
      have fin : ∀ (v : V) (H2 : Hp), Same H1 H2 → RwB K (upd H2 q (.lst ((Rz m r').set i v))) n v false → NoFit K (upd H2 q (.lst ((Rz m r').set i v))) m n (.ref q) := fun v H2 s2 hv => nofit_set (R := R) upd_same hi (fun k hk => by rw [upd_ne (ref_ne e1 (rows k hk) hn)]; exact s2 _ _ (rows k hk)) hv
      have sam : ∀ (H2 : Hp) (o : HO), Same H1 H2 → Same H (upd H2 q o) := fun H2 o s2 b z e => by rw [upd_ne (ne_of_none e hq)]; exact s2 _ _ (s1 _ _ e)
      refine ⟨_, rfl, rfl, _, rfl, ?_⟩
      refine eqI (fun w3 => ?_) (fun w3 => ?_)
      · refine ⟨_, rfl, _, rfl, q, _, _, _, rfl, ev, SqL.of e1, atI_nat (Rz_get r' hi), r' i, _, rfl, .inl ⟨SqL.of (rows i hi), fun l hl => ?_⟩⟩
        have s2 : Same H1 (upd H1 l (.tup (Lz n (R i)))) := same_upd hl
        have e2' : (upd H1 l (.tup (Lz n (R i)))) l = some (.tup (Lz n (R i))) := upd_same
        generalize upd H1 l (.tup (Lz n (R i))) = H2 at *
        refine ⟨_, rfl, _, rfl, q, _, _, i, rfl, ev, s2 _ _ e1, by rw [Rz_len]; exact ixn hi, ?_⟩
        refine ⟨_, rfl, k _ _ (sam H2 _ s2) (fin _ H2 s2 (rw_nol (nol_tup (xs := Lz n (R i)) ?_)))⟩
        rw [upd_ne (fun e => by rw [e, s2 _ _ e1] at e2'; cases e2')]; exact e2'
      refine ⟨_, rfl, rfl, _, rfl, ?_⟩
      refine eqI (fun w4 => ?_) (fun w4 => ?_)
      · refine ⟨_, rfl, _, rfl, q, _, _, _, rfl, ev, SqL.of e1, atI_nat (Rz_get r' hi), .inl ⟨rfl, _, SqL.of (rows i hi)⟩, _, rfl, _, _, rfl, rfl, (show (5 : Int) ≠ 0 by decide), r' i, _, _, rfl, rfl, rows i hi, small (by rw [Lz_len]; omega), ?_⟩
        refine ⟨_, rfl, k _ _ (fun b z e => ?_) (nofit_in (R := R) e1 hi rows hn (rw_len upd_same (fun x hx => ?_) ?_))⟩
        · rw [upd_ne (fun q' => by rw [q', (e2 i hi).2] at e; cases e)]; exact s1 _ _ e
        · rcases List.mem_append.mp hx with h | h
          · exact Lz_ints h
          · exact ⟨_, List.mem_singleton.mp h⟩
        · rw [List.length_append, Lz_len]; simp
      refine ⟨_, rfl, rfl, _, rfl, ?_⟩
      refine eqI (fun w5 => ?_) (fun w5 => ?_)
      · refine ⟨_, rfl, _, rfl, q, _, _, _, rfl, ev, SqL.of e1, atI_nat (Rz_get r' hi), 1, rfl, r' i, _, rfl, SqL.of (rows i hi), fun l hl => ?_⟩
        have s2 : Same H1 (upd H1 l (.lst (cutV (Lz n (R i)) (some 1) none))) := same_upd hl
        have e2' : (upd H1 l (.lst (cutV (Lz n (R i)) (some 1) none))) l = some (.lst (cutV (Lz n (R i)) (some 1) none)) := upd_same
        have nlq : l ≠ q := (ne_of_none e1 hl).symm
        generalize upd H1 l (.lst (cutV (Lz n (R i)) (some 1) none)) = H2 at *
        refine ⟨_, rfl, _, rfl, q, _, _, i, rfl, ev, s2 _ _ e1, by rw [Rz_len]; exact ixn hi, ?_⟩
        refine ⟨_, rfl, k _ _ (sam H2 _ s2) (fin _ H2 s2 (rw_len (a := l) (by rw [upd_ne nlq]; exact e2') (fun x hx => Lz_ints (cut_mem hx)) ?_))⟩
        rw [cut_len (by rw [Lz_len]; exact hn), Lz_len]
        omega
      refine ⟨_, rfl, rfl, _, rfl, ?_⟩
      refine eqI (fun w6 => ?_) (fun w6 => ?_)
      · refine fun d hd => ?_
        have s2 : Same H1 (upd H1 d (.dK [])) := same_upd hd
        have e2' : (upd H1 d (.dK [])) d = some (.dK []) := upd_same
        generalize upd H1 d (.dK []) = H2 at *
        refine ⟨by show 4 ≤ sizeLine; decide, fun l hl => ?_⟩
        have s3 : Same H2 (upd H2 l (.lst [.non, .int 5, .str "12", .ref d])) := same_upd hl
        have e3 : (upd H2 l (.lst [.non, .int 5, .str "12", .ref d])) l = some (.lst [.non, .int 5, .str "12", .ref d]) := upd_same
        generalize upd H2 l (.lst [.non, .int 5, .str "12", .ref d]) = H3 at *
        have s13 := same_tr s2 s3
        have ed := s3 _ _ e2'
        have ndq : d ≠ q := fun e => by rw [e, s13 _ _ e1] at ed; cases ed
        obtain ⟨v, hv, nl⟩ := menu4 (d := d) (s := "12") (fmod_cell (c.fdiv 5) 4 (by decide))
        refine ⟨_, rfl, _, _, rfl, rfl, ⟨by decide, by decide +kernel⟩, _, _, rfl, rfl, (show (4 : Int) ≠ 0 by decide), l, _, _, v, rfl, rfl, SqL.of e3, hv, ?_⟩
        refine ⟨_, rfl, _, rfl, q, _, _, i, rfl, ev, s13 _ _ e1, by rw [Rz_len]; exact ixn hi, ?_⟩
        exact ⟨_, rfl, k _ _ (sam H3 _ s13) (fin _ H3 s13 (rw_nol (nl _ _ (by rw [upd_ne ndq]; exact ed))))⟩
      refine ⟨_, rfl, rfl, _, rfl, ?_⟩
      refine eqI (fun w7 => ?_) (fun w7 => ?_)
      · refine ⟨by show 3 ≤ sizeLine; decide, fun l hl => ?_⟩
        have s2 : Same H1 (upd H1 l (.lst [.bl true, .str "1", .non])) := same_upd hl
        have e2' : (upd H1 l (.lst [.bl true, .str "1", .non])) l = some (.lst [.bl true, .str "1", .non]) := upd_same
        generalize upd H1 l (.lst [.bl true, .str "1", .non]) = H2 at *
        obtain ⟨v, hv, nw⟩ := menu3 (s := "1") (fmod_cell (c.fdiv 5) 3 (by decide))
        refine ⟨_, rfl, _, _, rfl, rfl, ⟨by decide, by decide +kernel⟩, _, _, rfl, rfl, (show (3 : Int) ≠ 0 by decide), l, _, _, v, rfl, rfl, SqL.of e2', hv, ?_⟩
        refine ⟨_, rfl, _, rfl, q, _, _, _, rfl, ev, SqL.of (s2 _ _ e1), atI_nat (Rz_get r' hi), r' i, _, 0, 0, rfl, rfl, s2 _ _ (rows i hi), by rw [Lz_len]; exact ixn (i := 0) hn, ?_⟩
        refine ⟨_, rfl, k _ _ (fun b z e => ?_) (nofit_in (R := R) (s2 _ _ e1) hi (fun k hk => s2 _ _ (rows k hk)) hn (rw_bad upd_same hn nw))⟩
        rw [upd_ne (fun q' => by rw [q', (e2 i hi).2] at e; cases e)]; exact s2 _ _ (s1 _ _ e)
      · refine fun d hd => ?_
        have s2 : Same H1 (upd H1 d (.dK [])) := same_upd hd
        have e2' : (upd H1 d (.dK [])) d = some (.dK []) := upd_same
        generalize upd H1 d (.dK []) = H2 at *
        refine ⟨by show 4 ≤ sizeLine; decide, fun l hl => ?_⟩
        have s3 : Same H2 (upd H2 l (.lst [.non, .int 5, .str "12", .ref d])) := same_upd hl
        have e3 : (upd H2 l (.lst [.non, .int 5, .str "12", .ref d])) l = some (.lst [.non, .int 5, .str "12", .ref d]) := upd_same
        generalize upd H2 l (.lst [.non, .int 5, .str "12", .ref d]) = H3 at *
        obtain ⟨v, hv, nl⟩ := menu4 (d := d) (s := "12") (fmod_cell c 4 (by decide))
        refine ⟨_, rfl, _, _, rfl, rfl, (show (4 : Int) ≠ 0 by decide), l, _, _, v, rfl, rfl, SqL.of e3, hv, ?_⟩
        exact k _ _ (same_tr s1 (same_tr s2 s3)) (.inl (nl _ _ (s3 _ _ e2')))
end
end Cw

set_option maxRecDepth 100000
set_option maxHeartbeats 8000000
namespace Cw
open PySem L2
theorem call_isV {X : Cx} {a D : Addr} {oe : Obj} {cls : Value} {d : Option Addr} {pn : List (Addr × Obj)} (C : ExcC X.K D) (hz : Zc cls d oe) (hf : ∃ vs, oe.data = .fields vs) : CallR (X.suite a ((a, oe) :: pn)) (.builtin "isinstance") (fun xs H Q => cls = .ref D ∧ d = none ∧ rIsE X.K D a xs H Q) := by
  intro pins s σ H xs us Q I r h
  obtain ⟨e1, e2, h⟩ := h
  subst e1 e2
  exact call_isE C hz hf pins s σ H xs us Q I r h
/-- the errors of the law -/
structure ErT (K : PySem.W.Frag) (mg : Str → Option Value) (U HE : Addr) : Prop where
  gU : mg "Unlike" = some (.ref U)
  gH : mg "HallError" = some (.ref HE)
  uu : PySem.W.exmOne K (.ref U) (.ref U) = some true
  uh : PySem.W.exmOne K (.ref U) (.ref HE) = some true
  uv : PySem.W.kitOne K (.ref U) (.type "ValueError") = some true
  ec : ExcC K U
section
variable {P : Program} {w : World} {K : PySem.W.Frag} {mg : Str → Option Value} {base : Heap}
abbrev sAsk : Stmt := top 83
theorem scAsk : FnScope ["_law_one", "_law_other", "_law_table", "_law_which"] ["_law_one", "_law_other", "_law_table", "_law_which"] (defScope sAsk) := ⟨rfl, rfl, rfl, by decide +kernel, rfl, by decide +kernel, by decide +kernel⟩
/-- what is asked is refused -/
def Refu (K : PySem.W.Frag) (H : Hp) (n n' : Nat) (v : V) (wh : Int) : Prop := (0 ≤ wh ∧ wh < 4 ∧ n ≠ n') ∨ (4 ≤ wh ∧ NoFit K H n n' v)
def spAsk (K : PySem.W.Frag) (U : Addr) : Sp := fun vs H Q E => ∃ (h g : Addr) (v : V) (n n' N N' : Nat) (b b' : Nat → Nat → Int) (wh : Int), vs = [.ref h, .ref g, v, .int wh] ∧ Hall H h n N b ∧ Hall H g n' N' b' ∧ Refu K H n n' v wh ∧ E (.ref U) none H
theorem ok_ask {f U W : Addr} {fd : FuncData} (F : Fun K "_law_asked" "_law_asked" sAsk f fd) (cJ : CalX P w K mg base "joined" 2 ["one", "other"] (spUnl U)) (cM : CalX P w K mg base "met" 2 ["one", "other"] (spUnl U)) (cW : CalX P w K mg base "within" 7 ["one", "other"] (spWithin U)) (cI : CalX P w K mg base "index_in" 8 ["one", "other"] (spIndex U W))
    (cS : CalX P w K mg base "sound" 4 ["one", "table", "other"] (spFit K U)) (cP : CalX P w K mg base "pulled" 4 ["one", "table", "other"] (spFit K U)) : FnOk P w K mg base (L2.CX P w) 9 f fd ["_law_one", "_law_other", "_law_table", "_law_which"] (spAsk K U) := by
  obtain ⟨fJ, fdJ, GJ, gJ, kJ, bJ⟩ := cJ
  obtain ⟨fM, fdM, GM, gM, kM, bM⟩ := cM
  obtain ⟨fW, fdW, GW, gW, kW, bW⟩ := cW
  obtain ⟨fI, fdI, GI, gI, kI, bI⟩ := cI
  obtain ⟨fS, fdS, GS, gS, kS, bS⟩ := cS
  obtain ⟨fP, fdP, GP, gP, kP, bP⟩ := cP
  refine F.okX scAsk (fun vs H Q E h => ?_) (fun cdv A outer s H vs Q E hr h => ?_)
  · obtain ⟨h, g, v, n, n', N, N', b, b', wh, rfl, _⟩ := h
    rfl
  · obtain ⟨h, g, v, n, n', N, N', b, b', wh, rfl, hl, gl, rf, kx⟩ := h
    have hr2 : Room 2 _ := hr.mono (by decide)
    have hr4 : Room 4 _ := hr.mono (by decide)
    have hr7 : Room 7 _ := hr.mono (by decide)
    refine ⟨_, pss_cons (ps_if (pt_cmpR op_eq (pv 3) pe_int (nomark _)) (pss_one (ps_ret (pe_call GJ hr2 rfl gJ kJ bJ .nil (passes_call (takes_of rfl rfl rfl rfl) (fun _ _ _ _ h => h)) (pa_cons (pv 0) (pa_cons (pv 1) pa_nil))))) pss_nil)
      (pss_cons (ps_if (pt_cmpR op_eq (pv 3) pe_int (nomark _)) (pss_one (ps_ret (pe_call GM hr2 rfl gM kM bM .nil (passes_call (takes_of rfl rfl rfl rfl) (fun _ _ _ _ h => h)) (pa_cons (pv 0) (pa_cons (pv 1) pa_nil))))) pss_nil)
      (pss_cons (ps_if (pt_cmpR op_eq (pv 3) pe_int (nomark _)) (pss_one (ps_ret (pe_call GW hr7 rfl gW kW bW .nil (passes_call (takes_of rfl rfl rfl rfl) (fun _ _ _ _ h => h)) (pa_cons (pv 0) (pa_cons (pv 1) pa_nil))))) pss_nil)
      (pss_cons (ps_if (pt_cmpR op_eq (pv 3) pe_int (nomark _)) (pss_one (ps_ret (pe_call GI hr rfl gI kI bI .nil (passes_call (takes_of rfl rfl rfl rfl) (fun _ _ _ _ h => h)) (pa_cons (pv 0) (pa_cons (pv 1) pa_nil))))) pss_nil)
      (pss_cons (ps_if (pt_cmpR op_eq (pv 3) pe_int (nomark _)) (pss_one (ps_ret (pe_call GS hr4 rfl gS kS bS .nil (passes_call (takes_of rfl rfl rfl rfl) (fun _ _ _ _ h => h)) (pa_cons (pv 0) (pa_cons (pv 2) (pa_cons (pv 1) pa_nil)))))) pss_nil)
      (pss_one (ps_ret (pe_call GP hr4 rfl gP kP bP .nil (passes_call (takes_of rfl rfl rfl rfl) (fun _ _ _ _ h => h)) (pa_cons (pv 0) (pa_cons (pv 2) (pa_cons (pv 1) pa_nil)))))))))), ?_⟩
    have fit : 4 ≤ wh → NoFit K H n n' v := fun q => by
      rcases rf with ⟨_, a, _⟩ | ⟨_, a⟩
      · omega
      · exact a
    have unl : wh < 4 → n ≠ n' := fun q => by
      rcases rf with ⟨_, _, a⟩ | ⟨a, _⟩
      · exact a
      · omega
    have pos : 0 ≤ wh := by rcases rf with ⟨a, _⟩ | ⟨a, _⟩ <;> omega
    refine ⟨_, rfl, rfl, _, rfl, eqI (fun e => ?_) (fun e0 => ?_)⟩
    · exact ⟨_, rfl, _, rfl, h, g, n, n', N, N', b, b', rfl, hl, gl, unl (by omega), kx⟩
    refine ⟨_, rfl, rfl, _, rfl, eqI (fun e => ?_) (fun e1 => ?_)⟩
    · exact ⟨_, rfl, _, rfl, h, g, n, n', N, N', b, b', rfl, hl, gl, unl (by omega), kx⟩
    refine ⟨_, rfl, rfl, _, rfl, eqI (fun e => ?_) (fun e2 => ?_)⟩
    · exact ⟨_, rfl, _, rfl, h, g, n, n', N, N', b, b', rfl, hl, gl, fun _ => kx, fun q => absurd q (unl (by omega))⟩
    refine ⟨_, rfl, rfl, _, rfl, eqI (fun e => ?_) (fun e3 => ?_)⟩
    · exact ⟨_, rfl, _, rfl, h, g, n, n', N, N', b, b', rfl, hl, gl, fun _ => kx, fun q => absurd q (unl (by omega))⟩
    refine ⟨_, rfl, rfl, _, rfl, eqI (fun e => ?_) (fun e4 => ?_)⟩
    · exact ⟨_, rfl, _, rfl, _, rfl, h, g, v, n, n', N, N', b, b', rfl, hl, gl, fit (by omega), kx⟩
    · exact ⟨_, rfl, _, rfl, _, rfl, h, g, v, n, n', N, N', b, b', rfl, hl, gl, fit (by omega), kx⟩
abbrev sUnl : Stmt := top 84
theorem scUnl : FnScope ["_law_one", "_law_other", "_law_table", "_law_which", "_law_refused", "e"] ["_law_one", "_law_other", "_law_table", "_law_which"] (defScope sUnl) := ⟨rfl, rfl, rfl, by decide +kernel, rfl, by decide +kernel, by decide +kernel⟩
def spLU (K : PySem.W.Frag) : Sp := fun vs H Q _ => ∃ (h g : Addr) (v : V) (n n' N N' : Nat) (b b' : Nat → Nat → Int) (wh : Int), vs = [.ref h, .ref g, v, .int wh] ∧ Hall H h n N b ∧ Hall H g n' N' b' ∧ Refu K H n n' v wh ∧ Q (.bl true) H
theorem ok_LU {f U HE : Addr} {fd : FuncData} (F : Fun K "_law_unlike" "_law_unlike" sUnl f fd) (T : ErT K mg U HE) (ms : mg "isinstance" = none) (mi : mg "int" = none) (mV : mg "ValueError" = none) (cA : CalX P w K mg base "_law_asked" 9 ["_law_one", "_law_other", "_law_table", "_law_which"] (spAsk K U)) : FnOk P w K mg base CX0 10 f fd ["_law_one", "_law_other", "_law_table", "_law_which"] (spLU K) := by
  obtain ⟨fA, fdA, GA, gA, kA, bA⟩ := cA
  refine F.ok scUnl (fun vs H Q E h => ?_) (fun cdv A outer s H vs Q E hr h => ?_)
  · obtain ⟨h, g, v, n, n', N, N', b, b', wh, rfl, _⟩ := h
    rfl
  · obtain ⟨h, g, v, n, n', N, N', b, b', wh, rfl, hl, gl, rf, k⟩ := h
    refine ⟨_, pss_cons (ps_set (i := 4) scUnl.nd rfl (Or.inl rfl) pe_int)
      (pss_cons (ps_try_only (Wout := fun _ _ _ _ => False) rfl rfl ⟨rfl, by decide, .inl T.gU⟩ takes0
          (fun W pn xe tk _ => pss_one (ps_expr (by exact (pe_callS GA hr rfl gA kA bA (fun σ => passAt tk σ) (by exact (pa_cons (pv 0) (pa_cons (pv 1) (pa_cons (pv 2) (pa_cons (pv 3) pa_nil)))))))))
          (fun a oe cls d pn _ _ => pss_one (ps_set (i := 4) scUnl.nd rfl (Or.inl rfl) (pe_op op_add (pv 4) pe_int))))
      (pss_cons (ps_try_as (i := 5) (Wout := fun _ _ _ _ => False) rfl rfl scUnl.nd rfl rfl ⟨rfl, by decide, .inl T.gH⟩ takes0
          (fun W pn xe tk _ => pss_one (ps_expr (by exact (pe_callS GA hr rfl gA kA bA (fun σ => passAt tk σ) (by exact (pa_cons (pv 0) (pa_cons (pv 1) (pa_cons (pv 2) (pa_cons (pv 3) pa_nil)))))))))
          (fun a oe cls d pn hz hf => pss_one (ps_set (i := 4) scUnl.nd rfl (Or.inl rfl) (pe_op op_add (pv 4) (pe_callTy call_int1 (by rfl) mi (by decide +kernel) (pa_cons (pe_callB (call_isV T.ec hz hf) (by rfl) ms (by decide +kernel) (pa_cons (pv 5) (pa_cons (pe_bltn (v := .ty "ValueError") (by rfl) mV (by decide +kernel) rfl) pa_nil))) pa_nil))))))
      (pss_one (ps_ret (pe_cmpR op_eq (pv 4) pe_int (nomark _)))))), ?_⟩
    refine ⟨_, rfl, _, rfl, _, rfl, _, rfl, h, g, v, n, n', N, N', b, b', wh, rfl, hl, gl, rf, true, T.uu, fun _ a _ => ?_, fun q => nomatch q⟩
    refine ⟨_, rfl, _, _, rfl, rfl, ?_⟩
    refine ⟨_, rfl, _, rfl, _, rfl, _, rfl, h, g, v, n, n', N, N', b, b', wh, rfl, hl, gl, rf, true, T.uh, fun _ a _ => ?_, fun q => nomatch q⟩
    refine ⟨_, rfl, _, rfl, rfl, rfl, _, _, true, rfl, fun u hu => hu, T.uv, .inr ⟨true, rfl, ?_⟩⟩
    refine ⟨_, _, rfl, rfl, ?_⟩
    refine ⟨_, rfl, rfl, ?_⟩
    rw [dec_int]
    exact k
end
end Cw

set_option maxRecDepth 100000
set_option maxHeartbeats 8000000
namespace Cw
open PySem L2
theorem b30 {z : Int} (h : z.natAbs ≤ 999999999999999999999999999999) : -(10 ^ 30) < z ∧ z < 10 ^ 30 := by
  have e : (10 : Int) ^ 30 = 1000000000000000000000000000000 := by decide
  rw [e]; omega
section
variable {P : Program} {w : World} {K : PySem.W.Frag} {mg : Str → Option Value} {base : Heap}
abbrev sLaw : Stmt := top 87
abbrev lN : List Str := ["_law_script", "_law_drawn", "_law_kinds", "_law_cell", "_law_one", "_law_other", "_law_way", "_law_bill", "_law_wider", "_law_size", "_law_there", "_law_k", "_law_table", "_law_due", "_law_found", "_law_refused"]
theorem scLaw : FnScope lN ["_law_script"] (defScope sLaw) := ⟨rfl, rfl, rfl, by decide +kernel, rfl, by decide +kernel, by decide +kernel⟩
def spLaw (K : PySem.W.Frag) : Sp := fun vs H Q _ => ∃ (a : Addr) (ns : List Int), vs = [.ref a] ∧ SqL K H a (ns.map V.int) ∧ ∀ H', Q (.bl true) H'
theorem ok_law {f U W : Addr} {fd : FuncData} (F : Fun K "law" "law" sLaw f fd) (mr : mg "range" = none) (ms : mg "isinstance" = none) (mb : mg "bool" = none) (gW : mg "NotWithin" = some (.ref W)) (ww : PySem.W.exmOne K (.ref W) (.ref W) = some true)
    (cT : Cal P w K mg base "_law_two" 3 ["_law_script"] (spTwo K)) (cC : Cal P w K mg base "_law_cell_at" 1 ["_law_script", "_law_k"] (spCell K)) (cH : Cal P w K mg base "hall_of" 3 ["kinds", "bills"] spHallOf) (cY : Cal P w K mg base "_law_copied" 1 ["_law_rows"] (spCopied K))
    (cU : Cal P w K mg base "_law_unlike" 10 ["_law_one", "_law_other", "_law_table", "_law_which"] (spLU K)) (cR : Cal P w K mg base "_law_row" 2 ["_law_script", "_law_at", "_law_size", "_law_mode"] (spRow K)) (cP : Cal P w K mg base "_law_spoilt" 1 ["_law_table", "_law_way", "_law_cell"] (spSpoil K))
    (cA : Cal P w K mg base "_law_all_in" 12 ["_law_drawn", "_law_other"] (spAllIn K)) (cW : CalX P w K mg base "within" 7 ["one", "other"] (spWithin U)) (cI : CalX P w K mg base "index_in" 8 ["one", "other"] (spIndex U W)) : FnOk P w K mg base CX0 13 f fd ["_law_script"] (spLaw K) := by
  obtain ⟨fT, fdT, GT, gT, kT, bT⟩ := cT
  obtain ⟨fC, fdC, GC, gC, kC, bC⟩ := cC
  obtain ⟨fH, fdH, GH, gH, kH, bH⟩ := cH
  obtain ⟨fY, fdY, GY, gY, kY, bY⟩ := cY
  obtain ⟨fU, fdU, GU, gU, kU, bU⟩ := cU
  obtain ⟨fR, fdR, GR, gR, kR, bR⟩ := cR
  obtain ⟨fP, fdP, GP, gP, kP, bP⟩ := cP
  obtain ⟨fA, fdA, GA, gA, kA, bA⟩ := cA
  obtain ⟨fW, fdW, GW, gW', kW, bW⟩ := cW
  obtain ⟨fI, fdI, GI, gI, kI, bI⟩ := cI
  refine F.ok scLaw (fun vs H Q E h => ?_) (fun cdv A outer s H vs Q E hr h => ?_)
  · obtain ⟨a, ns, rfl, _⟩ := h
    rfl
  · obtain ⟨a, ns, rfl, ha, k⟩ := h
    have hr1 : Room 1 _ := hr.mono (by decide)
    have hr2 : Room 2 _ := hr.mono (by decide)
    have hr3 : Room 3 _ := hr.mono (by decide)
    have hr7 : Room 7 _ := hr.mono (by decide)
    have hr8 : Room 8 _ := hr.mono (by decide)
    have hr10 : Room 10 _ := hr.mono (by decide)
    refine ⟨_, pss_cons (ps_set (i := 1) scLaw.nd rfl (Or.inl rfl) (pe_call GT hr3 rfl gT kT bT .nil pass0 (pa_cons (pv 0) pa_nil)))
      (pss_cons (ps_set (i := 2) scLaw.nd rfl (Or.inl rfl) (pe_ix ix_tup (pv 1) pe_int (fun _ _ => rfl)))
      (pss_cons (ps_set (i := 3) scLaw.nd rfl (Or.inr rfl) (pe_call GC hr1 rfl gC kC bC .nil pass0 (pa_cons (pv 0) (pa_cons pe_int pa_nil))))
      (pss_cons (ps_set (i := 4) scLaw.nd rfl (Or.inl rfl) (pe_call GH hr3 rfl gH kH bH .nil pass0 (pa_cons (pv 2) (pa_cons (pe_call GY hr1 rfl gY kY bY .nil pass0 (pa_cons (pe_ix ix_tup (pv 1) pe_int (fun _ _ => rfl)) pa_nil)) pa_nil))))
      (pss_cons (ps_set (i := 5) scLaw.nd rfl (Or.inl rfl) (pe_call GH hr3 rfl gH kH bH .nil pass0 (pa_cons (pv 2) (pa_cons (pe_call GY hr1 rfl gY kY bY .nil pass0 (pa_cons (pe_ix ix_tup (pv 1) pe_int (fun _ _ => rfl)) pa_nil)) pa_nil))))
      (pss_cons (ps_set (i := 6) scLaw.nd rfl (Or.inl rfl) (pe_op op_modZ (pe_call GC hr1 rfl gC kC bC .nil pass0 (pa_cons (pv 0) (pa_cons pe_int pa_nil))) pe_int))
      (C8.pss_cut (ps_if (PW.pt (pw_and (pt_cmpR op_eq (pv 6) pe_int (nomark _)) (pw_and1 (pt_cmpR op_lt (pv 2) pe_int (nomark _)))))
        (pss_cons (ps_set (i := 8) scLaw.nd rfl (Or.inl rfl) (pe_call GH hr3 rfl gH kH bH .nil pass0 (pa_cons (pe_op op_add (pv 2) pe_int) (pa_cons
            (pe_lc (own := [("_law_bill", 7)]) (g := gName 7) (tt := tYes) (te := tOp rCat (tVar 7) (tLst (tCons (tOp (rI (fun _ j => j ≠ 0) fun i j => .int (i.fmod j)) (tVar 3) (tC (.int 2))) tNil))) (by rfl) scLaw.nd (pi_list (pe_ix ix_tup (pv 1) pe_int (fun _ _ => rfl))) (blkOk_by (own := [("_law_bill", 7)]) (N := lN) (sc := defScope sLaw) (by decide +kernel))
              (fun _ _ _ _ _ => pg_name (i := 7) scLaw.nd rfl (Or.inl rfl)) (fun _ _ _ _ _ => pts_nil) (fun _ _ _ _ _ => pe_op op_cat (pv 7) (pe_lst (pa_cons (pe_op op_modZ (pv 3) pe_int) pa_nil)))) pa_nil))))
        (pss_one (ps_ret (pe_and (pe_call GU hr10 rfl gU kU bU .nil pass0 (pa_cons (pv 4) (pa_cons (pv 8) (pa_cons (pe_lst pa_nil) (pa_cons (pe_op op_modZ (pe_op op_fdivZ (pv 3) pe_int) pe_int) pa_nil)))))
          (pe_one (pe_call GU hr10 rfl gU kU bU .nil pass0 (pa_cons (pv 8) (pa_cons (pv 4) (pa_cons (pe_lst pa_nil) (pa_cons (pe_op op_modZ (pe_op op_fdivZ (pv 3) pe_int) pe_int) pa_nil)))))))))) pss_nil)
      (pss_cons (ps_if (pt_cmpR op_eq (pv 6) pe_int (nomark _))
        (C8.pss_cut (ps_set (i := 9) scLaw.nd rfl (Or.inr rfl) (pe_op op_add pe_int (pe_op op_modZ (pe_call GC hr1 rfl gC kC bC .nil pass0 (pa_cons (pv 0) (pa_cons pe_int pa_nil))) pe_int)))
        (pss_cons (ps_set (i := 10) scLaw.nd rfl (Or.inl rfl) (pe_call GH hr3 rfl gH kH bH .nil pass0 (pa_cons (pv 9) (pa_cons (pe_lst (pa_cons (pe_call GR hr2 rfl gR kR bR .nil pass0 (pa_cons (pv 0) (pa_cons pe_int (pa_cons (pv 9) (pa_cons pe_int pa_nil))))) pa_nil)) pa_nil))))
        (pss_cons (ps_setLc (i := 12) (own := [("_law_k", 11)]) (g := gName 11) (tt := tYes) (te := tCall (spRow K) [] _ (tCons (tVar 0) (tCons (tOp (rI0 fun i j => .int (i + j)) (tC (.int 40)) (tVar 11)) (tCons (tVar 9) (tCons (tC (.int 0)) tNil))))) (by rfl) scLaw.nd rfl rfl (sw_true rfl rfl rfl (by decide +kernel)) (pi_range1 rfl mr (pa_cons (pv 2) pa_nil))
          (blkOk_by (own := [("_law_k", 11)]) (N := lN) (sc := defScope sLaw) (by decide +kernel)) (fun _ _ _ _ _ => pg_name (i := 11) scLaw.nd rfl (Or.inl rfl)) (fun _ _ _ _ _ => pts_nil)
          (fun _ _ _ _ _ => pe_call GR hr2 rfl gR kR bR .nil pass0 (pa_cons (pv 0) (pa_cons (pe_op op_add pe_int (pv 11)) (pa_cons (pv 9) (pa_cons pe_int pa_nil))))))
        (pss_one (ps_ret (pe_call GU hr10 rfl gU kU bU .nil pass0 (pa_cons (pv 4) (pa_cons (pv 10) (pa_cons
          (pe_call GP hr1 rfl gP kP bP .nil pass0 (pa_cons (pv 12) (pa_cons (pe_op op_modZ (pv 3) pe_int) (pa_cons (pe_op op_fdivZ (pv 3) pe_int) pa_nil))))
          (pa_cons (pe_op op_add pe_int (pe_op op_modZ (pe_op op_fdivZ (pv 3) pe_int) pe_int)) pa_nil)))))))))) pss_nil)
      (pss_cons (ps_set (i := 13) scLaw.nd rfl (Or.inl rfl) (pe_call GA hr rfl gA kA bA .nil pass0 (pa_cons (pv 1) (pa_cons (pv 5) pa_nil))))
      (pss_cons (ps_set (i := 14) scLaw.nd rfl (Or.inl rfl) (pe_call GW hr7 rfl gW' kW bW .nil passNo (pa_cons (pv 4) (pa_cons (pv 5) pa_nil))))
      (pss_cons (ps_if (PW.pt (pw_or (pt_cmpR op_isN (pv 13) pe_non (nomark _)) (pw_or (pt_not (pt_val (pe_callB call_isi (by rfl) ms (by decide +kernel) (pa_cons (pv 14) (pa_cons (pe_bltn (v := .ty "bool") (by rfl) mb (by decide +kernel) rfl) pa_nil))))) (pw_or1 (pt_cmpR op_ne (pv 14) (pv 13) (nomark _)))))) (pss_one (ps_ret pe_bl)) pss_nil)
      (pss_cons (ps_set (i := 15) scLaw.nd rfl (Or.inl rfl) pe_bl)
      (pss_cons (ps_try_only (Wout := fun _ _ _ _ => False) rfl rfl ⟨rfl, by decide, .inl gW⟩ takes0
          (fun W pn xe tk _ => pss_one (ps_expr (by exact (pe_callS GI hr8 rfl gI kI bI (fun σ => passAt tk σ) (by exact (pa_cons (pv 4) (pa_cons (pv 5) pa_nil)))))))
          (fun a oe cls d pn _ _ => pss_one (ps_set (i := 15) scLaw.nd rfl (Or.inl rfl) pe_bl)))
      (pss_one (ps_ret (pe_cmpR op_ne (pv 15) (pv 13) (nomark _)))))))))))))))), ?_⟩
    refine ⟨_, rfl, a, ns, rfl, ha, fun H1 t p q n N N' b b' s1 et mp mq n1 n3 N8 N8' hB hb hB' hb' => ?_⟩
    have n6 : n ≤ 6 := by omega
    refine ⟨_, rfl, t, _, _, _, rfl, rfl, SqT.of et, rfl, ?_⟩
    refine ⟨_, rfl, a, ns, 6, rfl, s1.seq ha, fun H2 cl s2 => ?_⟩
    have s12 := same_tr s1 s2
    obtain ⟨r, hp1, hp2⟩ := mp.same s2
    refine ⟨_, rfl, _, rfl, t, _, _, _, rfl, rfl, SqT.of (s2 _ _ et), rfl, p, n, N, r, b, rfl, SqL.of hp1, fun k hk => SqL.of (hp2 k hk), n1, by omega, fun H3 p3 s3 np3 m3 => ?_⟩
    obtain ⟨r3, e31, e32⟩ := m3
    refine ⟨p3, n, N, r3, b, rfl, e31, e32, n1, n6, N8, fun i l hi hl => b30 (hb i l hi hl), fun H4 h1 s4 hl1 => ?_⟩
    have s24 := same_tr s3 s4
    obtain ⟨r', hq1, hq2⟩ := mq.same (same_tr s2 s24)
    refine ⟨_, rfl, _, rfl, t, _, _, _, rfl, rfl, SqT.of (s24 _ _ (s2 _ _ et)), rfl, q, n, N', r', b', rfl, SqL.of hq1, fun k hk => SqL.of (hq2 k hk), n1, by omega, fun H5 p5 s5 np5 m5 => ?_⟩
    obtain ⟨r5, e51, e52⟩ := m5
    refine ⟨p5, n, N', r5, b', rfl, e51, e52, n1, n6, N8', fun i l hi hl => b30 (hb' i l hi hl), fun H6 h2 s6 hl2 => ?_⟩
    have s46 := same_tr s5 s6
    have s26 := same_tr s24 s46
    have s16 := same_tr s12 s26
    refine ⟨_, rfl, a, ns, 5, rfl, s16.seq ha, fun H7 wc s7 => ?_⟩
    refine ⟨_, _, rfl, rfl, (show (3 : Int) ≠ 0 by decide), ?_⟩
    have s17 := same_tr s16 s7
    have s27 := same_tr s26 s7
    have hl1' := (hl1.same s46).same s7
    have hl2' := hl2.same s7
    have et7 : H7 t = some (.tup [.int n, .ref p, .ref q]) := s27 _ _ (s2 _ _ et)
    have mp7 := (mp.same s2).same s27
    have mq7 := (mq.same s2).same s27
    clear e31 e32 e51 e52 hq1 hq2 hp1 hp2 hl1 hl2 s26 s46 s24 s16 s12 s7 s6 s5 s4 s3 np3 np5 mp mq et
    refine ⟨fun σ H' => σ = [some (.ref a), some (.ref t), some (.int n), some (.int cl), some (.ref h1), some (.ref h2), some (.int (wc.fmod 3)), none, none, none, none, none, none, none, none, none] ∧ H' = H7, ?_, ?_⟩
    · refine ⟨_, rfl, rfl, _, rfl, ?_⟩
      refine eqI (fun w0 => ?_) (fun w0 => ⟨rfl, rfl⟩)
      refine ⟨_, rfl, _, _, rfl, rfl, _, rfl, ?_⟩
      by_cases k6 : (n : Int) < 6
      · rw [decide_eq_true k6]
        have n3' : n ≤ 3 := by omega
        obtain ⟨r', hq1, hq2⟩ := mq7
        refine iteT ⟨_, rfl, _, _, rfl, rfl, _, rfl, t, _, _, _, rfl, rfl, SqT.of et7, rfl, q, rfl, ⟨_, SqL.of hq1⟩, fun D hD => lc_list (xs := Rz N' r') (fun i' H' => Same H7 H' ∧ MAt H' D i' (n + 1) fun i l => if l = n then cl.fmod 2 else b' i l) ⟨same_upd hD, fun _ => 0, upd_same, fun k hk => absurd hk (Nat.not_lt_zero _)⟩ (fun _ H' _ p => SqL.of (p.1 _ _ hq1)) (fun i' v H' hv p => ?_) (fun H8 p8 => ?_)⟩
        · have hi' : i' < N' := by have := (List.getElem?_eq_some_iff.mp hv).1; rw [Rz_len] at this; exact this
          cases Option.some.inj ((Rz_get r' hi').symm.trans hv)
          obtain ⟨s8, q', e1, e2⟩ := p
          refine ⟨rfl, _, rfl, _, rfl, _, _, rfl, rfl, (show (2 : Int) ≠ 0 by decide), by show 1 ≤ sizeLine; decide, fun d hd => ?_⟩
          have s9 : Same H' (upd H' d (.lst [.int (cl.fmod 2)])) := same_upd hd
          have e9 : (upd H' d (.lst [.int (cl.fmod 2)])) d = some (.lst [.int (cl.fmod 2)]) := upd_same
          refine ⟨r' i', d, _, _, rfl, rfl, s9 _ _ (s8 _ _ (hq2 i' hi')), e9, ?_, fun l hl => ?_⟩
          · rw [Lz_len]; exact Nat.le_of_lt (small (by simp; omega))
          · have s10 : Same (upd H' d (.lst [.int (cl.fmod 2)])) (upd (upd H' d (.lst [.int (cl.fmod 2)])) l (.lst (Lz n (b' i') ++ [.int (cl.fmod 2)]))) := same_upd hl
            have s910 := same_tr s9 s10
            refine ⟨_, s910 _ _ e1, small (by rw [Rz_len]; omega), fun b z e => ?_, MAt.more (s910 _ _ e1) (fun k hk => s910 _ _ (e2 k hk)) ?_ (by omega)⟩
            · rw [upd_ne (ne_of_none e hD)]; exact s910 _ _ (s8 _ _ e)
            · rw [upd_same, Lz_succ, if_pos rfl]
              rw [Lz_congr (f := fun l => if l = n then cl.fmod 2 else b' i' l) (g := b' i') fun l hl => if_neg (by omega)]
        · rw [Rz_len] at p8
          obtain ⟨s8, rw', ew1, ew2⟩ := p8
          have c2 := fmod_cell cl 2 (by decide)
          refine ⟨D, n + 1, N', rw', _, rfl, ew1, ew2, by omega, by omega, N8', fun i l hi hl => ?_, fun H9 hw s9 hlw => ?_⟩
          · by_cases c : l = n
            · rw [if_pos c]
              have e : (10 : Int) ^ 30 = 1000000000000000000000000000000 := by decide
              rw [e]; omega
            · rw [if_neg c]; exact b30 (hb' i l hi (by omega))
          · have s79 := same_tr s8 s9
            have c4 := fmod_cell (cl.fdiv 2) 4 (by decide)
            refine ⟨_, rfl, _, rfl, Nat.zero_le _, fun l hl => ?_⟩
            have s10 : Same H9 (upd H9 l (.lst [])) := same_upd hl
            refine ⟨_, rfl, _, _, rfl, rfl, ⟨by decide, by decide +kernel⟩, _, _, rfl, rfl, (show (4 : Int) ≠ 0 by decide), ?_⟩
            refine ⟨h1, hw, .ref l, n, n + 1, N, N', b, _, _, rfl, (hl1'.same s79).same s10, hlw.same s10, .inl ⟨c4.1, c4.2, by omega⟩, true, rfl, iteT ?_⟩
            refine ⟨_, rfl, _, rfl, Nat.zero_le _, fun l2 hl2 => ?_⟩
            have s11 := same_tr s10 (same_upd (o := .lst []) hl2)
            refine ⟨_, rfl, _, _, rfl, rfl, ⟨by decide, by decide +kernel⟩, _, _, rfl, rfl, (show (4 : Int) ≠ 0 by decide), ?_⟩
            exact ⟨hw, h1, .ref l2, n + 1, n, N', N, _, b, _, rfl, hlw.same s11, (hl1'.same s79).same s11, .inl ⟨c4.1, c4.2, by omega⟩, k _⟩
      · rw [decide_eq_false k6]
        exact iteF ⟨rfl, rfl⟩
    rintro σ H7 ⟨rfl, rfl⟩
    refine ⟨_, rfl, rfl, _, rfl, ?_⟩
    refine eqI (fun w1 => ?_) (fun w1 => ?_)
    · -- a spoilt table
      refine ⟨fun σ H' => ∃ sz : Nat, 1 ≤ sz ∧ sz ≤ 4 ∧ σ = [some (.ref a), some (.ref t), some (.int n), some (.int cl), some (.ref h1), some (.ref h2), some (.int (wc.fmod 3)), none, none, some (.int sz), none, none, none, none, none, none] ∧ Same H7 H', ?_, ?_⟩
      · refine ⟨_, rfl, a, ns, 7, rfl, s17.seq ha, fun H8 c7 s8 => ?_⟩
        obtain ⟨y, hy, gy⟩ := nat_is (c := c7) (show 1 ≤ 4 by decide)
        refine ⟨_, _, rfl, rfl, (show (4 : Int) ≠ 0 by decide), _, _, rfl, rfl, ?_⟩
        refine ⟨1 + y, by omega, by omega, ?_, s8⟩
        rw [show ((1 + y : Nat) : Int) = 1 + c7.fmod 4 by have : c7.fmod 4 = (y : Int) := gy; omega]
        rfl
      rintro σ H8 ⟨sz, z1, z4, rfl, s8⟩
      have s18 := same_tr s17 s8
      refine ⟨_, rfl, _, rfl, _, rfl, a, ns, 27, sz, 0, rfl, s18.seq ha, by omega, by omega, fun H9 p9 f s9 np9 e9 hf => ?_⟩
      refine ⟨by show 1 ≤ sizeLine; decide, fun l hl => ?_⟩
      have s10 : Same H9 (upd H9 l (.lst [.ref p9])) := same_upd hl
      have e10 : (upd H9 l (.lst [.ref p9])) l = some (.lst [.ref p9]) := upd_same
      generalize upd H9 l (.lst [.ref p9]) = H10 at *
      refine ⟨l, sz, 1, fun _ => p9, fun _ => f, rfl, e10, fun i hi => s10 _ _ e9, z1, by omega, by omega, fun i l hi hl => b30 (Nat.le_trans (hf l hl) (by decide)), fun H11 h3 s11 hl3 => ?_⟩
      have s811 := same_tr s9 (same_tr s10 s11)
      have s711 := same_tr s8 s811
      refine ⟨_, rfl, n, rfl, by omega, by omega, fun D hD => lc_range (lo := 0) (n := n) (fun i H' => Same H11 H' ∧ ∃ b, MAt H' D i sz b) ⟨same_upd hD, fun _ _ => 0, ⟨fun _ => 0, upd_same, fun k hk => absurd hk (Nat.not_lt_zero _)⟩⟩ (fun i H12 hi p => ?_) (fun H12 p => ?_)⟩
      · obtain ⟨s12, b, ⟨q, e1, e2⟩⟩ := p
        refine ⟨rfl, _, rfl, _, rfl, _, _, rfl, rfl, _, rfl, ?_⟩
        refine ⟨a, ns, 40 + i, sz, 0, by rw [show ((40 + i : Nat) : Int) = 40 + (0 + (i : Int)) by omega]; rfl, (same_tr s17 (same_tr s711 s12)).seq ha, by omega, by omega, fun H13 p13 f s13 np13 e13 hf => ?_⟩
        refine ⟨_, s13 _ _ e1, small (by rw [Rz_len]; omega), fun b z e => ?_, _, MAt.snoc (s13 _ _ e1) (fun k hk => s13 _ _ (e2 k hk)) e13 z1⟩
        rw [upd_ne (ne_of_none e hD)]; exact s13 _ _ (s12 _ _ e)
      · obtain ⟨s12, R, ⟨rr, eD, eR⟩⟩ := p
        have c2 := fmod_cell (cl.fdiv 7) 2 (by decide)
        refine ⟨_, rfl, _, rfl, _, rfl, _, rfl, _, _, rfl, rfl, (show (9 : Int) ≠ 0 by decide), _, rfl, _, _, rfl, rfl, ⟨by decide, by decide +kernel⟩, ?_⟩
        refine ⟨D, n, sz, rr, R, _, _, rfl, SqL.of eD, fun k hk => SqL.of (eR k hk), n1, by omega, z1, by omega, fun H13 v s13 nf => ?_⟩
        refine ⟨_, rfl, _, _, rfl, rfl, ⟨by decide, by decide +kernel⟩, _, _, rfl, rfl, (show (2 : Int) ≠ 0 by decide), _, _, rfl, rfl, ?_⟩
        exact ⟨h1, h3, v, n, sz, N, 1, b, _, _, rfl, hl1'.same (same_tr s711 (same_tr s12 s13)), hl3.same (same_tr s12 s13), .inr ⟨by omega, nf⟩, k _⟩
    · -- within
      obtain ⟨B, M, hB⟩ := hB
      obtain ⟨B', M', hB'⟩ := hB'
      have b100 := hb100 hB
      refine ⟨_, rfl, _, rfl, t, h2, p, q, n, N, N', b, b', B', M', rfl, et7, mp7, mq7, hl2', hB', b100, N8, fun H8 v s8 hv => ?_⟩
      refine ⟨_, rfl, _, rfl, h1, h2, n, n, N, N', b, b', rfl, hl1'.same s8, hl2'.same s8, fun e => absurd rfl e, fun _ => ⟨⟨B', M', hB'⟩, b100, fun H9 c s9 hc => ?_⟩⟩
      have cv : c = v := by
        cases c <;> cases v <;> simp_all
      subst cv
      have s89 := same_tr s8 s9
      refine ⟨_, rfl, rfl, _, rfl, ?_⟩
      rw [decide_eq_false (by intro e; cases e)]
      refine iteF ⟨_, rfl, _, _, _, _, _, rfl, .ty _, .base (.bl c), kit_ty (r := true) (by decide +kernel), _, rfl, iteF ?_⟩
      refine ⟨_, rfl, _, rfl, rfl, _, rfl, ?_⟩
      rw [decide_eq_true rfl]
      refine iteF ?_
      refine ⟨_, rfl, _, rfl, h1, h2, n, n, N, N', b, b', rfl, hl1'.same s89, hl2'.same s89, fun e => absurd rfl e, fun _ => ⟨⟨B, M, hB⟩, ⟨B', M', hB'⟩, b100, fun H10 s10 na => ⟨true, ww, fun _ a _ => ?_, fun q => nomatch q⟩, fun H10 u s10 al => ?_⟩⟩
      · obtain rfl : c = false := by cases c with
          | true => exact absurd (hc.mp rfl) na
          | false => rfl
        exact ⟨_, rfl, _, rfl, rfl, k _⟩
      · obtain rfl : c = true := hc.mpr al
        exact ⟨_, rfl, _, rfl, rfl, k _⟩
end
end Cw

set_option maxRecDepth 100000
set_option maxHeartbeats 8000000
namespace Cw
open PySem L2
/-- where a def of the top stands -/
def Dn (K : PySem.W.Frag) (x : Str) (st : Stmt) : Prop := ∃ (f : Addr) (oc kV dc pm cd ct : Value) (od an : Option Addr) (sl : Array (Option Value)), PySem.W.nsIn K mainGlobals x = some (some (.ref f)) ∧
  K.lookup f = some ⟨oc, od, .func (PySem.W.fnOf x x (defArgs st) (defBody st) (defScope st) .none kV dc pm an cd ct), sl⟩ ∧ PySem.W.codeIn K cd x = true ∧ PySem.W.keepIn K (.ref f) = true
/-- where a method of the class at C stands -/
def Dm (K : PySem.W.Frag) (C : Addr) (x q : Str) (st : Stmt) : Prop := ∃ (f : Addr) (oc kV dc pm cd ct : Value) (od an : Option Addr) (sl : Array (Option Value)), PySem.W.findIn K (.ref C) x = some (some (.ref f)) ∧ PySem.W.isFn K (.ref f) = true ∧
  K.lookup f = some ⟨oc, od, .func (PySem.W.fnOf x q (defArgs st) (defBody st) (defScope st) .none kV dc pm an cd ct), sl⟩ ∧ PySem.W.codeIn K cd q = true ∧ PySem.W.keepIn K (.ref f) = true
theorem Dn.mk {K : PySem.W.Frag} {x : Str} {st : Stmt} {f : Addr} {oc kV dc pm cd ct : Value} {od an : Option Addr} {sl : Array (Option Value)} (a : PySem.W.nsIn K mainGlobals x = some (some (.ref f))) (b : K.lookup f = some ⟨oc, od, .func (PySem.W.fnOf x x (defArgs st) (defBody st) (defScope st) .none kV dc pm an cd ct), sl⟩) (c : PySem.W.codeIn K cd x = true) (d : PySem.W.keepIn K (.ref f) = true) : Dn K x st := ⟨f, oc, kV, dc, pm, cd, ct, od, an, sl, a, b, c, d⟩
theorem Dm.mk {K : PySem.W.Frag} {C : Addr} {x q : Str} {st : Stmt} {f : Addr} {oc kV dc pm cd ct : Value} {od an : Option Addr} {sl : Array (Option Value)} (a : PySem.W.findIn K (.ref C) x = some (some (.ref f))) (i : PySem.W.isFn K (.ref f) = true) (b : K.lookup f = some ⟨oc, od, .func (PySem.W.fnOf x q (defArgs st) (defBody st) (defScope st) .none kV dc pm an cd ct), sl⟩) (c : PySem.W.codeIn K cd q = true) (d : PySem.W.keepIn K (.ref f) = true) : Dm K C x q st := ⟨f, oc, kV, dc, pm, cd, ct, od, an, sl, a, i, b, c, d⟩
/-- an error's class, and what it stands over -/
structure En (K : PySem.W.Frag) (x : Str) (U : Addr) : Prop where
  n : PySem.W.nsIn K mainGlobals x = some (some (.ref U))
  k : PySem.W.keepIn K (.ref U) = true
  b : PySem.W.subIn K (.ref U) (.type "BaseException") = some true
  t : PySem.W.typeIn K (.ref U) = some (.type "type")
  d : PySem.W.hasDictIn K U = true
  s : PySem.W.subIn K (.ref U) (.ref U) = some true
theorem kit_val {K : PySem.W.Frag} {U : Addr} (h : PySem.W.subIn K (.ref U) (.type "ValueError") = some true) : PySem.W.kitOne K (.ref U) (.type "ValueError") = some true := by
  have m : PySem.W.kitMeta "ValueError" = true := by decide +kernel
  show (if (Value.ref U == Value.type "ValueError") = true then some true else PySem.W.kitCls K (.ref U) (.type "ValueError")) = some true
  rw [if_neg (by intro e; cases beq_iff_eq.mp e)]
  show (if PySem.W.kitMeta "ValueError" = true then PySem.W.subIn K (.ref U) (.type "ValueError") else none) = some true
  rw [if_pos m]
  exact h
theorem all_mk {l : PySem.W.OpenLaw} {w : World} {K : PySem.W.Frag} {h : Heap} {mg : Str → Option Value} {fa C U W HE : Addr} {tk_KINDS tk_BILLS tk_LIMIT : Tok} (X : K.In h) (G : h.Ns mainGlobals mg) (hfa : mg "law" = some (.ref fa))
    (d0 : Dn K "noughts" (top 7))
    (d1 : Dn K "single" (top 8))
    (d2 : Dn K "taken" (top 9))
    (d3 : Dn K "turned" (top 10))
    (d4 : Dn K "weight" (top 11))
    (d5 : Dn K "head_of" (top 13))
    (d6 : Dn K "is_nought" (top 14))
    (d7 : Dn K "mixed" (top 12))
    (d8 : Dn K "is_whole" (top 19))
    (d9 : Dn K "is_row" (top 20))
    (d10 : Dn K "is_small" (top 21))
    (d11 : Dn K "told" (top 23))
    (d12 : Dn K "hall_of" (top 22))
    (d13 : Dn K "checked" (top 24))
    (d14 : Dn K "apart" (top 25))
    (d15 : Dn K "least_at" (top 27))
    (d16 : Dn K "less" (top 28))
    (d17 : Dn K "cleared" (top 29))
    (d18 : Dn K "laid" (top 30))
    (d19 : Dn K "by_rows" (top 31))
    (d20 : Dn K "rows_of" (top 32))
    (d21 : Dn K "stair" (top 33))
    (d22 : Dn K "uses_for" (top 45))
    (d23 : Dn K "plan" (top 46))
    (d24 : Dn K "lies_in" (top 40))
    (d25 : Dn K "swapped" (top 49))
    (d26 : Dn K "eased" (top 50))
    (d27 : Dn K "least_from" (top 51))
    (d28 : Dn K "odd_row" (top 53))
    (d29 : Dn K "product" (top 35))
    (d30 : Dn K "heads" (top 42))
    (d31 : Dn K "clear_cross" (top 52))
    (d32 : Dn K "settle" (top 54))
    (d33 : Dn K "diagonal" (top 55))
    (d34 : Dn K "grid_of" (top 57))
    (d35 : Dn K "parts_in" (top 58))
    (d36 : Dn K "parts" (top 59))
    (d37 : Dn K "scales" (top 61))
    (d38 : Dn K "even" (top 62))
    (d39 : Dn K "denial" (top 63))
    (d40 : Dn K "same_kinds" (top 37))
    (d41 : Dn K "joined" (top 38))
    (d42 : Dn K "met" (top 39))
    (d43 : Dn K "within" (top 41))
    (d44 : Dn K "index_in" (top 43))
    (d45 : Dn K "fitting" (top 66))
    (d46 : Dn K "sound" (top 67))
    (d47 : Dn K "pulled" (top 68))
    (d48 : Dn K "_law_cell_at" (top 70))
    (d49 : Dn K "_law_number" (top 73))
    (d50 : Dn K "_law_row" (top 74))
    (d51 : Dn K "_law_plus" (top 76))
    (d52 : Dn K "_law_heavy" (top 77))
    (d53 : Dn K "_law_whole" (top 71))
    (d54 : Dn K "_law_is_row" (top 72))
    (d55 : Dn K "_law_sum" (top 75))
    (d56 : Dn K "_law_leads" (top 78))
    (d57 : Dn K "_law_denies" (top 79))
    (d58 : Dn K "_law_copied" (top 81))
    (d59 : Dn K "_law_same" (top 82))
    (d60 : Dn K "_law_two" (top 80))
    (d61 : Dn K "_law_all_in" (top 86))
    (d62 : Dn K "_law_spoilt" (top 85))
    (d63 : Dn K "_law_asked" (top 83))
    (d64 : Dn K "_law_unlike" (top 84))
    (d65 : Dn K "law" (top 87))
    (e0 : Dm K C "swap_rows" "Grid.swap_rows" (inClass (top 48) 1))
    (e1 : Dm K C "take_row" "Grid.take_row" (inClass (top 48) 3))
    (e2 : Dm K C "turn_row" "Grid.turn_row" (inClass (top 48) 5))
    (e3 : Dm K C "swap_places" "Grid.swap_places" (inClass (top 48) 2))
    (e4 : Dm K C "take_place" "Grid.take_place" (inClass (top 48) 4))
    (e5 : Dm K C "__init__" "Grid.__init__" (inClass (top 48) 0))
    (aC : PySem.W.nsIn K mainGlobals "Grid" = some (some (.ref C)))
    (pg : PySem.W.plainGet K C Str.empty = true) (hd : PySem.W.hasDictIn K C = true) (po : PySem.W.plainOver K C = true) (sa : PySem.W.findIn K (.ref C) "__setattr__" = some (some (.builtin "object.__setattr__"))) (mk : PySem.W.makesIn K C = true) (kc : PySem.W.keepIn K (.ref C) = true)
    (n_rows : PySem.W.findIn K (.ref C) "rows" = some none)
    (n_kinds : PySem.W.findIn K (.ref C) "kinds" = some none)
    (n_right : PySem.W.findIn K (.ref C) "right" = some none)
    (n_behind : PySem.W.findIn K (.ref C) "behind" = some none)
    (nU : En K "Unlike" U) (nW : En K "NotWithin" W) (nH : En K "HallError" HE) (sUH : PySem.W.subIn K (.ref U) (.ref HE) = some true) (sUV : PySem.W.subIn K (.ref U) (.type "ValueError") = some true)
    (xU : PySem.W.excIn K U [.type "ValueError", .type "Exception", .type "BaseException", .type "object"] "ValueError.__new__" = true) (xW : PySem.W.excIn K W [.type "ValueError", .type "Exception", .type "BaseException", .type "object"] "ValueError.__new__" = true)
    (ec : ExcC K U)
    (j_KINDS : PySem.W.nsIn K mainGlobals "KINDS" = some (some (.int 6 tk_KINDS)))
    (j_BILLS : PySem.W.nsIn K mainGlobals "BILLS" = some (some (.int 8 tk_BILLS)))
    (j_LIMIT : PySem.W.nsIn K mainGlobals "LIMIT" = some (some (.int 1000000000000000000000000000000 tk_LIMIT)))
    (y_range : PySem.W.nsIn K mainGlobals "range" = some none)
    (y_int : PySem.W.nsIn K mainGlobals "int" = some none)
    (y_zip : PySem.W.nsIn K mainGlobals "zip" = some none)
    (y_len : PySem.W.nsIn K mainGlobals "len" = some none)
    (y_isinstance : PySem.W.nsIn K mainGlobals "isinstance" = some none)
    (y_bool : PySem.W.nsIn K mainGlobals "bool" = some none)
    (y_list : PySem.W.nsIn K mainGlobals "list" = some none)
    (y_tuple : PySem.W.nsIn K mainGlobals "tuple" = some none)
    (y_abs : PySem.W.nsIn K mainGlobals "abs" = some none)
    (y_ValueError : PySem.W.nsIn K mainGlobals "ValueError" = some none) :
    ∃ fd : FuncData, (∀ (s : Shared) (v : Value), BindsTo s fd ⟨[v], []⟩ [("_law_script", v)]) ∧ ∀ base : Heap, K.In base → base.Ns mainGlobals mg → FnOk l.prog w K mg base CX0 13 fa fd ["_law_script"] (spLaw K) := by
  have z_range := PySem.W.mg_none_of X G y_range
  have z_int := PySem.W.mg_none_of X G y_int
  have z_zip := PySem.W.mg_none_of X G y_zip
  have z_len := PySem.W.mg_none_of X G y_len
  have z_isinstance := PySem.W.mg_none_of X G y_isinstance
  have z_bool := PySem.W.mg_none_of X G y_bool
  have z_list := PySem.W.mg_none_of X G y_list
  have z_tuple := PySem.W.mg_none_of X G y_tuple
  have z_abs := PySem.W.mg_none_of X G y_abs
  have z_ValueError := PySem.W.mg_none_of X G y_ValueError
  have i_KINDS := PySem.W.mg_of X G j_KINDS
  have i_BILLS := PySem.W.mg_of X G j_BILLS
  have i_LIMIT := PySem.W.mg_of X G j_LIMIT
  have gG := PySem.W.mg_of X G aC
  have T : Txt K mg C := ⟨⟨pg, hd, po, sa⟩, n_rows, n_kinds, n_right, n_behind⟩
  have tU : ExT K mg "Unlike" U := ⟨PySem.W.mg_of X G nU.n, xU, nU.k, nU.b, nU.t⟩
  have tW : ExT K mg "NotWithin" W := ⟨PySem.W.mg_of X G nW.n, xW, nW.k, nW.b, nW.t⟩
  have eWW := PySem.W.exm_ref nW.b nW.d nW.t nW.s
  have tE : ErT K mg U HE := ⟨tU.g, PySem.W.mg_of X G nH.n, PySem.W.exm_ref nU.b nU.d nU.t nU.s, PySem.W.exm_ref nH.b nH.d nH.t sUH, kit_val sUV, ec⟩
  obtain ⟨f_noughts, oc_noughts, kV_noughts, dc_noughts, pm_noughts, cd_noughts, ct_noughts, od_noughts, an_noughts, sl_noughts, n_noughts, l_noughts, q_noughts, k_noughts⟩ := d0
  have F_noughts := fun_mk (st := top 7) l_noughts q_noughts k_noughts
  have g_noughts := PySem.W.mg_of X G n_noughts
  have b_noughts := F_noughts.binds (ps := ["size"]) fun _ _ _ _ _ _ us hl => match us, hl with | [_], _ => rfl
  obtain ⟨f_single, oc_single, kV_single, dc_single, pm_single, cd_single, ct_single, od_single, an_single, sl_single, n_single, l_single, q_single, k_single⟩ := d1
  have F_single := fun_mk (st := top 8) l_single q_single k_single
  have g_single := PySem.W.mg_of X G n_single
  have b_single := F_single.binds (ps := ["size", "place"]) fun _ _ _ _ _ _ us hl => match us, hl with | [_, _], _ => rfl
  obtain ⟨f_taken, oc_taken, kV_taken, dc_taken, pm_taken, cd_taken, ct_taken, od_taken, an_taken, sl_taken, n_taken, l_taken, q_taken, k_taken⟩ := d2
  have F_taken := fun_mk (st := top 9) l_taken q_taken k_taken
  have g_taken := PySem.W.mg_of X G n_taken
  have b_taken := F_taken.binds (ps := ["row", "other", "times"]) fun _ _ _ _ _ _ us hl => match us, hl with | [_, _, _], _ => rfl
  obtain ⟨f_turned, oc_turned, kV_turned, dc_turned, pm_turned, cd_turned, ct_turned, od_turned, an_turned, sl_turned, n_turned, l_turned, q_turned, k_turned⟩ := d3
  have F_turned := fun_mk (st := top 10) l_turned q_turned k_turned
  have g_turned := PySem.W.mg_of X G n_turned
  have b_turned := F_turned.binds (ps := ["row"]) fun _ _ _ _ _ _ us hl => match us, hl with | [_], _ => rfl
  obtain ⟨f_weight, oc_weight, kV_weight, dc_weight, pm_weight, cd_weight, ct_weight, od_weight, an_weight, sl_weight, n_weight, l_weight, q_weight, k_weight⟩ := d4
  have F_weight := fun_mk (st := top 11) l_weight q_weight k_weight
  have g_weight := PySem.W.mg_of X G n_weight
  have b_weight := F_weight.binds (ps := ["weights", "row"]) fun _ _ _ _ _ _ us hl => match us, hl with | [_, _], _ => rfl
  obtain ⟨f_head_of, oc_head_of, kV_head_of, dc_head_of, pm_head_of, cd_head_of, ct_head_of, od_head_of, an_head_of, sl_head_of, n_head_of, l_head_of, q_head_of, k_head_of⟩ := d5
  have F_head_of := fun_mk (st := top 13) l_head_of q_head_of k_head_of
  have g_head_of := PySem.W.mg_of X G n_head_of
  have b_head_of := F_head_of.binds (ps := ["row"]) fun _ _ _ _ _ _ us hl => match us, hl with | [_], _ => rfl
  obtain ⟨f_is_nought, oc_is_nought, kV_is_nought, dc_is_nought, pm_is_nought, cd_is_nought, ct_is_nought, od_is_nought, an_is_nought, sl_is_nought, n_is_nought, l_is_nought, q_is_nought, k_is_nought⟩ := d6
  have F_is_nought := fun_mk (st := top 14) l_is_nought q_is_nought k_is_nought
  have g_is_nought := PySem.W.mg_of X G n_is_nought
  have b_is_nought := F_is_nought.binds (ps := ["row"]) fun _ _ _ _ _ _ us hl => match us, hl with | [_], _ => rfl
  obtain ⟨f_mixed, oc_mixed, kV_mixed, dc_mixed, pm_mixed, cd_mixed, ct_mixed, od_mixed, an_mixed, sl_mixed, n_mixed, l_mixed, q_mixed, k_mixed⟩ := d7
  have F_mixed := fun_mk (st := top 12) l_mixed q_mixed k_mixed
  have g_mixed := PySem.W.mg_of X G n_mixed
  have b_mixed := F_mixed.binds (ps := ["size", "rows", "times"]) fun _ _ _ _ _ _ us hl => match us, hl with | [_, _, _], _ => rfl
  obtain ⟨f_is_whole, oc_is_whole, kV_is_whole, dc_is_whole, pm_is_whole, cd_is_whole, ct_is_whole, od_is_whole, an_is_whole, sl_is_whole, n_is_whole, l_is_whole, q_is_whole, k_is_whole⟩ := d8
  have F_is_whole := fun_mk (st := top 19) l_is_whole q_is_whole k_is_whole
  have g_is_whole := PySem.W.mg_of X G n_is_whole
  have b_is_whole := F_is_whole.binds (ps := ["thing"]) fun _ _ _ _ _ _ us hl => match us, hl with | [_], _ => rfl
  obtain ⟨f_is_row, oc_is_row, kV_is_row, dc_is_row, pm_is_row, cd_is_row, ct_is_row, od_is_row, an_is_row, sl_is_row, n_is_row, l_is_row, q_is_row, k_is_row⟩ := d9
  have F_is_row := fun_mk (st := top 20) l_is_row q_is_row k_is_row
  have g_is_row := PySem.W.mg_of X G n_is_row
  have b_is_row := F_is_row.binds (ps := ["size", "thing"]) fun _ _ _ _ _ _ us hl => match us, hl with | [_, _], _ => rfl
  obtain ⟨f_is_small, oc_is_small, kV_is_small, dc_is_small, pm_is_small, cd_is_small, ct_is_small, od_is_small, an_is_small, sl_is_small, n_is_small, l_is_small, q_is_small, k_is_small⟩ := d10
  have F_is_small := fun_mk (st := top 21) l_is_small q_is_small k_is_small
  have g_is_small := PySem.W.mg_of X G n_is_small
  have b_is_small := F_is_small.binds (ps := ["row"]) fun _ _ _ _ _ _ us hl => match us, hl with | [_], _ => rfl
  obtain ⟨f_told, oc_told, kV_told, dc_told, pm_told, cd_told, ct_told, od_told, an_told, sl_told, n_told, l_told, q_told, k_told⟩ := d11
  have F_told := fun_mk (st := top 23) l_told q_told k_told
  have g_told := PySem.W.mg_of X G n_told
  have b_told := F_told.binds (ps := ["kinds", "rows"]) fun _ _ _ _ _ _ us hl => match us, hl with | [_, _], _ => rfl
  obtain ⟨f_hall_of, oc_hall_of, kV_hall_of, dc_hall_of, pm_hall_of, cd_hall_of, ct_hall_of, od_hall_of, an_hall_of, sl_hall_of, n_hall_of, l_hall_of, q_hall_of, k_hall_of⟩ := d12
  have F_hall_of := fun_mk (st := top 22) l_hall_of q_hall_of k_hall_of
  have g_hall_of := PySem.W.mg_of X G n_hall_of
  have b_hall_of := F_hall_of.binds (ps := ["kinds", "bills"]) fun _ _ _ _ _ _ us hl => match us, hl with | [_, _], _ => rfl
  obtain ⟨f_checked, oc_checked, kV_checked, dc_checked, pm_checked, cd_checked, ct_checked, od_checked, an_checked, sl_checked, n_checked, l_checked, q_checked, k_checked⟩ := d13
  have F_checked := fun_mk (st := top 24) l_checked q_checked k_checked
  have g_checked := PySem.W.mg_of X G n_checked
  have b_checked := F_checked.binds (ps := ["hall", "basket"]) fun _ _ _ _ _ _ us hl => match us, hl with | [_, _], _ => rfl
  obtain ⟨f_apart, oc_apart, kV_apart, dc_apart, pm_apart, cd_apart, ct_apart, od_apart, an_apart, sl_apart, n_apart, l_apart, q_apart, k_apart⟩ := d14
  have F_apart := fun_mk (st := top 25) l_apart q_apart k_apart
  have g_apart := PySem.W.mg_of X G n_apart
  have b_apart := F_apart.binds (ps := ["hall", "one", "other"]) fun _ _ _ _ _ _ us hl => match us, hl with | [_, _, _], _ => rfl
  obtain ⟨f_least_at, oc_least_at, kV_least_at, dc_least_at, pm_least_at, cd_least_at, ct_least_at, od_least_at, an_least_at, sl_least_at, n_least_at, l_least_at, q_least_at, k_least_at⟩ := d15
  have F_least_at := fun_mk (st := top 27) l_least_at q_least_at k_least_at
  have g_least_at := PySem.W.mg_of X G n_least_at
  have b_least_at := F_least_at.binds (ps := ["work", "place"]) fun _ _ _ _ _ _ us hl => match us, hl with | [_, _], _ => rfl
  obtain ⟨f_less, oc_less, kV_less, dc_less, pm_less, cd_less, ct_less, od_less, an_less, sl_less, n_less, l_less, q_less, k_less⟩ := d16
  have F_less := fun_mk (st := top 28) l_less q_less k_less
  have g_less := PySem.W.mg_of X G n_less
  have b_less := F_less.binds (ps := ["pair", "head", "times"]) fun _ _ _ _ _ _ us hl => match us, hl with | [_, _, _], _ => rfl
  obtain ⟨f_cleared, oc_cleared, kV_cleared, dc_cleared, pm_cleared, cd_cleared, ct_cleared, od_cleared, an_cleared, sl_cleared, n_cleared, l_cleared, q_cleared, k_cleared⟩ := d17
  have F_cleared := fun_mk (st := top 29) l_cleared q_cleared k_cleared
  have g_cleared := PySem.W.mg_of X G n_cleared
  have b_cleared := F_cleared.binds (ps := ["work", "place"]) fun _ _ _ _ _ _ us hl => match us, hl with | [_, _], _ => rfl
  obtain ⟨f_laid, oc_laid, kV_laid, dc_laid, pm_laid, cd_laid, ct_laid, od_laid, an_laid, sl_laid, n_laid, l_laid, q_laid, k_laid⟩ := d18
  have F_laid := fun_mk (st := top 30) l_laid q_laid k_laid
  have g_laid := PySem.W.mg_of X G n_laid
  have b_laid := F_laid.binds (ps := ["kinds", "rows"]) fun _ _ _ _ _ _ us hl => match us, hl with | [_, _], _ => rfl
  obtain ⟨f_by_rows, oc_by_rows, kV_by_rows, dc_by_rows, pm_by_rows, cd_by_rows, ct_by_rows, od_by_rows, an_by_rows, sl_by_rows, n_by_rows, l_by_rows, q_by_rows, k_by_rows⟩ := d19
  have F_by_rows := fun_mk (st := top 31) l_by_rows q_by_rows k_by_rows
  have g_by_rows := PySem.W.mg_of X G n_by_rows
  have b_by_rows := F_by_rows.binds (ps := ["rows", "basket"]) fun _ _ _ _ _ _ us hl => match us, hl with | [_, _], _ => rfl
  obtain ⟨f_rows_of, oc_rows_of, kV_rows_of, dc_rows_of, pm_rows_of, cd_rows_of, ct_rows_of, od_rows_of, an_rows_of, sl_rows_of, n_rows_of, l_rows_of, q_rows_of, k_rows_of⟩ := d20
  have F_rows_of := fun_mk (st := top 32) l_rows_of q_rows_of k_rows_of
  have g_rows_of := PySem.W.mg_of X G n_rows_of
  have b_rows_of := F_rows_of.binds (ps := ["kinds", "rows"]) fun _ _ _ _ _ _ us hl => match us, hl with | [_, _], _ => rfl
  obtain ⟨f_stair, oc_stair, kV_stair, dc_stair, pm_stair, cd_stair, ct_stair, od_stair, an_stair, sl_stair, n_stair, l_stair, q_stair, k_stair⟩ := d21
  have F_stair := fun_mk (st := top 33) l_stair q_stair k_stair
  have g_stair := PySem.W.mg_of X G n_stair
  have b_stair := F_stair.binds (ps := ["hall"]) fun _ _ _ _ _ _ us hl => match us, hl with | [_], _ => rfl
  obtain ⟨f_uses_for, oc_uses_for, kV_uses_for, dc_uses_for, pm_uses_for, cd_uses_for, ct_uses_for, od_uses_for, an_uses_for, sl_uses_for, n_uses_for, l_uses_for, q_uses_for, k_uses_for⟩ := d22
  have F_uses_for := fun_mk (st := top 45) l_uses_for q_uses_for k_uses_for
  have g_uses_for := PySem.W.mg_of X G n_uses_for
  have b_uses_for := F_uses_for.binds (ps := ["kinds", "rows", "basket"]) fun _ _ _ _ _ _ us hl => match us, hl with | [_, _, _], _ => rfl
  obtain ⟨f_plan, oc_plan, kV_plan, dc_plan, pm_plan, cd_plan, ct_plan, od_plan, an_plan, sl_plan, n_plan, l_plan, q_plan, k_plan⟩ := d23
  have F_plan := fun_mk (st := top 46) l_plan q_plan k_plan
  have g_plan := PySem.W.mg_of X G n_plan
  have b_plan := F_plan.binds (ps := ["hall", "one", "other"]) fun _ _ _ _ _ _ us hl => match us, hl with | [_, _, _], _ => rfl
  obtain ⟨f_lies_in, oc_lies_in, kV_lies_in, dc_lies_in, pm_lies_in, cd_lies_in, ct_lies_in, od_lies_in, an_lies_in, sl_lies_in, n_lies_in, l_lies_in, q_lies_in, k_lies_in⟩ := d24
  have F_lies_in := fun_mk (st := top 40) l_lies_in q_lies_in k_lies_in
  have g_lies_in := PySem.W.mg_of X G n_lies_in
  have b_lies_in := F_lies_in.binds (ps := ["rows", "stairs"]) fun _ _ _ _ _ _ us hl => match us, hl with | [_, _], _ => rfl
  obtain ⟨f_swapped, oc_swapped, kV_swapped, dc_swapped, pm_swapped, cd_swapped, ct_swapped, od_swapped, an_swapped, sl_swapped, n_swapped, l_swapped, q_swapped, k_swapped⟩ := d25
  have F_swapped := fun_mk (st := top 49) l_swapped q_swapped k_swapped
  have g_swapped := PySem.W.mg_of X G n_swapped
  have b_swapped := F_swapped.binds (ps := ["row", "one", "other"]) fun _ _ _ _ _ _ us hl => match us, hl with | [_, _, _], _ => rfl
  obtain ⟨f_eased, oc_eased, kV_eased, dc_eased, pm_eased, cd_eased, ct_eased, od_eased, an_eased, sl_eased, n_eased, l_eased, q_eased, k_eased⟩ := d26
  have F_eased := fun_mk (st := top 50) l_eased q_eased k_eased
  have g_eased := PySem.W.mg_of X G n_eased
  have b_eased := F_eased.binds (ps := ["row", "place", "other", "times"]) fun _ _ _ _ _ _ us hl => match us, hl with | [_, _, _, _], _ => rfl
  obtain ⟨f_least_from, oc_least_from, kV_least_from, dc_least_from, pm_least_from, cd_least_from, ct_least_from, od_least_from, an_least_from, sl_least_from, n_least_from, l_least_from, q_least_from, k_least_from⟩ := d27
  have F_least_from := fun_mk (st := top 51) l_least_from q_least_from k_least_from
  have g_least_from := PySem.W.mg_of X G n_least_from
  have b_least_from := F_least_from.binds (ps := ["grid", "step"]) fun _ _ _ _ _ _ us hl => match us, hl with | [_, _], _ => rfl
  obtain ⟨f_odd_row, oc_odd_row, kV_odd_row, dc_odd_row, pm_odd_row, cd_odd_row, ct_odd_row, od_odd_row, an_odd_row, sl_odd_row, n_odd_row, l_odd_row, q_odd_row, k_odd_row⟩ := d28
  have F_odd_row := fun_mk (st := top 53) l_odd_row q_odd_row k_odd_row
  have g_odd_row := PySem.W.mg_of X G n_odd_row
  have b_odd_row := F_odd_row.binds (ps := ["grid", "step"]) fun _ _ _ _ _ _ us hl => match us, hl with | [_, _], _ => rfl
  obtain ⟨f_product, oc_product, kV_product, dc_product, pm_product, cd_product, ct_product, od_product, an_product, sl_product, n_product, l_product, q_product, k_product⟩ := d29
  have F_product := fun_mk (st := top 35) l_product q_product k_product
  have g_product := PySem.W.mg_of X G n_product
  have b_product := F_product.binds (ps := ["numbers"]) fun _ _ _ _ _ _ us hl => match us, hl with | [_], _ => rfl
  obtain ⟨f_heads, oc_heads, kV_heads, dc_heads, pm_heads, cd_heads, ct_heads, od_heads, an_heads, sl_heads, n_heads, l_heads, q_heads, k_heads⟩ := d30
  have F_heads := fun_mk (st := top 42) l_heads q_heads k_heads
  have g_heads := PySem.W.mg_of X G n_heads
  have b_heads := F_heads.binds (ps := ["rows"]) fun _ _ _ _ _ _ us hl => match us, hl with | [_], _ => rfl
  obtain ⟨f_clear_cross, oc_clear_cross, kV_clear_cross, dc_clear_cross, pm_clear_cross, cd_clear_cross, ct_clear_cross, od_clear_cross, an_clear_cross, sl_clear_cross, n_clear_cross, l_clear_cross, q_clear_cross, k_clear_cross⟩ := d31
  have F_clear_cross := fun_mk (st := top 52) l_clear_cross q_clear_cross k_clear_cross
  have g_clear_cross := PySem.W.mg_of X G n_clear_cross
  have b_clear_cross := F_clear_cross.binds (ps := ["grid", "step"]) fun _ _ _ _ _ _ us hl => match us, hl with | [_, _], _ => rfl
  obtain ⟨f_settle, oc_settle, kV_settle, dc_settle, pm_settle, cd_settle, ct_settle, od_settle, an_settle, sl_settle, n_settle, l_settle, q_settle, k_settle⟩ := d32
  have F_settle := fun_mk (st := top 54) l_settle q_settle k_settle
  have g_settle := PySem.W.mg_of X G n_settle
  have b_settle := F_settle.binds (ps := ["grid", "step"]) fun _ _ _ _ _ _ us hl => match us, hl with | [_, _], _ => rfl
  obtain ⟨f_diagonal, oc_diagonal, kV_diagonal, dc_diagonal, pm_diagonal, cd_diagonal, ct_diagonal, od_diagonal, an_diagonal, sl_diagonal, n_diagonal, l_diagonal, q_diagonal, k_diagonal⟩ := d33
  have F_diagonal := fun_mk (st := top 55) l_diagonal q_diagonal k_diagonal
  have g_diagonal := PySem.W.mg_of X G n_diagonal
  have b_diagonal := F_diagonal.binds (ps := ["kinds", "rows"]) fun _ _ _ _ _ _ us hl => match us, hl with | [_, _], _ => rfl
  obtain ⟨f_grid_of, oc_grid_of, kV_grid_of, dc_grid_of, pm_grid_of, cd_grid_of, ct_grid_of, od_grid_of, an_grid_of, sl_grid_of, n_grid_of, l_grid_of, q_grid_of, k_grid_of⟩ := d34
  have F_grid_of := fun_mk (st := top 57) l_grid_of q_grid_of k_grid_of
  have g_grid_of := PySem.W.mg_of X G n_grid_of
  have b_grid_of := F_grid_of.binds (ps := ["hall"]) fun _ _ _ _ _ _ us hl => match us, hl with | [_], _ => rfl
  obtain ⟨f_parts_in, oc_parts_in, kV_parts_in, dc_parts_in, pm_parts_in, cd_parts_in, ct_parts_in, od_parts_in, an_parts_in, sl_parts_in, n_parts_in, l_parts_in, q_parts_in, k_parts_in⟩ := d35
  have F_parts_in := fun_mk (st := top 58) l_parts_in q_parts_in k_parts_in
  have g_parts_in := PySem.W.mg_of X G n_parts_in
  have b_parts_in := F_parts_in.binds (ps := ["grid"]) fun _ _ _ _ _ _ us hl => match us, hl with | [_], _ => rfl
  obtain ⟨f_parts, oc_parts, kV_parts, dc_parts, pm_parts, cd_parts, ct_parts, od_parts, an_parts, sl_parts, n_parts, l_parts, q_parts, k_parts⟩ := d36
  have F_parts := fun_mk (st := top 59) l_parts q_parts k_parts
  have g_parts := PySem.W.mg_of X G n_parts
  have b_parts := F_parts.binds (ps := ["hall"]) fun _ _ _ _ _ _ us hl => match us, hl with | [_], _ => rfl
  obtain ⟨f_scales, oc_scales, kV_scales, dc_scales, pm_scales, cd_scales, ct_scales, od_scales, an_scales, sl_scales, n_scales, l_scales, q_scales, k_scales⟩ := d37
  have F_scales := fun_mk (st := top 61) l_scales q_scales k_scales
  have g_scales := PySem.W.mg_of X G n_scales
  have b_scales := F_scales.binds (ps := ["hall"]) fun _ _ _ _ _ _ us hl => match us, hl with | [_], _ => rfl
  obtain ⟨f_even, oc_even, kV_even, dc_even, pm_even, cd_even, ct_even, od_even, an_even, sl_even, n_even, l_even, q_even, k_even⟩ := d38
  have F_even := fun_mk (st := top 62) l_even q_even k_even
  have g_even := PySem.W.mg_of X G n_even
  have b_even := F_even.binds (ps := ["one", "other", "scale"]) fun _ _ _ _ _ _ us hl => match us, hl with | [_, _, _], _ => rfl
  obtain ⟨f_denial, oc_denial, kV_denial, dc_denial, pm_denial, cd_denial, ct_denial, od_denial, an_denial, sl_denial, n_denial, l_denial, q_denial, k_denial⟩ := d39
  have F_denial := fun_mk (st := top 63) l_denial q_denial k_denial
  have g_denial := PySem.W.mg_of X G n_denial
  have b_denial := F_denial.binds (ps := ["hall", "one", "other"]) fun _ _ _ _ _ _ us hl => match us, hl with | [_, _, _], _ => rfl
  obtain ⟨f_same_kinds, oc_same_kinds, kV_same_kinds, dc_same_kinds, pm_same_kinds, cd_same_kinds, ct_same_kinds, od_same_kinds, an_same_kinds, sl_same_kinds, n_same_kinds, l_same_kinds, q_same_kinds, k_same_kinds⟩ := d40
  have F_same_kinds := fun_mk (st := top 37) l_same_kinds q_same_kinds k_same_kinds
  have g_same_kinds := PySem.W.mg_of X G n_same_kinds
  have b_same_kinds := F_same_kinds.binds (ps := ["one", "other"]) fun _ _ _ _ _ _ us hl => match us, hl with | [_, _], _ => rfl
  obtain ⟨f_joined, oc_joined, kV_joined, dc_joined, pm_joined, cd_joined, ct_joined, od_joined, an_joined, sl_joined, n_joined, l_joined, q_joined, k_joined⟩ := d41
  have F_joined := fun_mk (st := top 38) l_joined q_joined k_joined
  have g_joined := PySem.W.mg_of X G n_joined
  have b_joined := F_joined.binds (ps := ["one", "other"]) fun _ _ _ _ _ _ us hl => match us, hl with | [_, _], _ => rfl
  obtain ⟨f_met, oc_met, kV_met, dc_met, pm_met, cd_met, ct_met, od_met, an_met, sl_met, n_met, l_met, q_met, k_met⟩ := d42
  have F_met := fun_mk (st := top 39) l_met q_met k_met
  have g_met := PySem.W.mg_of X G n_met
  have b_met := F_met.binds (ps := ["one", "other"]) fun _ _ _ _ _ _ us hl => match us, hl with | [_, _], _ => rfl
  obtain ⟨f_within, oc_within, kV_within, dc_within, pm_within, cd_within, ct_within, od_within, an_within, sl_within, n_within, l_within, q_within, k_within⟩ := d43
  have F_within := fun_mk (st := top 41) l_within q_within k_within
  have g_within := PySem.W.mg_of X G n_within
  have b_within := F_within.binds (ps := ["one", "other"]) fun _ _ _ _ _ _ us hl => match us, hl with | [_, _], _ => rfl
  obtain ⟨f_index_in, oc_index_in, kV_index_in, dc_index_in, pm_index_in, cd_index_in, ct_index_in, od_index_in, an_index_in, sl_index_in, n_index_in, l_index_in, q_index_in, k_index_in⟩ := d44
  have F_index_in := fun_mk (st := top 43) l_index_in q_index_in k_index_in
  have g_index_in := PySem.W.mg_of X G n_index_in
  have b_index_in := F_index_in.binds (ps := ["one", "other"]) fun _ _ _ _ _ _ us hl => match us, hl with | [_, _], _ => rfl
  obtain ⟨f_fitting, oc_fitting, kV_fitting, dc_fitting, pm_fitting, cd_fitting, ct_fitting, od_fitting, an_fitting, sl_fitting, n_fitting, l_fitting, q_fitting, k_fitting⟩ := d45
  have F_fitting := fun_mk (st := top 66) l_fitting q_fitting k_fitting
  have g_fitting := PySem.W.mg_of X G n_fitting
  have b_fitting := F_fitting.binds (ps := ["one", "table", "other"]) fun _ _ _ _ _ _ us hl => match us, hl with | [_, _, _], _ => rfl
  obtain ⟨f_sound, oc_sound, kV_sound, dc_sound, pm_sound, cd_sound, ct_sound, od_sound, an_sound, sl_sound, n_sound, l_sound, q_sound, k_sound⟩ := d46
  have F_sound := fun_mk (st := top 67) l_sound q_sound k_sound
  have g_sound := PySem.W.mg_of X G n_sound
  have b_sound := F_sound.binds (ps := ["one", "table", "other"]) fun _ _ _ _ _ _ us hl => match us, hl with | [_, _, _], _ => rfl
  obtain ⟨f_pulled, oc_pulled, kV_pulled, dc_pulled, pm_pulled, cd_pulled, ct_pulled, od_pulled, an_pulled, sl_pulled, n_pulled, l_pulled, q_pulled, k_pulled⟩ := d47
  have F_pulled := fun_mk (st := top 68) l_pulled q_pulled k_pulled
  have g_pulled := PySem.W.mg_of X G n_pulled
  have b_pulled := F_pulled.binds (ps := ["one", "table", "other"]) fun _ _ _ _ _ _ us hl => match us, hl with | [_, _, _], _ => rfl
  obtain ⟨f__law_cell_at, oc__law_cell_at, kV__law_cell_at, dc__law_cell_at, pm__law_cell_at, cd__law_cell_at, ct__law_cell_at, od__law_cell_at, an__law_cell_at, sl__law_cell_at, n__law_cell_at, l__law_cell_at, q__law_cell_at, k__law_cell_at⟩ := d48
  have F__law_cell_at := fun_mk (st := top 70) l__law_cell_at q__law_cell_at k__law_cell_at
  have g__law_cell_at := PySem.W.mg_of X G n__law_cell_at
  have b__law_cell_at := F__law_cell_at.binds (ps := ["_law_script", "_law_k"]) fun _ _ _ _ _ _ us hl => match us, hl with | [_, _], _ => rfl
  obtain ⟨f__law_number, oc__law_number, kV__law_number, dc__law_number, pm__law_number, cd__law_number, ct__law_number, od__law_number, an__law_number, sl__law_number, n__law_number, l__law_number, q__law_number, k__law_number⟩ := d49
  have F__law_number := fun_mk (st := top 73) l__law_number q__law_number k__law_number
  have g__law_number := PySem.W.mg_of X G n__law_number
  have b__law_number := F__law_number.binds (ps := ["_law_cell", "_law_mode"]) fun _ _ _ _ _ _ us hl => match us, hl with | [_, _], _ => rfl
  obtain ⟨f__law_row, oc__law_row, kV__law_row, dc__law_row, pm__law_row, cd__law_row, ct__law_row, od__law_row, an__law_row, sl__law_row, n__law_row, l__law_row, q__law_row, k__law_row⟩ := d50
  have F__law_row := fun_mk (st := top 74) l__law_row q__law_row k__law_row
  have g__law_row := PySem.W.mg_of X G n__law_row
  have b__law_row := F__law_row.binds (ps := ["_law_script", "_law_at", "_law_size", "_law_mode"]) fun _ _ _ _ _ _ us hl => match us, hl with | [_, _, _, _], _ => rfl
  obtain ⟨f__law_plus, oc__law_plus, kV__law_plus, dc__law_plus, pm__law_plus, cd__law_plus, ct__law_plus, od__law_plus, an__law_plus, sl__law_plus, n__law_plus, l__law_plus, q__law_plus, k__law_plus⟩ := d51
  have F__law_plus := fun_mk (st := top 76) l__law_plus q__law_plus k__law_plus
  have g__law_plus := PySem.W.mg_of X G n__law_plus
  have b__law_plus := F__law_plus.binds (ps := ["_law_one", "_law_other", "_law_times"]) fun _ _ _ _ _ _ us hl => match us, hl with | [_, _, _], _ => rfl
  obtain ⟨f__law_heavy, oc__law_heavy, kV__law_heavy, dc__law_heavy, pm__law_heavy, cd__law_heavy, ct__law_heavy, od__law_heavy, an__law_heavy, sl__law_heavy, n__law_heavy, l__law_heavy, q__law_heavy, k__law_heavy⟩ := d52
  have F__law_heavy := fun_mk (st := top 77) l__law_heavy q__law_heavy k__law_heavy
  have g__law_heavy := PySem.W.mg_of X G n__law_heavy
  have b__law_heavy := F__law_heavy.binds (ps := ["_law_weights", "_law_row_here"]) fun _ _ _ _ _ _ us hl => match us, hl with | [_, _], _ => rfl
  obtain ⟨f__law_whole, oc__law_whole, kV__law_whole, dc__law_whole, pm__law_whole, cd__law_whole, ct__law_whole, od__law_whole, an__law_whole, sl__law_whole, n__law_whole, l__law_whole, q__law_whole, k__law_whole⟩ := d53
  have F__law_whole := fun_mk (st := top 71) l__law_whole q__law_whole k__law_whole
  have g__law_whole := PySem.W.mg_of X G n__law_whole
  have b__law_whole := F__law_whole.binds (ps := ["_law_found"]) fun _ _ _ _ _ _ us hl => match us, hl with | [_], _ => rfl
  obtain ⟨f__law_is_row, oc__law_is_row, kV__law_is_row, dc__law_is_row, pm__law_is_row, cd__law_is_row, ct__law_is_row, od__law_is_row, an__law_is_row, sl__law_is_row, n__law_is_row, l__law_is_row, q__law_is_row, k__law_is_row⟩ := d54
  have F__law_is_row := fun_mk (st := top 72) l__law_is_row q__law_is_row k__law_is_row
  have g__law_is_row := PySem.W.mg_of X G n__law_is_row
  have b__law_is_row := F__law_is_row.binds (ps := ["_law_found", "_law_size"]) fun _ _ _ _ _ _ us hl => match us, hl with | [_, _], _ => rfl
  obtain ⟨f__law_sum, oc__law_sum, kV__law_sum, dc__law_sum, pm__law_sum, cd__law_sum, ct__law_sum, od__law_sum, an__law_sum, sl__law_sum, n__law_sum, l__law_sum, q__law_sum, k__law_sum⟩ := d55
  have F__law_sum := fun_mk (st := top 75) l__law_sum q__law_sum k__law_sum
  have g__law_sum := PySem.W.mg_of X G n__law_sum
  have b__law_sum := F__law_sum.binds (ps := ["_law_size", "_law_rows", "_law_times"]) fun _ _ _ _ _ _ us hl => match us, hl with | [_, _, _], _ => rfl
  obtain ⟨f__law_leads, oc__law_leads, kV__law_leads, dc__law_leads, pm__law_leads, cd__law_leads, ct__law_leads, od__law_leads, an__law_leads, sl__law_leads, n__law_leads, l__law_leads, q__law_leads, k__law_leads⟩ := d56
  have F__law_leads := fun_mk (st := top 78) l__law_leads q__law_leads k__law_leads
  have g__law_leads := PySem.W.mg_of X G n__law_leads
  have b__law_leads := F__law_leads.binds (ps := ["_law_bills", "_law_one", "_law_other", "_law_uses"]) fun _ _ _ _ _ _ us hl => match us, hl with | [_, _, _, _], _ => rfl
  obtain ⟨f__law_denies, oc__law_denies, kV__law_denies, dc__law_denies, pm__law_denies, cd__law_denies, ct__law_denies, od__law_denies, an__law_denies, sl__law_denies, n__law_denies, l__law_denies, q__law_denies, k__law_denies⟩ := d57
  have F__law_denies := fun_mk (st := top 79) l__law_denies q__law_denies k__law_denies
  have g__law_denies := PySem.W.mg_of X G n__law_denies
  have b__law_denies := F__law_denies.binds (ps := ["_law_bills", "_law_one", "_law_other", "_law_scale"]) fun _ _ _ _ _ _ us hl => match us, hl with | [_, _, _, _], _ => rfl
  obtain ⟨f__law_copied, oc__law_copied, kV__law_copied, dc__law_copied, pm__law_copied, cd__law_copied, ct__law_copied, od__law_copied, an__law_copied, sl__law_copied, n__law_copied, l__law_copied, q__law_copied, k__law_copied⟩ := d58
  have F__law_copied := fun_mk (st := top 81) l__law_copied q__law_copied k__law_copied
  have g__law_copied := PySem.W.mg_of X G n__law_copied
  have b__law_copied := F__law_copied.binds (ps := ["_law_rows"]) fun _ _ _ _ _ _ us hl => match us, hl with | [_], _ => rfl
  obtain ⟨f__law_same, oc__law_same, kV__law_same, dc__law_same, pm__law_same, cd__law_same, ct__law_same, od__law_same, an__law_same, sl__law_same, n__law_same, l__law_same, q__law_same, k__law_same⟩ := d59
  have F__law_same := fun_mk (st := top 82) l__law_same q__law_same k__law_same
  have g__law_same := PySem.W.mg_of X G n__law_same
  have b__law_same := F__law_same.binds (ps := ["_law_hall", "_law_bills", "_law_one", "_law_other"]) fun _ _ _ _ _ _ us hl => match us, hl with | [_, _, _, _], _ => rfl
  obtain ⟨f__law_two, oc__law_two, kV__law_two, dc__law_two, pm__law_two, cd__law_two, ct__law_two, od__law_two, an__law_two, sl__law_two, n__law_two, l__law_two, q__law_two, k__law_two⟩ := d60
  have F__law_two := fun_mk (st := top 80) l__law_two q__law_two k__law_two
  have g__law_two := PySem.W.mg_of X G n__law_two
  have b__law_two := F__law_two.binds (ps := ["_law_script"]) fun _ _ _ _ _ _ us hl => match us, hl with | [_], _ => rfl
  obtain ⟨f__law_all_in, oc__law_all_in, kV__law_all_in, dc__law_all_in, pm__law_all_in, cd__law_all_in, ct__law_all_in, od__law_all_in, an__law_all_in, sl__law_all_in, n__law_all_in, l__law_all_in, q__law_all_in, k__law_all_in⟩ := d61
  have F__law_all_in := fun_mk (st := top 86) l__law_all_in q__law_all_in k__law_all_in
  have g__law_all_in := PySem.W.mg_of X G n__law_all_in
  have b__law_all_in := F__law_all_in.binds (ps := ["_law_drawn", "_law_other"]) fun _ _ _ _ _ _ us hl => match us, hl with | [_, _], _ => rfl
  obtain ⟨f__law_spoilt, oc__law_spoilt, kV__law_spoilt, dc__law_spoilt, pm__law_spoilt, cd__law_spoilt, ct__law_spoilt, od__law_spoilt, an__law_spoilt, sl__law_spoilt, n__law_spoilt, l__law_spoilt, q__law_spoilt, k__law_spoilt⟩ := d62
  have F__law_spoilt := fun_mk (st := top 85) l__law_spoilt q__law_spoilt k__law_spoilt
  have g__law_spoilt := PySem.W.mg_of X G n__law_spoilt
  have b__law_spoilt := F__law_spoilt.binds (ps := ["_law_table", "_law_way", "_law_cell"]) fun _ _ _ _ _ _ us hl => match us, hl with | [_, _, _], _ => rfl
  obtain ⟨f__law_asked, oc__law_asked, kV__law_asked, dc__law_asked, pm__law_asked, cd__law_asked, ct__law_asked, od__law_asked, an__law_asked, sl__law_asked, n__law_asked, l__law_asked, q__law_asked, k__law_asked⟩ := d63
  have F__law_asked := fun_mk (st := top 83) l__law_asked q__law_asked k__law_asked
  have g__law_asked := PySem.W.mg_of X G n__law_asked
  have b__law_asked := F__law_asked.binds (ps := ["_law_one", "_law_other", "_law_table", "_law_which"]) fun _ _ _ _ _ _ us hl => match us, hl with | [_, _, _, _], _ => rfl
  obtain ⟨f__law_unlike, oc__law_unlike, kV__law_unlike, dc__law_unlike, pm__law_unlike, cd__law_unlike, ct__law_unlike, od__law_unlike, an__law_unlike, sl__law_unlike, n__law_unlike, l__law_unlike, q__law_unlike, k__law_unlike⟩ := d64
  have F__law_unlike := fun_mk (st := top 84) l__law_unlike q__law_unlike k__law_unlike
  have g__law_unlike := PySem.W.mg_of X G n__law_unlike
  have b__law_unlike := F__law_unlike.binds (ps := ["_law_one", "_law_other", "_law_table", "_law_which"]) fun _ _ _ _ _ _ us hl => match us, hl with | [_, _, _, _], _ => rfl
  obtain ⟨f_law, oc_law, kV_law, dc_law, pm_law, cd_law, ct_law, od_law, an_law, sl_law, n_law, l_law, q_law, k_law⟩ := d65
  have F_law := fun_mk (st := top 87) l_law q_law k_law
  have g_law := PySem.W.mg_of X G n_law
  have b_law := F_law.binds (ps := ["_law_script"]) fun _ _ _ _ _ _ us hl => match us, hl with | [_], _ => rfl
  obtain ⟨f_swap_rows, oc_swap_rows, kV_swap_rows, dc_swap_rows, pm_swap_rows, cd_swap_rows, ct_swap_rows, od_swap_rows, an_swap_rows, sl_swap_rows, n_swap_rows, h_swap_rows, l_swap_rows, q_swap_rows, k_swap_rows⟩ := e0
  have F_swap_rows := fun_mk (st := inClass (top 48) 1) l_swap_rows q_swap_rows k_swap_rows
  have b_swap_rows := F_swap_rows.binds (ps := ["self", "one", "other"]) fun _ _ _ _ _ _ us hl => match us, hl with | [_, _, _], _ => rfl
  have e_swap_rows : Meth K C "swap_rows" f_swap_rows := ⟨n_swap_rows, h_swap_rows, k_swap_rows⟩
  obtain ⟨f_take_row, oc_take_row, kV_take_row, dc_take_row, pm_take_row, cd_take_row, ct_take_row, od_take_row, an_take_row, sl_take_row, n_take_row, h_take_row, l_take_row, q_take_row, k_take_row⟩ := e1
  have F_take_row := fun_mk (st := inClass (top 48) 3) l_take_row q_take_row k_take_row
  have b_take_row := F_take_row.binds (ps := ["self", "row", "other", "times"]) fun _ _ _ _ _ _ us hl => match us, hl with | [_, _, _, _], _ => rfl
  have e_take_row : Meth K C "take_row" f_take_row := ⟨n_take_row, h_take_row, k_take_row⟩
  obtain ⟨f_turn_row, oc_turn_row, kV_turn_row, dc_turn_row, pm_turn_row, cd_turn_row, ct_turn_row, od_turn_row, an_turn_row, sl_turn_row, n_turn_row, h_turn_row, l_turn_row, q_turn_row, k_turn_row⟩ := e2
  have F_turn_row := fun_mk (st := inClass (top 48) 5) l_turn_row q_turn_row k_turn_row
  have b_turn_row := F_turn_row.binds (ps := ["self", "row"]) fun _ _ _ _ _ _ us hl => match us, hl with | [_, _], _ => rfl
  have e_turn_row : Meth K C "turn_row" f_turn_row := ⟨n_turn_row, h_turn_row, k_turn_row⟩
  obtain ⟨f_swap_places, oc_swap_places, kV_swap_places, dc_swap_places, pm_swap_places, cd_swap_places, ct_swap_places, od_swap_places, an_swap_places, sl_swap_places, n_swap_places, h_swap_places, l_swap_places, q_swap_places, k_swap_places⟩ := e3
  have F_swap_places := fun_mk (st := inClass (top 48) 2) l_swap_places q_swap_places k_swap_places
  have b_swap_places := F_swap_places.binds (ps := ["self", "one", "other"]) fun _ _ _ _ _ _ us hl => match us, hl with | [_, _, _], _ => rfl
  have e_swap_places : Meth K C "swap_places" f_swap_places := ⟨n_swap_places, h_swap_places, k_swap_places⟩
  obtain ⟨f_take_place, oc_take_place, kV_take_place, dc_take_place, pm_take_place, cd_take_place, ct_take_place, od_take_place, an_take_place, sl_take_place, n_take_place, h_take_place, l_take_place, q_take_place, k_take_place⟩ := e4
  have F_take_place := fun_mk (st := inClass (top 48) 4) l_take_place q_take_place k_take_place
  have b_take_place := F_take_place.binds (ps := ["self", "place", "other", "times"]) fun _ _ _ _ _ _ us hl => match us, hl with | [_, _, _, _], _ => rfl
  have e_take_place : Meth K C "take_place" f_take_place := ⟨n_take_place, h_take_place, k_take_place⟩
  obtain ⟨f___init__, oc___init__, kV___init__, dc___init__, pm___init__, cd___init__, ct___init__, od___init__, an___init__, sl___init__, n___init__, h___init__, l___init__, q___init__, k___init__⟩ := e5
  have F___init__ := fun_mk (st := inClass (top 48) 0) l___init__ q___init__ k___init__
  have b___init__ := F___init__.binds (ps := ["self", "kinds", "rows"]) fun _ _ _ _ _ _ us hl => match us, hl with | [_, _, _], _ => rfl
  have MK : Mk K C f___init__ := ⟨mk, n___init__, h___init__, kc⟩
  have eL := hfa.symm.trans g_law
  cases eL
  refine ⟨PySem.W.fnOf "law" "law" (defArgs (top 87)) (defBody (top 87)) (defScope (top 87)) .none kV_law dc_law pm_law an_law cd_law ct_law, fun s v => .of_eq rfl, fun base _ _ => ?_⟩
  have G_noughts : FnOk l.prog w K mg base CX0 1 f_noughts _ ["size"] (spNoughts) := ok_noughts F_noughts z_range
  have c_noughts : Cal l.prog w K mg base "noughts" 1 ["size"] (spNoughts) := ⟨_, _, G_noughts, g_noughts, k_noughts, b_noughts⟩
  have G_single : FnOk l.prog w K mg base CX0 1 f_single _ ["size", "place"] (spSingle) := ok_single F_single z_range z_int
  have c_single : Cal l.prog w K mg base "single" 1 ["size", "place"] (spSingle) := ⟨_, _, G_single, g_single, k_single, b_single⟩
  have G_taken : FnOk l.prog w K mg base CX0 1 f_taken _ ["row", "other", "times"] ((spTaken K)) := ok_taken F_taken z_zip
  have c_taken : Cal l.prog w K mg base "taken" 1 ["row", "other", "times"] ((spTaken K)) := ⟨_, _, G_taken, g_taken, k_taken, b_taken⟩
  have G_turned : FnOk l.prog w K mg base CX0 1 f_turned _ ["row"] ((spTurned K)) := ok_turned F_turned
  have c_turned : Cal l.prog w K mg base "turned" 1 ["row"] ((spTurned K)) := ⟨_, _, G_turned, g_turned, k_turned, b_turned⟩
  have G_weight : FnOk l.prog w K mg base CX0 1 f_weight _ ["weights", "row"] ((spWeight K)) := ok_weight F_weight z_zip
  have c_weight : Cal l.prog w K mg base "weight" 1 ["weights", "row"] ((spWeight K)) := ⟨_, _, G_weight, g_weight, k_weight, b_weight⟩
  have G_head_of : FnOk l.prog w K mg base CX0 1 f_head_of _ ["row"] ((spHead K)) := ok_head F_head_of z_range z_len
  have c_head_of : Cal l.prog w K mg base "head_of" 1 ["row"] ((spHead K)) := ⟨_, _, G_head_of, g_head_of, k_head_of, b_head_of⟩
  have G_is_nought : FnOk l.prog w K mg base CX0 2 f_is_nought _ ["row"] ((spIsN K)) := ok_isN F_is_nought G_head_of g_head_of k_head_of b_head_of z_len
  have c_is_nought : Cal l.prog w K mg base "is_nought" 2 ["row"] ((spIsN K)) := ⟨_, _, G_is_nought, g_is_nought, k_is_nought, b_is_nought⟩
  have G_mixed : FnOk l.prog w K mg base CX0 2 f_mixed _ ["size", "rows", "times"] ((spMixed K)) := ok_mixed F_mixed z_zip c_noughts c_taken
  have c_mixed : Cal l.prog w K mg base "mixed" 2 ["size", "rows", "times"] ((spMixed K)) := ⟨_, _, G_mixed, g_mixed, k_mixed, b_mixed⟩
  have G_is_whole : FnOk l.prog w K mg base CX0 1 f_is_whole _ ["thing"] (spIsW) := ok_isW F_is_whole z_isinstance z_int z_bool
  have c_is_whole : Cal l.prog w K mg base "is_whole" 1 ["thing"] (spIsW) := ⟨_, _, G_is_whole, g_is_whole, k_is_whole, b_is_whole⟩
  have G_is_row : FnOk l.prog w K mg base CX0 2 f_is_row _ ["size", "thing"] ((spIsR K)) := ok_isR F_is_row z_isinstance z_list z_len c_is_whole
  have c_is_row : Cal l.prog w K mg base "is_row" 2 ["size", "thing"] ((spIsR K)) := ⟨_, _, G_is_row, g_is_row, k_is_row, b_is_row⟩
  have G_is_small : FnOk l.prog w K mg base CX0 1 f_is_small _ ["row"] ((spIsS K)) := ok_isS F_is_small i_LIMIT
  have c_is_small : Cal l.prog w K mg base "is_small" 1 ["row"] ((spIsS K)) := ⟨_, _, G_is_small, g_is_small, k_is_small, b_is_small⟩
  have G_told : FnOk l.prog w K mg base CX0 1 f_told _ ["kinds", "rows"] ((spTold K)) := ok_told F_told z_tuple
  have c_told : Cal l.prog w K mg base "told" 1 ["kinds", "rows"] ((spTold K)) := ⟨_, _, G_told, g_told, k_told, b_told⟩
  have G_hall_of : FnOk l.prog w K mg base CX0 3 f_hall_of _ ["kinds", "bills"] (spHallOf) := ok_hallOf F_hall_of i_KINDS i_BILLS z_isinstance z_list z_len c_is_whole c_is_row c_is_small c_told
  have c_hall_of : Cal l.prog w K mg base "hall_of" 3 ["kinds", "bills"] (spHallOf) := ⟨_, _, G_hall_of, g_hall_of, k_hall_of, b_hall_of⟩
  have G_checked : FnOk l.prog w K mg base CX0 3 f_checked _ ["hall", "basket"] (spChk) := ok_chk F_checked c_is_row
  have c_checked : Cal l.prog w K mg base "checked" 3 ["hall", "basket"] (spChk) := ⟨_, _, G_checked, g_checked, k_checked, b_checked⟩
  have G_apart : FnOk l.prog w K mg base CX0 4 f_apart _ ["hall", "one", "other"] (spApart) := ok_apart F_apart c_checked c_taken
  have c_apart : Cal l.prog w K mg base "apart" 4 ["hall", "one", "other"] (spApart) := ⟨_, _, G_apart, g_apart, k_apart, b_apart⟩
  have G_least_at : FnOk l.prog w K mg base CX0 1 f_least_at _ ["work", "place"] (spLeastAt) := ok_leastAt F_least_at z_range z_len z_abs
  have c_least_at : Cal l.prog w K mg base "least_at" 1 ["work", "place"] (spLeastAt) := ⟨_, _, G_least_at, g_least_at, k_least_at, b_least_at⟩
  have G_less : FnOk l.prog w K mg base CX0 2 f_less _ ["pair", "head", "times"] (spLess) := ok_less F_less c_taken
  have c_less : Cal l.prog w K mg base "less" 2 ["pair", "head", "times"] (spLess) := ⟨_, _, G_less, g_less, k_less, b_less⟩
  have G_cleared : FnOk l.prog w K mg base CX0 3 f_cleared _ ["work", "place"] (spClr) := ok_clr F_cleared z_list z_range z_len c_least_at c_less
  have c_cleared : Cal l.prog w K mg base "cleared" 3 ["work", "place"] (spClr) := ⟨_, _, G_cleared, g_cleared, k_cleared, b_cleared⟩
  have G_laid : FnOk l.prog w K mg base CX0 4 f_laid _ ["kinds", "rows"] (spLaid) := ok_laid F_laid z_list z_range z_len c_single c_cleared c_turned c_less
  have c_laid : Cal l.prog w K mg base "laid" 4 ["kinds", "rows"] (spLaid) := ⟨_, _, G_laid, g_laid, k_laid, b_laid⟩
  have G_by_rows : FnOk l.prog w K mg base CX0 2 f_by_rows _ ["rows", "basket"] ((spByRows K)) := ok_byRows F_by_rows z_list c_head_of c_taken
  have c_by_rows : Cal l.prog w K mg base "by_rows" 2 ["rows", "basket"] ((spByRows K)) := ⟨_, _, G_by_rows, g_by_rows, k_by_rows, b_by_rows⟩
  have G_rows_of : FnOk l.prog w K mg base CX0 5 f_rows_of _ ["kinds", "rows"] ((spRowsOf K)) := ok_rowsOf F_rows_of c_laid
  have c_rows_of : Cal l.prog w K mg base "rows_of" 5 ["kinds", "rows"] ((spRowsOf K)) := ⟨_, _, G_rows_of, g_rows_of, k_rows_of, b_rows_of⟩
  have G_stair : FnOk l.prog w K mg base CX0 6 f_stair _ ["hall"] ((spStair K)) := ok_stair F_stair c_rows_of
  have c_stair : Cal l.prog w K mg base "stair" 6 ["hall"] ((spStair K)) := ⟨_, _, G_stair, g_stair, k_stair, b_stair⟩
  have G_uses_for : FnOk l.prog w K mg base CX0 5 f_uses_for _ ["kinds", "rows", "basket"] ((spUses K)) := ok_uses F_uses_for z_len c_laid c_by_rows c_is_nought c_mixed
  have c_uses_for : Cal l.prog w K mg base "uses_for" 5 ["kinds", "rows", "basket"] ((spUses K)) := ⟨_, _, G_uses_for, g_uses_for, k_uses_for, b_uses_for⟩
  have G_plan : FnOk l.prog w K mg base CX0 6 f_plan _ ["hall", "one", "other"] (spPlan) := ok_plan F_plan c_uses_for c_apart
  have c_plan : Cal l.prog w K mg base "plan" 6 ["hall", "one", "other"] (spPlan) := ⟨_, _, G_plan, g_plan, k_plan, b_plan⟩
  have G_lies_in : FnOk l.prog w K mg base CX0 3 f_lies_in _ ["rows", "stairs"] ((spLies K)) := ok_lies F_lies_in c_by_rows c_is_nought
  have c_lies_in : Cal l.prog w K mg base "lies_in" 3 ["rows", "stairs"] ((spLies K)) := ⟨_, _, G_lies_in, g_lies_in, k_lies_in, b_lies_in⟩
  have G_swapped : FnOk l.prog w K mg base CX0 1 f_swapped _ ["row", "one", "other"] ((spSwapped K)) := ok_swapped F_swapped z_list
  have c_swapped : Cal l.prog w K mg base "swapped" 1 ["row", "one", "other"] ((spSwapped K)) := ⟨_, _, G_swapped, g_swapped, k_swapped, b_swapped⟩
  have G_eased : FnOk l.prog w K mg base CX0 1 f_eased _ ["row", "place", "other", "times"] ((spEased K)) := ok_eased F_eased z_list
  have c_eased : Cal l.prog w K mg base "eased" 1 ["row", "place", "other", "times"] ((spEased K)) := ⟨_, _, G_eased, g_eased, k_eased, b_eased⟩
  have G_swap_rows : FnOk l.prog w K mg base CX0 1 f_swap_rows _ ["self", "one", "other"] ((spSwapR C)) := ok_swapR F_swap_rows T
  have m_swap_rows : Mtd l.prog w K mg base C "swap_rows" 1 ["self", "one", "other"] ((spSwapR C)) := ⟨_, _, G_swap_rows, b_swap_rows, e_swap_rows⟩
  have G_take_row : FnOk l.prog w K mg base CX0 2 f_take_row _ ["self", "row", "other", "times"] ((spTakeR C)) := ok_takeR F_take_row T c_taken
  have m_take_row : Mtd l.prog w K mg base C "take_row" 2 ["self", "row", "other", "times"] ((spTakeR C)) := ⟨_, _, G_take_row, b_take_row, e_take_row⟩
  have G_turn_row : FnOk l.prog w K mg base CX0 2 f_turn_row _ ["self", "row"] ((spTurnR C)) := ok_turnR F_turn_row T c_turned
  have m_turn_row : Mtd l.prog w K mg base C "turn_row" 2 ["self", "row"] ((spTurnR C)) := ⟨_, _, G_turn_row, b_turn_row, e_turn_row⟩
  have G_swap_places : FnOk l.prog w K mg base CX0 2 f_swap_places _ ["self", "one", "other"] ((spSwapP C)) := ok_swapP F_swap_places T c_swapped
  have m_swap_places : Mtd l.prog w K mg base C "swap_places" 2 ["self", "one", "other"] ((spSwapP C)) := ⟨_, _, G_swap_places, b_swap_places, e_swap_places⟩
  have G_take_place : FnOk l.prog w K mg base CX0 2 f_take_place _ ["self", "place", "other", "times"] ((spTakeP C)) := ok_takeP F_take_place T c_eased c_taken
  have m_take_place : Mtd l.prog w K mg base C "take_place" 2 ["self", "place", "other", "times"] ((spTakeP C)) := ⟨_, _, G_take_place, b_take_place, e_take_place⟩
  have G___init__ : FnOk l.prog w K mg base CX0 2 f___init__ _ ["self", "kinds", "rows"] ((spInit K C)) := ok_init F___init__ T z_list z_range c_single
  have G_least_from : FnOk l.prog w K mg base CX0 1 f_least_from _ ["grid", "step"] ((spLeast C)) := ok_least F_least_from T z_range z_len z_abs
  have c_least_from : Cal l.prog w K mg base "least_from" 1 ["grid", "step"] ((spLeast C)) := ⟨_, _, G_least_from, g_least_from, k_least_from, b_least_from⟩
  have G_odd_row : FnOk l.prog w K mg base CX0 1 f_odd_row _ ["grid", "step"] ((spOdd C)) := ok_odd F_odd_row T z_range z_len
  have c_odd_row : Cal l.prog w K mg base "odd_row" 1 ["grid", "step"] ((spOdd C)) := ⟨_, _, G_odd_row, g_odd_row, k_odd_row, b_odd_row⟩
  have G_product : FnOk l.prog w K mg base CX0 1 f_product _ ["numbers"] ((spProd K)) := ok_prod F_product
  have c_product : Cal l.prog w K mg base "product" 1 ["numbers"] ((spProd K)) := ⟨_, _, G_product, g_product, k_product, b_product⟩
  have G_heads : FnOk l.prog w K mg base CX0 2 f_heads _ ["rows"] ((spHeads K)) := ok_heads F_heads c_head_of
  have c_heads : Cal l.prog w K mg base "heads" 2 ["rows"] ((spHeads K)) := ⟨_, _, G_heads, g_heads, k_heads, b_heads⟩
  have G_clear_cross : FnOk l.prog w K mg base CX0 3 f_clear_cross _ ["grid", "step"] ((spCross C)) := ok_cross F_clear_cross T z_range z_len G_take_row b_take_row e_take_row G_take_place b_take_place e_take_place
  have c_clear_cross : Cal l.prog w K mg base "clear_cross" 3 ["grid", "step"] ((spCross C)) := ⟨_, _, G_clear_cross, g_clear_cross, k_clear_cross, b_clear_cross⟩
  have G_settle : FnOk l.prog w K mg base CX0 4 f_settle _ ["grid", "step"] ((spSettle C)) := ok_settle F_settle T c_least_from c_clear_cross c_odd_row m_swap_rows m_swap_places m_take_row m_turn_row
  have c_settle : Cal l.prog w K mg base "settle" 4 ["grid", "step"] ((spSettle C)) := ⟨_, _, G_settle, g_settle, k_settle, b_settle⟩
  have G_diagonal : FnOk l.prog w K mg base CX0 5 f_diagonal _ ["kinds", "rows"] ((spDiag K C)) := ok_diag F_diagonal T z_range z_len gG MK G___init__ b___init__ c_settle
  have c_diagonal : Cal l.prog w K mg base "diagonal" 5 ["kinds", "rows"] ((spDiag K C)) := ⟨_, _, G_diagonal, g_diagonal, k_diagonal, b_diagonal⟩
  have G_grid_of : FnOk l.prog w K mg base CX0 7 f_grid_of _ ["hall"] ((spGridOf C)) := ok_gridOf F_grid_of c_stair c_diagonal
  have c_grid_of : Cal l.prog w K mg base "grid_of" 7 ["hall"] ((spGridOf C)) := ⟨_, _, G_grid_of, g_grid_of, k_grid_of, b_grid_of⟩
  have G_parts_in : FnOk l.prog w K mg base CX0 2 f_parts_in _ ["grid"] ((spPartsIn C)) := ok_partsIn F_parts_in T z_range z_len c_noughts
  have c_parts_in : Cal l.prog w K mg base "parts_in" 2 ["grid"] ((spPartsIn C)) := ⟨_, _, G_parts_in, g_parts_in, k_parts_in, b_parts_in⟩
  have G_parts : FnOk l.prog w K mg base CX0 8 f_parts _ ["hall"] (spParts) := ok_parts F_parts c_grid_of c_parts_in
  have c_parts : Cal l.prog w K mg base "parts" 8 ["hall"] (spParts) := ⟨_, _, G_parts, g_parts, k_parts, b_parts⟩
  have G_scales : FnOk l.prog w K mg base CX0 9 f_scales _ ["hall"] (spScales) := ok_scales F_scales T z_range c_grid_of c_parts
  have c_scales : Cal l.prog w K mg base "scales" 9 ["hall"] (spScales) := ⟨_, _, G_scales, g_scales, k_scales, b_scales⟩
  have G_even : FnOk l.prog w K mg base CX0 2 f_even _ ["one", "other", "scale"] ((spEven K)) := ok_even F_even c_weight c_taken
  have c_even : Cal l.prog w K mg base "even" 2 ["one", "other", "scale"] ((spEven K)) := ⟨_, _, G_even, g_even, k_even, b_even⟩
  have G_denial : FnOk l.prog w K mg base CX0 10 f_denial _ ["hall", "one", "other"] (spDenial) := ok_denial F_denial z_abs c_apart c_scales c_even c_weight
  have c_denial : Cal l.prog w K mg base "denial" 10 ["hall", "one", "other"] (spDenial) := ⟨_, _, G_denial, g_denial, k_denial, b_denial⟩
  have G_same_kinds : FnOk l.prog w K mg base (L2.CX l.prog w) 1 f_same_kinds _ ["one", "other"] ((spSame U)) := ok_same F_same_kinds tU
  have c_same_kinds : CalX l.prog w K mg base "same_kinds" 1 ["one", "other"] ((spSame U)) := ⟨_, _, G_same_kinds, g_same_kinds, k_same_kinds, b_same_kinds⟩
  have G_joined : FnOk l.prog w K mg base (L2.CX l.prog w) 2 f_joined _ ["one", "other"] ((spUnl U)) := ok_joined F_joined c_same_kinds
  have c_joined : CalX l.prog w K mg base "joined" 2 ["one", "other"] ((spUnl U)) := ⟨_, _, G_joined, g_joined, k_joined, b_joined⟩
  have G_met : FnOk l.prog w K mg base (L2.CX l.prog w) 2 f_met _ ["one", "other"] ((spUnl U)) := ok_met F_met c_same_kinds
  have c_met : CalX l.prog w K mg base "met" 2 ["one", "other"] ((spUnl U)) := ⟨_, _, G_met, g_met, k_met, b_met⟩
  have G_within : FnOk l.prog w K mg base (L2.CX l.prog w) 7 f_within _ ["one", "other"] ((spWithin U)) := ok_within F_within c_same_kinds c_stair c_lies_in
  have c_within : CalX l.prog w K mg base "within" 7 ["one", "other"] ((spWithin U)) := ⟨_, _, G_within, g_within, k_within, b_within⟩
  have G_index_in : FnOk l.prog w K mg base (L2.CX l.prog w) 8 f_index_in _ ["one", "other"] ((spIndex U W)) := ok_index F_index_in tW z_len c_within c_stair c_product c_heads
  have c_index_in : CalX l.prog w K mg base "index_in" 8 ["one", "other"] ((spIndex U W)) := ⟨_, _, G_index_in, g_index_in, k_index_in, b_index_in⟩
  have G_fitting : FnOk l.prog w K mg base (L2.CX l.prog w) 3 f_fitting _ ["one", "table", "other"] ((spFit K U)) := ok_fit F_fitting tU z_isinstance z_list z_len c_is_row
  have c_fitting : CalX l.prog w K mg base "fitting" 3 ["one", "table", "other"] ((spFit K U)) := ⟨_, _, G_fitting, g_fitting, k_fitting, b_fitting⟩
  have G_sound : FnOk l.prog w K mg base (L2.CX l.prog w) 4 f_sound _ ["one", "table", "other"] ((spFit K U)) := ok_sound F_sound c_fitting
  have c_sound : CalX l.prog w K mg base "sound" 4 ["one", "table", "other"] ((spFit K U)) := ⟨_, _, G_sound, g_sound, k_sound, b_sound⟩
  have G_pulled : FnOk l.prog w K mg base (L2.CX l.prog w) 4 f_pulled _ ["one", "table", "other"] ((spFit K U)) := ok_pulled F_pulled c_fitting
  have c_pulled : CalX l.prog w K mg base "pulled" 4 ["one", "table", "other"] ((spFit K U)) := ⟨_, _, G_pulled, g_pulled, k_pulled, b_pulled⟩
  have G__law_cell_at : FnOk l.prog w K mg base CX0 1 f__law_cell_at _ ["_law_script", "_law_k"] ((spCell K)) := ok_cell F__law_cell_at z_len
  have c__law_cell_at : Cal l.prog w K mg base "_law_cell_at" 1 ["_law_script", "_law_k"] ((spCell K)) := ⟨_, _, G__law_cell_at, g__law_cell_at, k__law_cell_at, b__law_cell_at⟩
  have G__law_number : FnOk l.prog w K mg base CX0 1 f__law_number _ ["_law_cell", "_law_mode"] (spNum) := ok_num F__law_number
  have c__law_number : Cal l.prog w K mg base "_law_number" 1 ["_law_cell", "_law_mode"] (spNum) := ⟨_, _, G__law_number, g__law_number, k__law_number, b__law_number⟩
  have G__law_row : FnOk l.prog w K mg base CX0 2 f__law_row _ ["_law_script", "_law_at", "_law_size", "_law_mode"] ((spRow K)) := ok_row F__law_row z_range c__law_cell_at c__law_number
  have c__law_row : Cal l.prog w K mg base "_law_row" 2 ["_law_script", "_law_at", "_law_size", "_law_mode"] ((spRow K)) := ⟨_, _, G__law_row, g__law_row, k__law_row, b__law_row⟩
  have G__law_plus : FnOk l.prog w K mg base CX0 1 f__law_plus _ ["_law_one", "_law_other", "_law_times"] ((spPlus K)) := ok_plus F__law_plus z_range z_len
  have c__law_plus : Cal l.prog w K mg base "_law_plus" 1 ["_law_one", "_law_other", "_law_times"] ((spPlus K)) := ⟨_, _, G__law_plus, g__law_plus, k__law_plus, b__law_plus⟩
  have G__law_heavy : FnOk l.prog w K mg base CX0 1 f__law_heavy _ ["_law_weights", "_law_row_here"] ((spHeavy K)) := ok_heavy F__law_heavy z_range z_len
  have c__law_heavy : Cal l.prog w K mg base "_law_heavy" 1 ["_law_weights", "_law_row_here"] ((spHeavy K)) := ⟨_, _, G__law_heavy, g__law_heavy, k__law_heavy, b__law_heavy⟩
  have G__law_whole : FnOk l.prog w K mg base CX0 1 f__law_whole _ ["_law_found"] (spLW) := ok_LW F__law_whole z_isinstance z_int z_bool
  have c__law_whole : Cal l.prog w K mg base "_law_whole" 1 ["_law_found"] (spLW) := ⟨_, _, G__law_whole, g__law_whole, k__law_whole, b__law_whole⟩
  have G__law_is_row : FnOk l.prog w K mg base CX0 2 f__law_is_row _ ["_law_found", "_law_size"] (spLR) := ok_LR F__law_is_row z_isinstance z_list z_len c__law_whole
  have c__law_is_row : Cal l.prog w K mg base "_law_is_row" 2 ["_law_found", "_law_size"] (spLR) := ⟨_, _, G__law_is_row, g__law_is_row, k__law_is_row, b__law_is_row⟩
  have G__law_sum : FnOk l.prog w K mg base CX0 1 f__law_sum _ ["_law_size", "_law_rows", "_law_times"] ((spSum K)) := ok_sum F__law_sum z_range z_len
  have c__law_sum : Cal l.prog w K mg base "_law_sum" 1 ["_law_size", "_law_rows", "_law_times"] ((spSum K)) := ⟨_, _, G__law_sum, g__law_sum, k__law_sum, b__law_sum⟩
  have G__law_leads : FnOk l.prog w K mg base CX0 3 f__law_leads _ ["_law_bills", "_law_one", "_law_other", "_law_uses"] ((spLeads K)) := ok_leads F__law_leads z_len c__law_is_row c__law_plus c__law_sum
  have c__law_leads : Cal l.prog w K mg base "_law_leads" 3 ["_law_bills", "_law_one", "_law_other", "_law_uses"] ((spLeads K)) := ⟨_, _, G__law_leads, g__law_leads, k__law_leads, b__law_leads⟩
  have G__law_denies : FnOk l.prog w K mg base CX0 3 f__law_denies _ ["_law_bills", "_law_one", "_law_other", "_law_scale"] ((spDenies K)) := ok_denies F__law_denies z_isinstance z_tuple z_len c__law_whole c__law_is_row c__law_heavy c__law_plus
  have c__law_denies : Cal l.prog w K mg base "_law_denies" 3 ["_law_bills", "_law_one", "_law_other", "_law_scale"] ((spDenies K)) := ⟨_, _, G__law_denies, g__law_denies, k__law_denies, b__law_denies⟩
  have G__law_copied : FnOk l.prog w K mg base CX0 1 f__law_copied _ ["_law_rows"] ((spCopied K)) := ok_copied F__law_copied z_list
  have c__law_copied : Cal l.prog w K mg base "_law_copied" 1 ["_law_rows"] ((spCopied K)) := ⟨_, _, G__law_copied, g__law_copied, k__law_copied, b__law_copied⟩
  have G__law_same : FnOk l.prog w K mg base CX0 11 f__law_same _ ["_law_hall", "_law_bills", "_law_one", "_law_other"] ((spLS K)) := ok_LS F__law_same z_list z_int c_plan c_denial c__law_leads c__law_denies
  have c__law_same : Cal l.prog w K mg base "_law_same" 11 ["_law_hall", "_law_bills", "_law_one", "_law_other"] ((spLS K)) := ⟨_, _, G__law_same, g__law_same, k__law_same, b__law_same⟩
  have G__law_two : FnOk l.prog w K mg base CX0 3 f__law_two _ ["_law_script"] ((spTwo K)) := ok_two F__law_two z_range c__law_cell_at c__law_row
  have c__law_two : Cal l.prog w K mg base "_law_two" 3 ["_law_script"] ((spTwo K)) := ⟨_, _, G__law_two, g__law_two, k__law_two, b__law_two⟩
  have G__law_all_in : FnOk l.prog w K mg base CX0 12 f__law_all_in _ ["_law_drawn", "_law_other"] ((spAllIn K)) := ok_allIn F__law_all_in z_range c__law_same
  have c__law_all_in : Cal l.prog w K mg base "_law_all_in" 12 ["_law_drawn", "_law_other"] ((spAllIn K)) := ⟨_, _, G__law_all_in, g__law_all_in, k__law_all_in, b__law_all_in⟩
  have G__law_spoilt : FnOk l.prog w K mg base CX0 1 f__law_spoilt _ ["_law_table", "_law_way", "_law_cell"] ((spSpoil K)) := ok_spoil F__law_spoilt z_list z_tuple z_len
  have c__law_spoilt : Cal l.prog w K mg base "_law_spoilt" 1 ["_law_table", "_law_way", "_law_cell"] ((spSpoil K)) := ⟨_, _, G__law_spoilt, g__law_spoilt, k__law_spoilt, b__law_spoilt⟩
  have G__law_asked : FnOk l.prog w K mg base (L2.CX l.prog w) 9 f__law_asked _ ["_law_one", "_law_other", "_law_table", "_law_which"] ((spAsk K U)) := ok_ask F__law_asked c_joined c_met c_within c_index_in c_sound c_pulled
  have c__law_asked : CalX l.prog w K mg base "_law_asked" 9 ["_law_one", "_law_other", "_law_table", "_law_which"] ((spAsk K U)) := ⟨_, _, G__law_asked, g__law_asked, k__law_asked, b__law_asked⟩
  have G__law_unlike : FnOk l.prog w K mg base CX0 10 f__law_unlike _ ["_law_one", "_law_other", "_law_table", "_law_which"] ((spLU K)) := ok_LU F__law_unlike tE z_isinstance z_int z_ValueError c__law_asked
  have c__law_unlike : Cal l.prog w K mg base "_law_unlike" 10 ["_law_one", "_law_other", "_law_table", "_law_which"] ((spLU K)) := ⟨_, _, G__law_unlike, g__law_unlike, k__law_unlike, b__law_unlike⟩
  exact ok_law F_law z_range z_isinstance z_bool tW.g eWW c__law_two c__law_cell_at c_hall_of c__law_copied c__law_unlike c__law_row c__law_spoilt c__law_all_in c_within c_index_in
end Cw

open PySem PySem.W PyProof.Rows
set_option maxRecDepth 100000 in
set_option maxHeartbeats 0 in
theorem PySem.Challenge.cw_changehall_k25_halls_that_do_not_fit_holds : PySem.Challenge.rw_changehall_k25_halls_that_do_not_fit.Holds := by
  refine chHead ?_
  refine L2.walk_of (l := PySem.Challenge.rw_changehall_k25_halls_that_do_not_fit) (n := 63) (k := 13) (x := "_law_script") (CX := fun _ => L2.CX0) (sp := fun w => Cw.spLaw _) rfl (by decide) rfl ⟨rfl, by decide, by decide⟩ (fun w h Y => PySem.W.kIn_of Y) ?F (fun _ _ a ns hl _ hS => ⟨a, ns, rfl, hS, fun _ => rfl⟩) (fun _ _ _ _ _ z => z)
  case F =>
    intro w mg fa h KX G hmg
    refine' Cw.all_mk KX G hmg ?d0 ?d1 ?d2 ?d3 ?d4 ?d5 ?d6 ?d7 ?d8 ?d9 ?d10 ?d11 ?d12 ?d13 ?d14 ?d15 ?d16 ?d17 ?d18 ?d19 ?d20 ?d21 ?d22 ?d23 ?d24 ?d25 ?d26 ?d27 ?d28 ?d29 ?d30 ?d31 ?d32 ?d33 ?d34 ?d35 ?d36 ?d37 ?d38 ?d39 ?d40 ?d41 ?d42 ?d43 ?d44 ?d45 ?d46 ?d47 ?d48 ?d49 ?d50 ?d51 ?d52 ?d53 ?d54 ?d55 ?d56 ?d57 ?d58 ?d59 ?d60 ?d61 ?d62 ?d63 ?d64 ?d65 ?e0 ?e1 ?e2 ?e3 ?e4 ?e5 ?aC ?pg ?hd ?po ?sa ?mk ?kc ?n_rows ?n_kinds ?n_right ?n_behind ?nU ?nW ?nH ?sUH ?sUV ?xU ?xW ?ec ?j_KINDS ?j_BILLS ?j_LIMIT ?y_range ?y_int ?y_zip ?y_len ?y_isinstance ?y_bool ?y_list ?y_tuple ?y_abs ?y_ValueError
    (case aC => k_is)
    (case d0 => refine' Cw.Dn.mk ?a ?b ?c ?d; (case a => k_is); (case b => k_is); (case c => k_is); (case d => k_is))
    (case d1 => refine' Cw.Dn.mk ?a ?b ?c ?d; (case a => k_is); (case b => k_is); (case c => k_is); (case d => k_is))
    (case d2 => refine' Cw.Dn.mk ?a ?b ?c ?d; (case a => k_is); (case b => k_is); (case c => k_is); (case d => k_is))
    (case d3 => refine' Cw.Dn.mk ?a ?b ?c ?d; (case a => k_is); (case b => k_is); (case c => k_is); (case d => k_is))
    (case d4 => refine' Cw.Dn.mk ?a ?b ?c ?d; (case a => k_is); (case b => k_is); (case c => k_is); (case d => k_is))
    (case d5 => refine' Cw.Dn.mk ?a ?b ?c ?d; (case a => k_is); (case b => k_is); (case c => k_is); (case d => k_is))
    (case d6 => refine' Cw.Dn.mk ?a ?b ?c ?d; (case a => k_is); (case b => k_is); (case c => k_is); (case d => k_is))
    (case d7 => refine' Cw.Dn.mk ?a ?b ?c ?d; (case a => k_is); (case b => k_is); (case c => k_is); (case d => k_is))
    (case d8 => refine' Cw.Dn.mk ?a ?b ?c ?d; (case a => k_is); (case b => k_is); (case c => k_is); (case d => k_is))
    (case d9 => refine' Cw.Dn.mk ?a ?b ?c ?d; (case a => k_is); (case b => k_is); (case c => k_is); (case d => k_is))
    (case d10 => refine' Cw.Dn.mk ?a ?b ?c ?d; (case a => k_is); (case b => k_is); (case c => k_is); (case d => k_is))
    (case d11 => refine' Cw.Dn.mk ?a ?b ?c ?d; (case a => k_is); (case b => k_is); (case c => k_is); (case d => k_is))
    (case d12 => refine' Cw.Dn.mk ?a ?b ?c ?d; (case a => k_is); (case b => k_is); (case c => k_is); (case d => k_is))
    (case d13 => refine' Cw.Dn.mk ?a ?b ?c ?d; (case a => k_is); (case b => k_is); (case c => k_is); (case d => k_is))
    (case d14 => refine' Cw.Dn.mk ?a ?b ?c ?d; (case a => k_is); (case b => k_is); (case c => k_is); (case d => k_is))
    (case d15 => refine' Cw.Dn.mk ?a ?b ?c ?d; (case a => k_is); (case b => k_is); (case c => k_is); (case d => k_is))
    (case d16 => refine' Cw.Dn.mk ?a ?b ?c ?d; (case a => k_is); (case b => k_is); (case c => k_is); (case d => k_is))
    (case d17 => refine' Cw.Dn.mk ?a ?b ?c ?d; (case a => k_is); (case b => k_is); (case c => k_is); (case d => k_is))
    (case d18 => refine' Cw.Dn.mk ?a ?b ?c ?d; (case a => k_is); (case b => k_is); (case c => k_is); (case d => k_is))
    (case d19 => refine' Cw.Dn.mk ?a ?b ?c ?d; (case a => k_is); (case b => k_is); (case c => k_is); (case d => k_is))
    (case d20 => refine' Cw.Dn.mk ?a ?b ?c ?d; (case a => k_is); (case b => k_is); (case c => k_is); (case d => k_is))
    (case d21 => refine' Cw.Dn.mk ?a ?b ?c ?d; (case a => k_is); (case b => k_is); (case c => k_is); (case d => k_is))
    (case d22 => refine' Cw.Dn.mk ?a ?b ?c ?d; (case a => k_is); (case b => k_is); (case c => k_is); (case d => k_is))
    (case d23 => refine' Cw.Dn.mk ?a ?b ?c ?d; (case a => k_is); (case b => k_is); (case c => k_is); (case d => k_is))
    (case d24 => refine' Cw.Dn.mk ?a ?b ?c ?d; (case a => k_is); (case b => k_is); (case c => k_is); (case d => k_is))
    (case d25 => refine' Cw.Dn.mk ?a ?b ?c ?d; (case a => k_is); (case b => k_is); (case c => k_is); (case d => k_is))
    (case d26 => refine' Cw.Dn.mk ?a ?b ?c ?d; (case a => k_is); (case b => k_is); (case c => k_is); (case d => k_is))
    (case d27 => refine' Cw.Dn.mk ?a ?b ?c ?d; (case a => k_is); (case b => k_is); (case c => k_is); (case d => k_is))
    (case d28 => refine' Cw.Dn.mk ?a ?b ?c ?d; (case a => k_is); (case b => k_is); (case c => k_is); (case d => k_is))
    (case d29 => refine' Cw.Dn.mk ?a ?b ?c ?d; (case a => k_is); (case b => k_is); (case c => k_is); (case d => k_is))
    (case d30 => refine' Cw.Dn.mk ?a ?b ?c ?d; (case a => k_is); (case b => k_is); (case c => k_is); (case d => k_is))
    (case d31 => refine' Cw.Dn.mk ?a ?b ?c ?d; (case a => k_is); (case b => k_is); (case c => k_is); (case d => k_is))
    (case d32 => refine' Cw.Dn.mk ?a ?b ?c ?d; (case a => k_is); (case b => k_is); (case c => k_is); (case d => k_is))
    (case d33 => refine' Cw.Dn.mk ?a ?b ?c ?d; (case a => k_is); (case b => k_is); (case c => k_is); (case d => k_is))
    (case d34 => refine' Cw.Dn.mk ?a ?b ?c ?d; (case a => k_is); (case b => k_is); (case c => k_is); (case d => k_is))
    (case d35 => refine' Cw.Dn.mk ?a ?b ?c ?d; (case a => k_is); (case b => k_is); (case c => k_is); (case d => k_is))
    (case d36 => refine' Cw.Dn.mk ?a ?b ?c ?d; (case a => k_is); (case b => k_is); (case c => k_is); (case d => k_is))
    (case d37 => refine' Cw.Dn.mk ?a ?b ?c ?d; (case a => k_is); (case b => k_is); (case c => k_is); (case d => k_is))
    (case d38 => refine' Cw.Dn.mk ?a ?b ?c ?d; (case a => k_is); (case b => k_is); (case c => k_is); (case d => k_is))
    (case d39 => refine' Cw.Dn.mk ?a ?b ?c ?d; (case a => k_is); (case b => k_is); (case c => k_is); (case d => k_is))
    (case d40 => refine' Cw.Dn.mk ?a ?b ?c ?d; (case a => k_is); (case b => k_is); (case c => k_is); (case d => k_is))
    (case d41 => refine' Cw.Dn.mk ?a ?b ?c ?d; (case a => k_is); (case b => k_is); (case c => k_is); (case d => k_is))
    (case d42 => refine' Cw.Dn.mk ?a ?b ?c ?d; (case a => k_is); (case b => k_is); (case c => k_is); (case d => k_is))
    (case d43 => refine' Cw.Dn.mk ?a ?b ?c ?d; (case a => k_is); (case b => k_is); (case c => k_is); (case d => k_is))
    (case d44 => refine' Cw.Dn.mk ?a ?b ?c ?d; (case a => k_is); (case b => k_is); (case c => k_is); (case d => k_is))
    (case d45 => refine' Cw.Dn.mk ?a ?b ?c ?d; (case a => k_is); (case b => k_is); (case c => k_is); (case d => k_is))
    (case d46 => refine' Cw.Dn.mk ?a ?b ?c ?d; (case a => k_is); (case b => k_is); (case c => k_is); (case d => k_is))
    (case d47 => refine' Cw.Dn.mk ?a ?b ?c ?d; (case a => k_is); (case b => k_is); (case c => k_is); (case d => k_is))
    (case d48 => refine' Cw.Dn.mk ?a ?b ?c ?d; (case a => k_is); (case b => k_is); (case c => k_is); (case d => k_is))
    (case d49 => refine' Cw.Dn.mk ?a ?b ?c ?d; (case a => k_is); (case b => k_is); (case c => k_is); (case d => k_is))
    (case d50 => refine' Cw.Dn.mk ?a ?b ?c ?d; (case a => k_is); (case b => k_is); (case c => k_is); (case d => k_is))
    (case d51 => refine' Cw.Dn.mk ?a ?b ?c ?d; (case a => k_is); (case b => k_is); (case c => k_is); (case d => k_is))
    (case d52 => refine' Cw.Dn.mk ?a ?b ?c ?d; (case a => k_is); (case b => k_is); (case c => k_is); (case d => k_is))
    (case d53 => refine' Cw.Dn.mk ?a ?b ?c ?d; (case a => k_is); (case b => k_is); (case c => k_is); (case d => k_is))
    (case d54 => refine' Cw.Dn.mk ?a ?b ?c ?d; (case a => k_is); (case b => k_is); (case c => k_is); (case d => k_is))
    (case d55 => refine' Cw.Dn.mk ?a ?b ?c ?d; (case a => k_is); (case b => k_is); (case c => k_is); (case d => k_is))
    (case d56 => refine' Cw.Dn.mk ?a ?b ?c ?d; (case a => k_is); (case b => k_is); (case c => k_is); (case d => k_is))
    (case d57 => refine' Cw.Dn.mk ?a ?b ?c ?d; (case a => k_is); (case b => k_is); (case c => k_is); (case d => k_is))
    (case d58 => refine' Cw.Dn.mk ?a ?b ?c ?d; (case a => k_is); (case b => k_is); (case c => k_is); (case d => k_is))
    (case d59 => refine' Cw.Dn.mk ?a ?b ?c ?d; (case a => k_is); (case b => k_is); (case c => k_is); (case d => k_is))
    (case d60 => refine' Cw.Dn.mk ?a ?b ?c ?d; (case a => k_is); (case b => k_is); (case c => k_is); (case d => k_is))
    (case d61 => refine' Cw.Dn.mk ?a ?b ?c ?d; (case a => k_is); (case b => k_is); (case c => k_is); (case d => k_is))
    (case d62 => refine' Cw.Dn.mk ?a ?b ?c ?d; (case a => k_is); (case b => k_is); (case c => k_is); (case d => k_is))
    (case d63 => refine' Cw.Dn.mk ?a ?b ?c ?d; (case a => k_is); (case b => k_is); (case c => k_is); (case d => k_is))
    (case d64 => refine' Cw.Dn.mk ?a ?b ?c ?d; (case a => k_is); (case b => k_is); (case c => k_is); (case d => k_is))
    (case d65 => refine' Cw.Dn.mk ?a ?b ?c ?d; (case a => k_is); (case b => k_is); (case c => k_is); (case d => k_is))
    (case e0 => refine' Cw.Dm.mk ?a ?b ?c ?d ?e; (case a => k_is); (case b => k_is); (case c => k_is); (case d => k_is); (case e => k_is))
    (case e1 => refine' Cw.Dm.mk ?a ?b ?c ?d ?e; (case a => k_is); (case b => k_is); (case c => k_is); (case d => k_is); (case e => k_is))
    (case e2 => refine' Cw.Dm.mk ?a ?b ?c ?d ?e; (case a => k_is); (case b => k_is); (case c => k_is); (case d => k_is); (case e => k_is))
    (case e3 => refine' Cw.Dm.mk ?a ?b ?c ?d ?e; (case a => k_is); (case b => k_is); (case c => k_is); (case d => k_is); (case e => k_is))
    (case e4 => refine' Cw.Dm.mk ?a ?b ?c ?d ?e; (case a => k_is); (case b => k_is); (case c => k_is); (case d => k_is); (case e => k_is))
    (case e5 => refine' Cw.Dm.mk ?a ?b ?c ?d ?e; (case a => k_is); (case b => k_is); (case c => k_is); (case d => k_is); (case e => k_is))
    (case pg => k_is)
    (case hd => k_is)
    (case po => k_is)
    (case sa => k_is)
    (case mk => k_is)
    (case kc => k_is)
    (case n_rows => k_is)
    (case n_kinds => k_is)
    (case n_right => k_is)
    (case n_behind => k_is)
    (case nU => refine' ⟨?a, ?b, ?c, ?d, ?e, ?f⟩; (case a => k_is); (case b => k_is); (case c => k_is); (case d => k_is); (case e => k_is); (case f => first | rfl | k_is))
    (case nW => refine' ⟨?a, ?b, ?c, ?d, ?e, ?f⟩; (case a => k_is); (case b => k_is); (case c => k_is); (case d => k_is); (case e => k_is); (case f => first | rfl | k_is))
    (case nH => refine' ⟨?a, ?b, ?c, ?d, ?e, ?f⟩; (case a => k_is); (case b => k_is); (case c => k_is); (case d => k_is); (case e => k_is); (case f => first | rfl | k_is))
    (case sUH => k_is)
    (case sUV => k_is)
    (case xU => k_exc)
    (case xW => k_exc)
    (case ec => refine' ⟨?a, ?b, ?c, ?d, ?e, ?f, ?g, ?h⟩; (case a => k_is); (case b => k_is); (case c => k_is); (case d => k_is); (case e => k_is); (case f => k_is); (case g => k_is); (case h => k_is))
    (case j_KINDS => k_is)
    (case j_BILLS => k_is)
    (case j_LIMIT => k_is)
    (case y_range => k_is)
    (case y_int => k_is)
    (case y_zip => k_is)
    (case y_len => k_is)
    (case y_isinstance => k_is)
    (case y_bool => k_is)
    (case y_list => k_is)
    (case y_tuple => k_is)
    (case y_abs => k_is)
    (case y_ValueError => k_is)

