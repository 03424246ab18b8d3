/- Bytes as numbers, the greatest first, and their order: plain. -/
import Derived.Test.YtlkaehbeapmplaaP2
set_option linter.unusedSimpArgs false
set_option linter.unusedVariables false
namespace Go.Ax
open Go

def beN (xs : List Int) : Int := leN xs.reverse

theorem beN_cons (x : Int) (l : List Int) : beN (x :: l) = beN l + 256 ^ l.length * x := by
  unfold beN
  rw [List.reverse_cons, leN_append, List.length_reverse]
  simp only [leN]
  rw [Int.mul_zero, Int.add_zero]

theorem beN_append (xs ys : List Int) : beN (xs ++ ys) = beN ys + 256 ^ ys.length * beN xs := by
  unfold beN
  rw [List.reverse_append, leN_append, List.length_reverse]

theorem beN_rng {xs : List Int} (h : isBs xs) : 0 ≤ beN xs ∧ beN xs < 256 ^ xs.length := by
  have := leN_rng (isBs_rev h)
  rw [List.length_reverse] at this
  exact this

theorem beN_bytes (v : Int) (n : Nat) (hv : 0 ≤ v ∧ v < 256 ^ n) : beN (bytesI v n).reverse = v := by
  unfold beN
  rw [List.reverse_reverse, leN_bytes]
  exact Int.emod_eq_of_lt hv.1 hv.2

def gtL : List Int → List Int → Bool
  | x :: l, y :: m => decide (y < x) || (decide (x = y) && gtL l m)
  | _, _ => false

theorem gtL_self : ∀ xs : List Int, gtL xs xs = false
  | [] => rfl
  | x :: l => by simp [gtL, gtL_self l]

theorem gtL_num : ∀ {xs ys : List Int}, isBs xs → isBs ys → xs.length = ys.length → gtL xs ys = decide (beN ys < beN xs)
  | [], [], _, _, _ => by simp [gtL]
  | [], _ :: _, _, _, h => by simp at h
  | _ :: _, [], _, _, h => by simp at h
  | x :: l, y :: m, hx, hy, h => by
    have hl : l.length = m.length := by simpa using h
    have bx : isBs l := fun z hz => hx z (by simp [hz])
    have bY : isBs m := fun z hz => hy z (by simp [hz])
    have r1 := beN_rng bx
    have r2 := beN_rng bY
    rw [hl] at r1
    simp only [gtL, gtL_num bx bY hl, beN_cons, hl]
    generalize (256 : Int) ^ m.length = P at *
    rcases Int.lt_trichotomy y x with h1 | h1 | h1
    · have : P * (x - y) ≥ P * 1 := Int.mul_le_mul_of_nonneg_left (by omega) (by omega)
      rw [Int.mul_sub, Int.mul_one] at this
      simp only [h1, decide_true, Bool.true_or]
      symm; apply decide_eq_true; omega
    · subst h1
      simp
    · have : P * (y - x) ≥ P * 1 := Int.mul_le_mul_of_nonneg_left (by omega) (by omega)
      rw [Int.mul_sub, Int.mul_one] at this
      have h2 : ¬ y < x := by omega
      have h3 : ¬ x = y := by omega
      simp only [h2, h3, decide_false, Bool.false_or, Bool.false_and]
      symm; apply decide_eq_false; omega

theorem beN_inj : ∀ {xs ys : List Int}, isBs xs → isBs ys → xs.length = ys.length → (beN xs = beN ys ↔ xs = ys) := by
  intro xs ys hx hy hl
  constructor
  · intro h
    have e1 := bytes_leN (isBs_rev hx)
    have e2 := bytes_leN (isBs_rev hy)
    have h' : leN xs.reverse = leN ys.reverse := h
    rw [List.length_reverse] at e1 e2
    rw [h', hl, e2] at e1
    have := congrArg List.reverse e1
    simpa using this.symm
  · intro h; rw [h]

theorem bytesLess_gt : ∀ {xs ys : List Int}, isBs xs → isBs ys → xs.length = ys.length →
    (!(Op.bytesLess (xs.map fun n => UInt8.ofNat n.toNat) (ys.map fun n => UInt8.ofNat n.toNat) || decide (xs = ys))) = gtL xs ys
  | [], [], _, _, _ => by simp [gtL]
  | [], _ :: _, _, _, h => by simp at h
  | _ :: _, [], _, _, h => by simp at h
  | x :: l, y :: m, hx, hy, h => by
    have hl : l.length = m.length := by simpa using h
    have bx : isBs l := fun z hz => hx z (by simp [hz])
    have bY : isBs m := fun z hz => hy z (by simp [hz])
    have ih := bytesLess_gt bx bY hl
    obtain ⟨x0, x1⟩ := hx x (by simp)
    obtain ⟨y0, y1⟩ := hy y (by simp)
    have u1 : (UInt8.ofNat x.toNat).toNat = x.toNat := by rw [UInt8.toNat_ofNat']; omega
    have u2 : (UInt8.ofNat y.toNat).toNat = y.toNat := by rw [UInt8.toNat_ofNat']; omega
    simp only [List.map_cons, Op.bytesLess, gtL]
    rw [← ih]
    have c1 : decide (UInt8.ofNat x.toNat < UInt8.ofNat y.toNat) = decide (x < y) := decide_eq_decide.2 (by rw [UInt8.lt_iff_toNat_lt, u1, u2]; omega)
    have c2 : (UInt8.ofNat x.toNat == UInt8.ofNat y.toNat) = decide (x = y) := by
      rw [Bool.eq_iff_iff, beq_iff_eq, decide_eq_true_eq]
      constructor
      · intro e
        have := congrArg UInt8.toNat e
        omega
      · intro e; rw [e]
    rw [c1, c2]
    rcases Int.lt_trichotomy y x with h1 | h1 | h1
    · have h2 : ¬ x < y := by omega
      have h3 : ¬ x = y := by omega
      simp [h1, h2, h3]
    · subst h1
      simp
    · have h2 : ¬ y < x := by omega
      have h3 : ¬ x = y := by omega
      simp [h1, h2, h3]

theorem toList_ofBs (xs : List Int) : (ofBs xs).toList = xs.map fun n => UInt8.ofNat n.toNat := by
  unfold ofBs
  rw [ByteArray.toList_eq]

end Go.Ax
