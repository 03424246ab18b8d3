/- Numbers and their bytes: plain. -/
import Derived.Test.YtlkaehbeapmplaaAxb
set_option linter.unusedSimpArgs false
set_option linter.unusedVariables false
namespace Go.Ax
open Go

def leN : List Int → Int
  | [] => 0
  | x :: l => x + 256 * leN l

def bytesI : Int → Nat → List Int
  | _, 0 => []
  | v, n + 1 => v % 256 :: bytesI (v / 256) n

def isBs (xs : List Int) : Prop := ∀ x ∈ xs, 0 ≤ x ∧ x ≤ 255

theorem isBs_drop {xs : List Int} (h : isBs xs) (k : Nat) : isBs (xs.drop k) := fun x hx => h x (List.mem_of_mem_drop hx)
theorem isBs_take {xs : List Int} (h : isBs xs) (k : Nat) : isBs (xs.take k) := fun x hx => h x (List.mem_of_mem_take hx)
theorem isBs_rev {xs : List Int} (h : isBs xs) : isBs xs.reverse := fun x hx => h x (List.mem_reverse.1 hx)
theorem isBs_at {xs : List Int} (h : isBs xs) {j : Nat} (hj : j < xs.length) : 0 ≤ xs.getD j 0 ∧ xs.getD j 0 ≤ 255 := by
  rw [List.getD_eq_getElem?_getD, List.getElem?_eq_getElem hj]; exact h _ (List.getElem_mem hj)

theorem leN_rng : ∀ {xs : List Int}, isBs xs → 0 ≤ leN xs ∧ leN xs < 256 ^ xs.length
  | [], _ => by simp [leN]
  | x :: l, h => by
    obtain ⟨h1, h2⟩ := leN_rng (xs := l) fun y hy => h y (by simp [hy])
    obtain ⟨h3, h4⟩ := h x (by simp)
    simp only [leN, List.length_cons, Int.pow_succ]
    omega

theorem leN_append : ∀ (xs ys : List Int), leN (xs ++ ys) = leN xs + 256 ^ xs.length * leN ys
  | [], ys => by simp [leN]
  | x :: l, ys => by
    simp only [List.cons_append, leN, leN_append l ys, List.length_cons, Int.pow_succ, Int.mul_add]
    rw [Int.mul_comm (256 ^ l.length) 256, Int.mul_assoc]
    omega

theorem drop_at {xs : List Int} {j : Nat} (h : j < xs.length) : xs.drop j = xs.getD j 0 :: xs.drop (j + 1) := by
  rw [List.drop_eq_getElem_cons h, List.getD_eq_getElem?_getD, List.getElem?_eq_getElem h]; rfl

theorem take_at {xs : List Int} {j : Nat} (h : j < xs.length) : xs.take (j + 1) = xs.take j ++ [xs.getD j 0] := by
  rw [List.take_succ_eq_append_getElem h, List.getD_eq_getElem?_getD, List.getElem?_eq_getElem h]; rfl

theorem pow_le8 {n : Nat} (h : n ≤ 8) : (256 : Int) ^ n ≤ 18446744073709551616 := by
  have : n = 0 ∨ n = 1 ∨ n = 2 ∨ n = 3 ∨ n = 4 ∨ n = 5 ∨ n = 6 ∨ n = 7 ∨ n = 8 := by omega
  rcases this with rfl | rfl | rfl | rfl | rfl | rfl | rfl | rfl | rfl <;> decide

theorem leN_u64 {xs : List Int} (h : isBs xs) (hl : xs.length ≤ 8) : 0 ≤ leN xs ∧ leN xs ≤ 18446744073709551615 := by
  have h1 := leN_rng h
  have h2 := pow_le8 hl
  omega

theorem pow2_256 (i : Nat) : (2 : Int) ^ (8 * i) = 256 ^ i := by
  rw [Int.pow_mul]; rfl

/-- Byte for byte, the least first. -/
theorem or_le {xs : List Int} (h : isBs xs) {i : Nat} (hi : i < xs.length) (h8 : i < 8) :
    bitsI .or .u64 (leN (xs.take i)) (xs.getD i 0 * 2 ^ (8 * i) % 18446744073709551616) = leN (xs.take (i + 1)) := by
  have hb := isBs_at h hi
  have hr := leN_rng (isBs_take h i)
  have hl : (xs.take i).length = i := by simp; omega
  rw [hl] at hr
  rw [take_at hi, leN_append, hl, pow2_256]
  have hp : (256 : Int) ^ (i + 1) ≤ 18446744073709551616 := pow_le8 (by omega)
  rw [Int.pow_succ] at hp
  have h0 : (0 : Int) < 256 ^ i := Int.pow_pos (by decide)
  generalize xs.getD i 0 = b at *
  generalize leN (xs.take i) = v at *
  have e256 : (256 : Int) ^ i = ((2 ^ (8 * i) : Nat) : Int) := by rw [← pow2_256]; simp
  have hm : b * 256 ^ i ≤ 255 * 256 ^ i := Int.mul_le_mul_of_nonneg_right (by omega) (by omega)
  have hm0 : 0 ≤ b * 256 ^ i := Int.mul_nonneg (by omega) (by omega)
  rw [Int.emod_eq_of_lt hm0 (by omega)]
  have hn : b * 256 ^ i = ((2 ^ (8 * i) * b.toNat : Nat) : Int) := by
    rw [e256, Int.natCast_mul, Int.toNat_of_nonneg hb.1, Int.mul_comm]
  rw [(or_add (k := .u64) rfl (x := v) (y := b * 256 ^ i) (8 * i) b.toNat (by omega) hn (by show _ < 18446744073709551616; omega)).1]
  show v + b * 256 ^ i = v + 256 ^ i * (b + 256 * 0)
  rw [Int.mul_zero, Int.add_zero, Int.mul_comm]

/-- Byte behind byte, the greatest first. -/
theorem or_be {xs : List Int} (h : isBs xs) {i : Nat} (hi : i < xs.length) (h8 : i < 8) :
    bitsI .or .u64 (leN (xs.take i).reverse * 256 % 18446744073709551616) (xs.getD i 0) = leN (xs.take (i + 1)).reverse := by
  have hb := isBs_at h hi
  have hr := leN_rng (isBs_rev (isBs_take h i))
  have hl : (xs.take i).reverse.length = i := by simp; omega
  rw [hl] at hr
  have hp : (256 : Int) ^ (i + 1) ≤ 18446744073709551616 := pow_le8 (by omega)
  rw [Int.pow_succ] at hp
  rw [take_at hi, List.reverse_append]
  show _ = xs.getD i 0 + 256 * leN (xs.take i).reverse
  generalize xs.getD i 0 = b at *
  generalize leN (xs.take i).reverse = v at *
  rw [Int.emod_eq_of_lt (by omega) (by omega), (or_add (k := .u64) rfl (x := b) (y := v * 256) 8 v.toNat (by omega) (by omega) (by show _ < 18446744073709551616; omega)).2]
  omega

theorem bytesI_len : ∀ (v : Int) (n : Nat), (bytesI v n).length = n
  | _, 0 => rfl
  | v, n + 1 => by simp [bytesI, bytesI_len]

theorem bytesI_isBs : ∀ (v : Int) (n : Nat), isBs (bytesI v n)
  | _, 0 => fun x h => by simp [bytesI] at h
  | v, n + 1 => fun x h => by
    simp only [bytesI, List.mem_cons] at h
    rcases h with rfl | h
    · omega
    · exact bytesI_isBs (v / 256) n x h

theorem bytesI_snoc : ∀ (v : Int) (n : Nat), bytesI v (n + 1) = bytesI v n ++ [v / 256 ^ n % 256]
  | v, 0 => by simp [bytesI]
  | v, n + 1 => by
    show v % 256 :: bytesI (v / 256) (n + 1) = v % 256 :: (bytesI (v / 256) n ++ _)
    rw [bytesI_snoc (v / 256) n, Int.ediv_ediv_of_nonneg (by decide), Int.pow_succ, Int.mul_comm 256]

theorem leN_bytes : ∀ (v : Int) (n : Nat), leN (bytesI v n) = v % 256 ^ n
  | v, 0 => by simp [bytesI, leN, Int.emod_one]
  | v, n + 1 => by
    simp only [bytesI, leN, leN_bytes (v / 256) n]
    rw [Int.pow_succ, Int.mul_comm (256 ^ n) 256]
    have h := Int.emod_emod_of_dvd v (Int.dvd_mul_right 256 (256 ^ n))
    have hp : (0 : Int) < 256 ^ n := Int.pow_pos (by decide)
    have e2 : v % (256 * 256 ^ n) / 256 = v / 256 % 256 ^ n := by
      rw [Int.emod_def, Int.emod_def, ← Int.ediv_ediv_of_nonneg (by decide : (0 : Int) ≤ 256), Int.mul_assoc]
      omega
    omega

theorem bytes_leN : ∀ {xs : List Int}, isBs xs → bytesI (leN xs) xs.length = xs
  | [], _ => rfl
  | x :: l, h => by
    have h1 := h x (by simp)
    have h2 : isBs l := fun y hy => h y (by simp [hy])
    simp only [leN, List.length_cons, bytesI]
    rw [show (x + 256 * leN l) / 256 = leN l by omega, bytes_leN h2, show (x + 256 * leN l) % 256 = x by omega]

theorem bytesI_getD (v : Int) (n i : Nat) (h : i < n) : (bytesI v n).getD i 0 = v / 256 ^ i % 256 := by
  induction n generalizing v i with
  | zero => omega
  | succ n ih =>
    cases i with
    | zero => simp [bytesI]
    | succ i =>
      show (bytesI (v / 256) n).getD i 0 = _
      rw [ih _ _ (by omega), Int.ediv_ediv_of_nonneg (by decide), Int.pow_succ, Int.mul_comm 256]

end Go.Ax
