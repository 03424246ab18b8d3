/- Sums of numbers of two bytes, carried round. -/
import Derived.Test.YtlkaehbeapmplaaP3
set_option linter.unusedSimpArgs false
set_option linter.unusedVariables false
namespace Go.Ax

def sumW (i : Nat) : List Int → Int
  | [] => 0
  | x :: l => (if i % 2 = 0 then 256 * x else x) + sumW (i + 1) l
def sumE (n : Int) : Int := if n = 0 then 0 else (n - 1) % 65535 + 1

theorem sumW_par : ∀ (xs : List Int) (i j : Nat), i % 2 = j % 2 → sumW i xs = sumW j xs
  | [], _, _, _ => rfl
  | x :: l, i, j, h => by
    unfold sumW
    rw [sumW_par l (i + 1) (j + 1) (by omega), h]
theorem sumW_append : ∀ (xs ys : List Int) (i : Nat), sumW i (xs ++ ys) = sumW i xs + sumW (i + xs.length) ys
  | [], ys, i => by simp [sumW]
  | x :: l, ys, i => by
    show _ + sumW (i + 1) (l ++ ys) = (_ + sumW (i + 1) l) + _
    rw [sumW_append l ys (i + 1), List.length_cons, show i + 1 + l.length = i + (l.length + 1) by omega]
    omega
theorem sumW_rng : ∀ {xs : List Int}, isBs xs → ∀ i : Nat, 0 ≤ sumW i xs ∧ sumW i xs ≤ 65280 * xs.length
  | [], _, _ => by simp [sumW]
  | x :: l, h, i => by
    have h0 := h x (by simp)
    have h1 := sumW_rng (xs := l) (fun z hz => h z (by simp [hz])) (i + 1)
    unfold sumW
    rw [List.length_cons]
    split <;> omega
theorem sumW_take {xs : List Int} {i : Nat} (h : i < xs.length) : sumW 0 (xs.take (i + 1)) = sumW 0 (xs.take i) + (if i % 2 = 0 then 256 * xs.getD i 0 else xs.getD i 0) := by
  have e : xs.take (i + 1) = xs.take i ++ [xs.getD i 0] := by
    rw [List.take_succ_eq_append_getElem h]
    simp [List.getD_eq_getElem?_getD, h]
  rw [e, sumW_append]
  have hl : (xs.take i).length = i := by simp; omega
  rw [hl]
  simp [sumW]

theorem sumE_rng {n : Int} (h : 0 ≤ n) : 0 ≤ sumE n ∧ sumE n ≤ 65535 := by
  unfold sumE
  split <;> omega
theorem sumE_fold {n : Int} (h : 0 ≤ n) : sumE (n % 65536 + n / 65536) = sumE n := by
  unfold sumE
  split <;> split <;> omega
theorem sumE_id {n : Int} (h : 0 ≤ n ∧ n ≤ 65535) : sumE n = n := by
  unfold sumE
  split <;> omega
theorem sumE_add {a b : Int} (ha : 0 ≤ a) (hb : 0 ≤ b) : sumE (sumE a + sumE b) = sumE (a + b) := by
  unfold sumE
  repeat' split
  all_goals omega
theorem sumE_step {a v : Int} (ha : 0 ≤ a) (hv : 0 ≤ v ∧ v ≤ 65535) : sumE (a + v) = if 65535 < sumE a + v then sumE a + v - 65535 else sumE a + v := by
  have h1 := sumE_rng ha
  rw [← sumE_add ha hv.1, sumE_id (n := v) hv]
  unfold sumE
  unfold sumE at h1
  repeat' split
  all_goals (repeat' split at *)
  all_goals omega

end Go.Ax
