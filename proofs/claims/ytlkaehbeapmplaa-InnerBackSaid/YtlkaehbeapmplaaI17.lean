/- Contracts of functions of the program, walked over abstract values. -/
import Derived.Test.YtlkaehbeapmplaaI16
set_option linter.unusedSimpArgs false
set_option linter.unusedVariables false
namespace Go.Proofs.Ytlkaehbeapmplaa.Ax
open Go Go.Ax Go.Proofs
attribute [local irreducible] Chk Bnd Str Kn Drw nm nmN askB SeqP LoopP FinW Ctr.spec Go.Ax.Sub IdE

theorem sumW_set : ∀ (xs : List Int) (i j : Nat) (v : Int), i < xs.length → sumW j (xs.set i v) = sumW j xs + (v - xs.getD i 0) * (if (j + i) % 2 = 0 then 256 else 1)
  | [], i, _, _, h => by simp at h
  | x :: l, 0, j, v, _ => by
    show (if j % 2 = 0 then 256 * v else v) + sumW (j + 1) l = (if j % 2 = 0 then 256 * x else x) + sumW (j + 1) l + (v - x) * (if (j + 0) % 2 = 0 then 256 else 1)
    by_cases hj : j % 2 = 0
    · rw [if_pos hj, if_pos hj, if_pos (by omega)]; omega
    · rw [if_neg hj, if_neg hj, if_neg (by omega)]; omega
  | x :: l, i + 1, j, v, h => by
    have ih := sumW_set l i (j + 1) v (by simpa using h)
    rw [show j + 1 + i = j + (i + 1) by omega] at ih
    show (if j % 2 = 0 then 256 * x else x) + sumW (j + 1) (l.set i v) = (if j % 2 = 0 then 256 * x else x) + sumW (j + 1) l + (v - l.getD i 0) * (if (j + (i + 1)) % 2 = 0 then 256 else 1)
    rw [ih]; omega
theorem head_sum (f t : List Int) (n : Int) {c : Int} (h : 0 ≤ c) : sumW 0 (headI f t n c) = sumW 0 (headI f t n 0) + c := by
  simp only [headI, sumW]
  generalize sumW _ (f.take 4 ++ t.take 4) = Z
  simp
  omega
theorem head_ok {f t : List Int} {n : Int} (hh : isBs (headI f t n 0)) : sumE (sumW 0 (headI f t n (ckI f t n))) = 65535 := by
  have h0 := (sumW_rng hh 0).1
  have h1 := sumE_rng h0
  have hc : 0 ≤ ckI f t n ∧ ckI f t n ≤ 65535 := by unfold ckI; omega
  rw [head_sum f t n hc.1, sumE_step h0 hc]
  have : sumE (sumW 0 (headI f t n 0)) + ckI f t n = 65535 := by unfold ckI; omega
  rw [if_neg (by omega), this]
theorem turn_sum {H : List Int} {i : Nat} {v : Int} (hb : isBs H) (hi : i < H.length) (hv : 0 ≤ v ∧ v ≤ 255) (hn : v ≠ H.getD i 0) (h : sumE (sumW 0 H) = 65535) : sumE (sumW 0 (H.set i v)) ≠ 65535 := by
  have h0 := (sumW_rng hb 0).1
  have hx := bs_at hb hi
  have hbs : isBs (H.set i v) := by
    intro z hz
    rcases List.mem_or_eq_of_mem_set hz with h | h
    · exact hb z h
    · omega
  have h1 := (sumW_rng hbs 0).1
  have e := sumW_set H i 0 v hi
  generalize sumW 0 H = S at *
  generalize sumW 0 (H.set i v) = S' at *
  generalize H.getD i 0 = x at *
  unfold sumE at *
  split at e <;> (repeat' split at h) <;> (repeat' split) <;> omega
theorem xor_ne {x y : Int} (hx : 0 ≤ x ∧ x ≤ 255) (hy : 0 ≤ y ∧ y ≤ 255) (h : y ≠ 0) : bitsI .xor .u8 x y ≠ x := by
  obtain ⟨a, rfl⟩ := Int.eq_ofNat_of_zero_le hx.1
  obtain ⟨b, rfl⟩ := Int.eq_ofNat_of_zero_le hy.1
  rw [(bitsN (k := .u8) rfl a b (show a < 256 by omega) (show b < 256 by omega)).2.2]
  intro e
  have e1 : a ^^^ b = a := by omega
  have e2 : a ^^^ (a ^^^ b) = b := by rw [← Nat.xor_assoc, Nat.xor_self, Nat.zero_xor]
  rw [e1, Nat.xor_self] at e2
  omega
/-- A header that is turned is none. -/
theorem turned {f t xs : List Int} {n : Int} {i : Nat} {v : Int} (hl : (headI f t n (ckI f t n)).length = 20) (hb : isBs (headI f t n (ckI f t n))) (h0 : isBs (headI f t n 0)) (hi : 1 ≤ i ∧ i ≤ 19) (hv : 0 ≤ v ∧ v ≤ 255) (hn : v ≠ (headI f t n (ckI f t n) ++ xs).getD i 0) : rE ((headI f t n (ckI f t n) ++ xs).set i v) = 50 := by
  have hs := head_ok h0
  have e0 : ((headI f t n (ckI f t n) ++ xs).set i v).getD 0 0 = 69 := by
    rw [List.getD_eq_getElem?_getD, List.getElem?_set_ne (by omega)]; rfl
  have et : ((headI f t n (ckI f t n) ++ xs).set i v).take 20 = (headI f t n (ckI f t n)).set i v := by
    rw [List.take_set, List.take_left' hl]
  have eg : (headI f t n (ckI f t n) ++ xs).getD i 0 = (headI f t n (ckI f t n)).getD i 0 := by
    rw [List.getD_eq_getElem?_getD, List.getD_eq_getElem?_getD, List.getElem?_append_left (by omega)]
  have hlen : ((headI f t n (ckI f t n) ++ xs).set i v).length = 20 + xs.length := by rw [List.length_set, List.length_append, hl]
  rw [eg] at hn
  have ht := turn_sum hb (by omega : i < (headI f t n (ckI f t n)).length) hv hn hs
  generalize (headI f t n (ckI f t n) ++ xs).set i v = b at *
  have hns : ¬ shortP b := by
    intro hp
    apply ht
    have := hp.2.2.2.2
    rw [show (hd b).toNat = 20 by unfold hd; rw [e0]; rfl, et] at this
    exact this
  have h4 : ver b = 4 := by unfold ver; rw [e0]; rfl
  rw [(r_4 (xs := b) (by omega) h4).2.2.2.2, (s_no hns).2.2.2, if_neg (by omega)]

end Go.Proofs.Ytlkaehbeapmplaa.Ax
