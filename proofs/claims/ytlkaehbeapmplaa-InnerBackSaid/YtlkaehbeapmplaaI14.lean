/- Contracts of functions of the program, walked over abstract values. -/
import Derived.Test.YtlkaehbeapmplaaI12
set_option linter.unusedSimpArgs false
set_option linter.unusedVariables false
namespace Go.Proofs.Ytlkaehbeapmplaa.Ax
open Go Go.Ax Go.Proofs
attribute [local irreducible] Chk Bnd Str Kn Drw nm nmN askB SeqP LoopP FinW Ctr.spec Go.Ax.Sub IdE

theorem getD_pre {xs ys : List Int} {N i : Nat} (h : ys.take N = xs.take N) (hi : i < N) : ys.getD i 0 = xs.getD i 0 := by
  have e : (ys.take N)[i]? = (xs.take N)[i]? := by rw [h]
  rw [List.getElem?_take, List.getElem?_take, if_pos hi, if_pos hi] at e
  rw [List.getD_eq_getElem?_getD, List.getD_eq_getElem?_getD, e]
theorem take_pre {xs ys : List Int} {N i : Nat} (h : ys.take N = xs.take N) (hi : i ≤ N) : ys.take i = xs.take i := by
  have e : (ys.take N).take i = (xs.take N).take i := by rw [h]
  rw [List.take_take, List.take_take, Nat.min_eq_left hi] at e
  exact e
theorem addr_pre {xs ys : List Int} {N i k : Nat} (h : ys.take N = xs.take N) (hi : i + k ≤ N) : addrI ys i k = addrI xs i k := by
  have e := take_pre h hi
  unfold addrI
  rw [List.take_drop, List.take_drop, e]
theorem short_pre {xs ys : List Int} (hs : shortP xs) (h : ys.take (n2 xs 2).toNat = xs.take (n2 xs 2).toNat) (hl : n2 xs 2 ≤ ys.length) : shortP ys ∧ n2 ys 2 = n2 xs 2 ∧ addrI ys 12 4 = addrI xs 12 4 ∧ addrI ys 16 4 = addrI xs 16 4 ∧ ver ys = ver xs := by
  obtain ⟨h1, h2, h3, h4, h5⟩ := hs
  have e0 := getD_pre h (i := 0) (by omega)
  have e2 := getD_pre h (i := 2) (by omega)
  have e3 := getD_pre h (i := 3) (by omega)
  have eh : hd ys = hd xs := by unfold hd; rw [e0]
  have en : n2 ys 2 = n2 xs 2 := by unfold n2; rw [e2, e3]
  refine ⟨⟨by omega, by omega, by omega, by omega, ?_⟩, en, addr_pre h (by omega), addr_pre h (by omega), by unfold ver; rw [e0]⟩
  rw [eh, take_pre h (by omega)]; exact h5
theorem long_pre {xs ys : List Int} (hb : isBs xs) (hs : longP xs) (h : ys.take (n2 xs 4 + 40).toNat = xs.take (n2 xs 4 + 40).toNat) (hl : n2 xs 4 + 40 ≤ ys.length) : longP ys ∧ n2 ys 4 = n2 xs 4 ∧ addrI ys 8 16 = addrI xs 8 16 ∧ addrI ys 24 16 = addrI xs 24 16 ∧ ver ys = ver xs := by
  obtain ⟨h1, h2⟩ := hs
  have h3 := n2_rng hb (i := 4) (by omega)
  have e0 := getD_pre h (i := 0) (by omega)
  have e2 := getD_pre h (i := 4) (by omega)
  have e3 := getD_pre h (i := 5) (by omega)
  have en : n2 ys 4 = n2 xs 4 := by unfold n2; rw [e2, e3]
  exact ⟨⟨by omega, by omega⟩, en, addr_pre h (by omega), addr_pre h (by omega), by unfold ver; rw [e0]⟩
/-- What stands behind a packet is of no matter. -/
theorem read_pre {xs ys : List Int} (hb : isBs xs) (he : rE xs = 0) (h : ys.take (rN xs).toNat = xs.take (rN xs).toNat) (hl : rN xs ≤ ys.length) : rS ys = rS xs ∧ rF ys = rF xs ∧ rT ys = rT xs ∧ rN ys = rN xs ∧ rE ys = 0 ∧ 20 ≤ rN xs := by
  by_cases h0 : xs.length = 0
  · obtain ⟨_, _, _, e4, e5⟩ := r_0 h0
    omega
  · by_cases h4 : ver xs = 4
    · obtain ⟨a1, a2, a3, a4, a5⟩ := r_4 h0 h4
      by_cases hs : shortP xs
      · obtain ⟨f1, f2, f3, f4⟩ := s_yes hs
        rw [a4, f3] at h hl
        obtain ⟨q1, q2, q3, q4, q5⟩ := short_pre hs h hl
        have k1 := hs.2.1; have k2 := hs.2.2.1
        obtain ⟨c1, c2, c3, c4, c5⟩ := r_4 (xs := ys) (by omega) (by omega)
        obtain ⟨g1, g2, g3, g4⟩ := s_yes q1
        rw [a1, a2, a3, a4, c1, c2, c3, c4, c5, f1, f2, f3, g1, g2, g3, g4, q2, q3, q4]
        exact ⟨rfl, rfl, rfl, rfl, rfl, by omega⟩
      · obtain ⟨_, _, f3, f4⟩ := s_no hs
        split at f4 <;> omega
    · by_cases h6 : ver xs = 6
      · obtain ⟨a1, a2, a3, a4, a5⟩ := r_6 h0 h6
        by_cases hs : longP xs
        · obtain ⟨f1, f2, f3, f4, f5⟩ := l_yes hs
          rw [a4, f3] at h hl
          obtain ⟨q1, q2, q3, q4, q5⟩ := long_pre hb hs h hl
          have k1 := hs.1; have k2 := hs.2
          have k3 := n2_rng hb (i := 4) (by omega)
          obtain ⟨c1, c2, c3, c4, c5⟩ := r_6 (xs := ys) (by omega) (by omega)
          obtain ⟨g1, g2, g3, g4, g5⟩ := l_yes q1
          rw [a1, a2, a3, a4, c1, c2, c3, c4, c5, f1, f2, f3, f5, g1, g2, g3, g4, g5, q2, q3, q4]
          exact ⟨rfl, rfl, rfl, rfl, rfl, by omega⟩
        · obtain ⟨_, _, f3, f4, _⟩ := l_no hs
          split at f4 <;> omega
      · obtain ⟨_, _, _, e4, e5⟩ := r_x h0 h4 h6
        omega
theorem read_no {xs : List Int} (he : rE xs ≠ 0) : rS xs = false ∧ rF xs = zs16 ∧ rT xs = zs16 ∧ rN xs = 0 := by
  by_cases h0 : xs.length = 0
  · obtain ⟨a1, a2, a3, a4, a5⟩ := r_0 h0
    exact ⟨a1, a2, a3, a4⟩
  · by_cases h4 : ver xs = 4
    · obtain ⟨a1, a2, a3, a4, a5⟩ := r_4 h0 h4
      by_cases hs : shortP xs
      · have := (s_yes hs).2.2.2; omega
      · obtain ⟨f1, f2, f3, _⟩ := s_no hs
        rw [a1, a2, a3, a4, f1, f2, f3]; exact ⟨rfl, rfl, rfl, rfl⟩
    · by_cases h6 : ver xs = 6
      · obtain ⟨a1, a2, a3, a4, a5⟩ := r_6 h0 h6
        by_cases hs : longP xs
        · have := (l_yes hs).2.2.2.1; omega
        · obtain ⟨f1, f2, f3, _, f5⟩ := l_no hs
          rw [a1, a2, a3, a4, f1, f2, f3, f5]; exact ⟨rfl, rfl, rfl, rfl⟩
      · obtain ⟨a1, a2, a3, a4, a5⟩ := r_x h0 h4 h6
        exact ⟨a1, a2, a3, a4⟩

end Go.Proofs.Ytlkaehbeapmplaa.Ax
