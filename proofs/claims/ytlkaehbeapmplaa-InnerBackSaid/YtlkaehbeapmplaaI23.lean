/- Contracts of functions of the program, walked over abstract values. -/
import Derived.Test.YtlkaehbeapmplaaI22
set_option linter.unusedSimpArgs false
set_option linter.unusedVariables false
namespace Go.Proofs.Ytlkaehbeapmplaa.Ax
open Go Go.Ax Go.Proofs
attribute [local irreducible] Chk Bnd Str Kn Drw nm nmN askB SeqP LoopP FinW Ctr.spec Go.Ax.Sub IdE

theorem h6_bs {f t : List Int} {m : Int} (bf : isBs f) (bt : isBs t) (hm : 0 ≤ m ∧ m ≤ 65535) : isBs (head6 f t m) := by
  intro z hz
  simp only [head6, List.mem_append, List.mem_cons, List.not_mem_nil, or_false] at hz
  rcases hz with ((rfl | rfl | rfl | rfl | rfl | rfl | rfl | rfl) | hz) | hz
  all_goals first | omega | exact bf z hz | exact bt z hz
theorem rep_bs (k : Nat) : isBs (List.replicate k 0) := fun z hz => by have := List.eq_of_mem_replicate hz; omega
theorem back6 {f t xs zs : List Int} {m : Nat} (hf : f.length = 16) (ht : t.length = 16) (hl : xs.length = m) : rS (head6 f t m ++ xs ++ zs) = true ∧ rF (head6 f t m ++ xs ++ zs) = f ∧ rT (head6 f t m ++ xs ++ zs) = t ∧ rN (head6 f t m ++ xs ++ zs) = m + 40 ∧ rE (head6 f t m ++ xs ++ zs) = 0 := by
  have hlen : (head6 f t m ++ xs ++ zs).length = 40 + m + zs.length := by rw [List.length_append, List.length_append, h6_len hf ht, hl]
  obtain ⟨a0, a1, a2, a3, a4, a5, a6, a7, a8, a9, b0, b1, b2, b3, b4, b5, rfl⟩ := all16 hf
  obtain ⟨c0, c1, c2, c3, c4, c5, c6, c7, c8, c9, d0, d1, d2, d3, d4, d5, rfl⟩ := all16 ht
  have hv : ver (head6 [a0, a1, a2, a3, a4, a5, a6, a7, a8, a9, b0, b1, b2, b3, b4, b5] [c0, c1, c2, c3, c4, c5, c6, c7, c8, c9, d0, d1, d2, d3, d4, d5] m ++ xs ++ zs) = 6 := rfl
  have hn : n2 (head6 [a0, a1, a2, a3, a4, a5, a6, a7, a8, a9, b0, b1, b2, b3, b4, b5] [c0, c1, c2, c3, c4, c5, c6, c7, c8, c9, d0, d1, d2, d3, d4, d5] m ++ xs ++ zs) 4 = m := by
    show 256 * ((m : Int) / 256) + (m : Int) % 256 = m
    omega
  have e1 : addrI (head6 [a0, a1, a2, a3, a4, a5, a6, a7, a8, a9, b0, b1, b2, b3, b4, b5] [c0, c1, c2, c3, c4, c5, c6, c7, c8, c9, d0, d1, d2, d3, d4, d5] m ++ xs ++ zs) 8 16 = [a0, a1, a2, a3, a4, a5, a6, a7, a8, a9, b0, b1, b2, b3, b4, b5] := rfl
  have e2 : addrI (head6 [a0, a1, a2, a3, a4, a5, a6, a7, a8, a9, b0, b1, b2, b3, b4, b5] [c0, c1, c2, c3, c4, c5, c6, c7, c8, c9, d0, d1, d2, d3, d4, d5] m ++ xs ++ zs) 24 16 = [c0, c1, c2, c3, c4, c5, c6, c7, c8, c9, d0, d1, d2, d3, d4, d5] := rfl
  generalize head6 [a0, a1, a2, a3, a4, a5, a6, a7, a8, a9, b0, b1, b2, b3, b4, b5] [c0, c1, c2, c3, c4, c5, c6, c7, c8, c9, d0, d1, d2, d3, d4, d5] m ++ xs ++ zs = C at *
  have hp : longP C := ⟨by omega, by omega⟩
  obtain ⟨r1, r2, r3, r4, r5⟩ := r_6 (xs := C) (by omega) hv
  obtain ⟨l1, l2, l3, l4, l5⟩ := l_yes hp
  exact ⟨by rw [r1, l5], by rw [r2, l1, e1], by rw [r3, l2, e2], by rw [r4, l3, hn], by rw [r5, l4]⟩
theorem addr4 {f : List Int} (h : rightB false f = true) : f.take 4 ++ List.replicate 12 0 = f := by
  have : f.drop 4 = List.replicate 12 0 := by simpa [rightB] using h
  rw [← this, List.take_append_drop]
theorem back4 {f t xs zs : List Int} {m : Nat} (hf : f.length = 16 ∧ isBs f) (ht : t.length = 16 ∧ isBs t) (hl : xs.length = m) (hm : m ≤ 1480) (rf : rightB false f = true) (rt : rightB false t = true) :
    rS (headI f t ((m : Int) + 20) (ckI f t ((m : Int) + 20)) ++ xs ++ zs) = false ∧ rF (headI f t ((m : Int) + 20) (ckI f t ((m : Int) + 20)) ++ xs ++ zs) = f ∧ rT (headI f t ((m : Int) + 20) (ckI f t ((m : Int) + 20)) ++ xs ++ zs) = t ∧ rN (headI f t ((m : Int) + 20) (ckI f t ((m : Int) + 20)) ++ xs ++ zs) = m + 20 ∧ rE (headI f t ((m : Int) + 20) (ckI f t ((m : Int) + 20)) ++ xs ++ zs) = 0 := by
  have b0 := head_bs (n := (m : Int) + 20) (c := 0) hf.2 ht.2 (by omega) (by omega)
  have hs := head_ok b0
  have h20 := headI_len hf.1 ht.1 ((m : Int) + 20) (ckI f t ((m : Int) + 20))
  have hlen : (headI f t ((m : Int) + 20) (ckI f t ((m : Int) + 20)) ++ xs ++ zs).length = 20 + m + zs.length := by rw [List.length_append, List.length_append, h20, hl]
  have et : (headI f t ((m : Int) + 20) (ckI f t ((m : Int) + 20)) ++ xs ++ zs).take 20 = headI f t ((m : Int) + 20) (ckI f t ((m : Int) + 20)) := by rw [List.append_assoc, List.take_left' h20]
  have hn : n2 (headI f t ((m : Int) + 20) (ckI f t ((m : Int) + 20)) ++ xs ++ zs) 2 = m + 20 := by
    show 256 * (((m : Int) + 20) / 256) + ((m : Int) + 20) % 256 = m + 20
    omega
  have e1 : addrI (headI f t ((m : Int) + 20) (ckI f t ((m : Int) + 20)) ++ xs ++ zs) 12 4 = f := by
    obtain ⟨f0, f1, f2, f3, f', rfl, hf'⟩ := len16 hf.1
    exact addr4 rf
  have e2 : addrI (headI f t ((m : Int) + 20) (ckI f t ((m : Int) + 20)) ++ xs ++ zs) 16 4 = t := by
    obtain ⟨f0, f1, f2, f3, f', rfl, hf'⟩ := len16 hf.1
    obtain ⟨t0, t1, t2, t3, t', rfl, ht'⟩ := len16 ht.1
    exact addr4 rt
  have e0 : (headI f t ((m : Int) + 20) (ckI f t ((m : Int) + 20)) ++ xs ++ zs).getD 0 0 = 69 := rfl
  rw [← et] at hs
  generalize headI f t ((m : Int) + 20) (ckI f t ((m : Int) + 20)) ++ xs ++ zs = C at *
  have hh : hd C = 20 := by unfold hd; rw [e0]; rfl
  have hp : shortP C := ⟨by omega, by omega, by omega, by omega, by rw [hh]; exact hs⟩
  obtain ⟨r1, r2, r3, r4, r5⟩ := r_4 (xs := C) (by omega) (by unfold ver; rw [e0]; rfl)
  obtain ⟨l1, l2, l3, l4⟩ := s_yes hp
  exact ⟨r1, by rw [r2, l1, e1], by rw [r3, l2, e2], by rw [r4, l3, hn], by rw [r5, l4]⟩

end Go.Proofs.Ytlkaehbeapmplaa.Ax
