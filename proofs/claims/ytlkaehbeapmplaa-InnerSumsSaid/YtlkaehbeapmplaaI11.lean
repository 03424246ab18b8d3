/- Contracts of functions of the program, walked over abstract values. -/
import Derived.Test.YtlkaehbeapmplaaI10
set_option linter.unusedSimpArgs false
set_option linter.unusedVariables false
namespace Go.Proofs.Ytlkaehbeapmplaa.Ax
open Go Go.Ax Go.Proofs
attribute [local irreducible] Chk Bnd Str Kn Drw nm nmN askB SeqP LoopP FinW Ctr.spec Go.Ax.Sub IdE

noncomputable def ct4 : Specs := [(8, C8.spec), (11, C11.spec)]
theorem ct4ok : SpecsOk Try.prog ct4 := specs_cons Try.call8 sp8 (specs_cons Try.call11 sp11 specs_nil)
theorem sum_two {xs ys : List Int} (h : xs.length % 2 = 0) : sumW 0 ([] ++ xs ++ ys) = sumW 0 xs + sumW 0 ys := by
  rw [List.nil_append, sumW_append, sumW_par ys (0 + xs.length) 0 (by omega)]
theorem sum_pair {X Y : Int} (hX : 0 ≤ X ∧ X ≤ 65535) (hY : 0 ≤ Y ∧ Y ≤ 65535) : sumW 0 [X / 256, X % 256, Y / 256, Y % 256] = X + Y := by
  show 256 * (X / 256) + (X % 256 + (256 * (Y / 256) + (Y % 256 + 0))) = X + Y
  omega
theorem bs4 {X Y : Int} (hX : 0 ≤ X ∧ X ≤ 65535) (hY : 0 ≤ Y ∧ Y ≤ 65535) : isBs [X / 256, X % 256, Y / 256, Y % 256] := by
  intro z hz
  simp only [List.mem_cons, List.not_mem_nil, or_false] at hz
  rcases hz with rfl | rfl | rfl | rfl <;> omega
theorem bs_two {xs ys : List Int} (hx : isBs xs) (hy : isBs ys) : isBs ([] ++ xs ++ ys) := by
  intro z hz
  rw [List.nil_append, List.mem_append] at hz
  rcases hz with h | h
  · exact hx z h
  · exact hy z h
theorem walk4 (n m : Nat) (xs ys : List Int) (hl : xs.length = n) (hm : ys.length = m) (hx : isBs xs) (hy : isBs ys) : bodyA tab ct4 0 code4 Try.f4.results.toList ⟨argsE 0 [.rs (.arr .u8 n xs), .rs (.arr .u8 m ys)], [], 0, []⟩ fun _ v => v = .bool true := by
  by_cases hg : n ≤ 1000 ∧ m ≤ 1000 ∧ n % 2 = 0
  · obtain ⟨g1, g2, g3⟩ := hg
    have qA := (sumW_rng hx 0).1
    have qB := (sumW_rng hy 0).1
    have hX := sumE_rng qA
    have hY := sumE_rng qB
    have e3 := sum_two (xs := xs) (ys := ys) (by omega)
    have e4 := sum_pair hX hY
    have b4 := bs4 hX hY
    have eT := sumE_add qA qB
    obtain ⟨T, hT⟩ : ∃ T, T = sumE (sumW 0 xs + sumW 0 ys) := ⟨_, rfl⟩
    have hTr := sumE_rng (Int.add_nonneg qA qB)
    rw [← hT] at hTr eT
    obtain ⟨X, hX'⟩ : ∃ X, X = sumE (sumW 0 xs) := ⟨_, rfl⟩
    obtain ⟨Y, hY'⟩ : ∃ Y, Y = sumE (sumW 0 ys) := ⟨_, rfl⟩
    rw [← hX', ← hY'] at e4 eT b4
    rw [← hX'] at hX
    rw [← hY'] at hY
    have f3 : sumE (sumW 0 ([] ++ xs ++ ys)) = T := by rw [e3, hT]
    have f4 : sumE (sumW 0 [X / 256, X % 256, Y / 256, Y % 256]) = T := by rw [e4, eT]
    have f5 : m % 2 = 0 → sumE (sumW 0 ([] ++ ys ++ xs)) = T := fun h => by rw [sum_two (by omega), Int.add_comm, hT]
    clear eT e4 e3
    repeat' ((conv => whnf) <;> first
     | (apply Chk.go; · rfl)
     | (apply nm.go; (· (try simp (discharger := first | omega | (simp only [maxU8, maxU16, maxU32, maxU64]; omega) | decide) only [idU8, idU16, idU32, idU64, wrapI64, tdivE, tmodE, fdivE, andE, Int.toNat_natCast, Int.reduceToNat, tn8, IntKind.bits, Nat.min_eq_left, Nat.min_eq_right, Int.reducePow, Nat.reducePow, Int.reduceAdd]); (try simp only [wrapU8, wrapU16, wrapU32, wrapU64]); exact rfl); intro hr; simp only [rng] at hr)
     | (apply nmN.go; · (try simp (discharger := omega) only [Int.toNat_natCast, Int.reduceToNat, tnSub1, tn8]); first | (norm_cast; done) | (norm_cast; exact rfl) | exact rfl)
     | (apply Bnd.go; · first | omega | (simp only [ByteArray.size, List.size_toArray, List.length_cons, List.length_nil, Nat.reduceAdd]; omega))
     | (apply Drw.go; · kernel_rfl)
     | (apply Str.go; · repeat' (first | exact True.intro | exact rfl | apply And.intro))
     | apply SeqP.go
     | (apply askB.cmp; first | ((· intro h; rw [cmpP] at h; omega); intro h; rw [cmpN] at h) | (rotate_left; (· intro h; rw [cmpN] at h; omega); intro h; rw [cmpP] at h))
     | ((with_reducible apply askB.dec); first | ((· intro h; omega); intro h) | (rotate_left; (· intro h; first | exact absurd rfl h | omega); intro h))
     | ((with_reducible apply askB.ndec); first | ((· intro h; first | exact absurd rfl h | omega); intro h) | (rotate_left; (· intro h; omega); intro h))
     | with_reducible first | apply askB.tt | apply askB.ff | apply askB.and | apply askB.not | apply askB.or | apply askB.beqs | apply askB.beq)
    (refine Ctr.goE (C := C11) ((n, xs)) (⟨hl, by omega, hx⟩) (fun _ => .int .u16 X) (fun _ => []) (by simp only [C11, hX']) (by simp only [C11, hX']) ?_ ?_ ?_); (· ((repeat' ((conv => whnf) <;> (first | exact True.intro | (with_reducible exact rfl) | exact Eq.refl true | exact IdE.go rfl | apply And.intro | omega))) <;> (try (conv => whnf))); all_goals rfl); (· ((repeat' ((conv => whnf) <;> (first | exact True.intro | (with_reducible exact rfl) | exact Eq.refl true | exact IdE.go rfl | apply And.intro | omega))) <;> (try (conv => whnf))); all_goals rfl)
    repeat' ((conv => whnf) <;> first
     | (apply Chk.go; · rfl)
     | (apply nm.go; (· (try simp (discharger := first | omega | (simp only [maxU8, maxU16, maxU32, maxU64]; omega) | decide) only [idU8, idU16, idU32, idU64, wrapI64, tdivE, tmodE, fdivE, andE, Int.toNat_natCast, Int.reduceToNat, tn8, IntKind.bits, Nat.min_eq_left, Nat.min_eq_right, Int.reducePow, Nat.reducePow, Int.reduceAdd]); (try simp only [wrapU8, wrapU16, wrapU32, wrapU64]); exact rfl); intro hr; simp only [rng] at hr)
     | (apply nmN.go; · (try simp (discharger := omega) only [Int.toNat_natCast, Int.reduceToNat, tnSub1, tn8]); first | (norm_cast; done) | (norm_cast; exact rfl) | exact rfl)
     | (apply Bnd.go; · first | omega | (simp only [ByteArray.size, List.size_toArray, List.length_cons, List.length_nil, Nat.reduceAdd]; omega))
     | (apply Drw.go; · kernel_rfl)
     | (apply Str.go; · repeat' (first | exact True.intro | exact rfl | apply And.intro))
     | apply SeqP.go
     | (apply askB.cmp; first | ((· intro h; rw [cmpP] at h; omega); intro h; rw [cmpN] at h) | (rotate_left; (· intro h; rw [cmpN] at h; omega); intro h; rw [cmpP] at h))
     | ((with_reducible apply askB.dec); first | ((· intro h; omega); intro h) | (rotate_left; (· intro h; first | exact absurd rfl h | omega); intro h))
     | ((with_reducible apply askB.ndec); first | ((· intro h; first | exact absurd rfl h | omega); intro h) | (rotate_left; (· intro h; omega); intro h))
     | with_reducible first | apply askB.tt | apply askB.ff | apply askB.and | apply askB.not | apply askB.or | apply askB.beqs | apply askB.beq)
    (refine Ctr.goE (C := C11) ((m, ys)) (⟨hm, by omega, hy⟩) (fun _ => .int .u16 Y) (fun _ => []) (by simp only [C11, hY']) (by simp only [C11, hY']) ?_ ?_ ?_); (· ((repeat' ((conv => whnf) <;> (first | exact True.intro | (with_reducible exact rfl) | exact Eq.refl true | exact IdE.go rfl | apply And.intro | omega))) <;> (try (conv => whnf))); all_goals rfl); (· ((repeat' ((conv => whnf) <;> (first | exact True.intro | (with_reducible exact rfl) | exact Eq.refl true | exact IdE.go rfl | apply And.intro | omega))) <;> (try (conv => whnf))); all_goals rfl)
    repeat' ((conv => whnf) <;> first
     | (apply Chk.go; · rfl)
     | (apply nm.go; (· (try simp (discharger := first | omega | (simp only [maxU8, maxU16, maxU32, maxU64]; omega) | decide) only [idU8, idU16, idU32, idU64, wrapI64, tdivE, tmodE, fdivE, andE, Int.toNat_natCast, Int.reduceToNat, tn8, IntKind.bits, Nat.min_eq_left, Nat.min_eq_right, Int.reducePow, Nat.reducePow, Int.reduceAdd]); (try simp only [wrapU8, wrapU16, wrapU32, wrapU64]); exact rfl); intro hr; simp only [rng] at hr)
     | (apply nmN.go; · (try simp (discharger := omega) only [Int.toNat_natCast, Int.reduceToNat, tnSub1, tn8]); first | (norm_cast; done) | (norm_cast; exact rfl) | exact rfl)
     | (apply Bnd.go; · first | omega | (simp only [ByteArray.size, List.size_toArray, List.length_cons, List.length_nil, Nat.reduceAdd]; omega))
     | (apply Drw.go; · kernel_rfl)
     | (apply Str.go; · repeat' (first | exact True.intro | exact rfl | apply And.intro))
     | apply SeqP.go
     | (apply askB.cmp; first | ((· intro h; rw [cmpP] at h; omega); intro h; rw [cmpN] at h) | (rotate_left; (· intro h; rw [cmpN] at h; omega); intro h; rw [cmpP] at h))
     | ((with_reducible apply askB.dec); first | ((· intro h; omega); intro h) | (rotate_left; (· intro h; first | exact absurd rfl h | omega); intro h))
     | ((with_reducible apply askB.ndec); first | ((· intro h; first | exact absurd rfl h | omega); intro h) | (rotate_left; (· intro h; omega); intro h))
     | with_reducible first | apply askB.tt | apply askB.ff | apply askB.and | apply askB.not | apply askB.or | apply askB.beqs | apply askB.beq)
    (refine Ctr.frzE (C := C11) ((0 + n + m, [] ++ xs ++ ys)) (⟨by simp; omega, by omega, bs_two hx hy⟩) (fun _ => .int .u16 T) (fun _ => []) (by simp only [C11, f3]) (by simp only [C11, f3]) rfl ?_ ?_ ?_); (· ((repeat' ((conv => whnf) <;> (first | exact True.intro | (with_reducible exact rfl) | exact Eq.refl true | exact IdE.go rfl | apply And.intro | omega))) <;> (try (conv => whnf))); all_goals rfl); (· ((repeat' ((conv => whnf) <;> (first | exact True.intro | (with_reducible exact rfl) | exact Eq.refl true | exact IdE.go rfl | apply And.intro | omega))) <;> (try (conv => whnf))); all_goals rfl)
    repeat' ((conv => whnf) <;> first
     | (apply Chk.go; · rfl)
     | (apply nm.go; (· (try simp (discharger := first | omega | (simp only [maxU8, maxU16, maxU32, maxU64]; omega) | decide) only [idU8, idU16, idU32, idU64, wrapI64, tdivE, tmodE, fdivE, andE, Int.toNat_natCast, Int.reduceToNat, tn8, IntKind.bits, Nat.min_eq_left, Nat.min_eq_right, Int.reducePow, Nat.reducePow, Int.reduceAdd]); (try simp only [wrapU8, wrapU16, wrapU32, wrapU64]); exact rfl); intro hr; simp only [rng] at hr)
     | (apply nmN.go; · (try simp (discharger := omega) only [Int.toNat_natCast, Int.reduceToNat, tnSub1, tn8]); first | (norm_cast; done) | (norm_cast; exact rfl) | exact rfl)
     | (apply Bnd.go; · first | omega | (simp only [ByteArray.size, List.size_toArray, List.length_cons, List.length_nil, Nat.reduceAdd]; omega))
     | (apply Drw.go; · kernel_rfl)
     | (apply Str.go; · repeat' (first | exact True.intro | exact rfl | apply And.intro))
     | apply SeqP.go
     | (apply askB.cmp; first | ((· intro h; rw [cmpP] at h; omega); intro h; rw [cmpN] at h) | (rotate_left; (· intro h; rw [cmpN] at h; omega); intro h; rw [cmpP] at h))
     | ((with_reducible apply askB.dec); first | ((· intro h; omega); intro h) | (rotate_left; (· intro h; first | exact absurd rfl h | omega); intro h))
     | ((with_reducible apply askB.ndec); first | ((· intro h; first | exact absurd rfl h | omega); intro h) | (rotate_left; (· intro h; omega); intro h))
     | with_reducible first | apply askB.tt | apply askB.ff | apply askB.and | apply askB.not | apply askB.or | apply askB.beqs | apply askB.beq)
    (refine Ctr.frzE (C := C11) ((4, [X / 256, X % 256, Y / 256, Y % 256])) (⟨rfl, by decide, b4⟩) (fun _ => .int .u16 T) (fun _ => []) (by simp only [C11, f4]) (by simp only [C11, f4]) rfl ?_ ?_ ?_); (· ((repeat' ((conv => whnf) <;> (first | exact True.intro | (with_reducible exact rfl) | exact Eq.refl true | exact IdE.go rfl | apply And.intro | omega))) <;> (try (conv => whnf))); all_goals rfl); (· ((repeat' ((conv => whnf) <;> (first | exact True.intro | (with_reducible exact rfl) | exact Eq.refl true | exact IdE.go rfl | apply And.intro | omega))) <;> (try (conv => whnf))); all_goals rfl)
    repeat' ((conv => whnf) <;> first
     | (apply Chk.go; · rfl)
     | (apply nm.go; (· (try simp (discharger := first | omega | (simp only [maxU8, maxU16, maxU32, maxU64]; omega) | decide) only [idU8, idU16, idU32, idU64, wrapI64, tdivE, tmodE, fdivE, andE, Int.toNat_natCast, Int.reduceToNat, tn8, IntKind.bits, Nat.min_eq_left, Nat.min_eq_right, Int.reducePow, Nat.reducePow, Int.reduceAdd]); (try simp only [wrapU8, wrapU16, wrapU32, wrapU64]); exact rfl); intro hr; simp only [rng] at hr)
     | (apply nmN.go; · (try simp (discharger := omega) only [Int.toNat_natCast, Int.reduceToNat, tnSub1, tn8]); first | (norm_cast; done) | (norm_cast; exact rfl) | exact rfl)
     | (apply Bnd.go; · first | omega | (simp only [ByteArray.size, List.size_toArray, List.length_cons, List.length_nil, Nat.reduceAdd]; omega))
     | (apply Drw.go; · kernel_rfl)
     | (apply Str.go; · repeat' (first | exact True.intro | exact rfl | apply And.intro))
     | apply SeqP.go
     | (apply askB.cmp; first | ((· intro h; rw [cmpP] at h; omega); intro h; rw [cmpN] at h) | (rotate_left; (· intro h; rw [cmpN] at h; omega); intro h; rw [cmpP] at h))
     | ((with_reducible apply askB.dec); first | ((· intro h; omega); intro h) | (rotate_left; (· intro h; first | exact absurd rfl h | omega); intro h))
     | ((with_reducible apply askB.ndec); first | ((· intro h; first | exact absurd rfl h | omega); intro h) | (rotate_left; (· intro h; omega); intro h))
     | with_reducible first | apply askB.tt | apply askB.ff | apply askB.and | apply askB.not | apply askB.or | apply askB.beqs | apply askB.beq)
    by_cases hev : m % 2 = 0
    · have f5' := f5 hev
      repeat' ((conv => whnf) <;> first
       | (apply Chk.go; · rfl)
       | (apply nm.go; (· (try simp (discharger := first | omega | (simp only [maxU8, maxU16, maxU32, maxU64]; omega) | decide) only [idU8, idU16, idU32, idU64, wrapI64, tdivE, tmodE, fdivE, andE, Int.toNat_natCast, Int.reduceToNat, tn8, IntKind.bits, Nat.min_eq_left, Nat.min_eq_right, Int.reducePow, Nat.reducePow, Int.reduceAdd]); (try simp only [wrapU8, wrapU16, wrapU32, wrapU64]); exact rfl); intro hr; simp only [rng] at hr)
       | (apply nmN.go; · (try simp (discharger := omega) only [Int.toNat_natCast, Int.reduceToNat, tnSub1, tn8]); first | (norm_cast; done) | (norm_cast; exact rfl) | exact rfl)
       | (apply Bnd.go; · first | omega | (simp only [ByteArray.size, List.size_toArray, List.length_cons, List.length_nil, Nat.reduceAdd]; omega))
       | (apply Drw.go; · kernel_rfl)
       | (apply Str.go; · repeat' (first | exact True.intro | exact rfl | apply And.intro))
       | apply SeqP.go
       | (apply askB.cmp; first | ((· intro h; rw [cmpP] at h; omega); intro h; rw [cmpN] at h) | (rotate_left; (· intro h; rw [cmpN] at h; omega); intro h; rw [cmpP] at h))
       | ((with_reducible apply askB.dec); first | ((· intro h; omega); intro h) | (rotate_left; (· intro h; first | exact absurd rfl h | omega); intro h))
       | ((with_reducible apply askB.ndec); first | ((· intro h; first | exact absurd rfl h | omega); intro h) | (rotate_left; (· intro h; omega); intro h))
       | with_reducible first | apply askB.tt | apply askB.ff | apply askB.and | apply askB.not | apply askB.or | apply askB.beqs | apply askB.beq)
      (refine Ctr.frzE (C := C11) ((0 + m + n, [] ++ ys ++ xs)) (⟨by simp; omega, by omega, bs_two hy hx⟩) (fun _ => .int .u16 T) (fun _ => []) (by simp only [C11, f5']) (by simp only [C11, f5']) rfl ?_ ?_ ?_); (· ((repeat' ((conv => whnf) <;> (first | exact True.intro | (with_reducible exact rfl) | exact Eq.refl true | exact IdE.go rfl | apply And.intro | omega))) <;> (try (conv => whnf))); all_goals rfl); (· ((repeat' ((conv => whnf) <;> (first | exact True.intro | (with_reducible exact rfl) | exact Eq.refl true | exact IdE.go rfl | apply And.intro | omega))) <;> (try (conv => whnf))); all_goals rfl)
      repeat' ((conv => whnf) <;> first
       | (apply Chk.go; · rfl)
       | (apply nm.go; (· (try simp (discharger := first | omega | (simp only [maxU8, maxU16, maxU32, maxU64]; omega) | decide) only [idU8, idU16, idU32, idU64, wrapI64, tdivE, tmodE, fdivE, andE, Int.toNat_natCast, Int.reduceToNat, tn8, IntKind.bits, Nat.min_eq_left, Nat.min_eq_right, Int.reducePow, Nat.reducePow, Int.reduceAdd]); (try simp only [wrapU8, wrapU16, wrapU32, wrapU64]); exact rfl); intro hr; simp only [rng] at hr)
       | (apply nmN.go; · (try simp (discharger := omega) only [Int.toNat_natCast, Int.reduceToNat, tnSub1, tn8]); first | (norm_cast; done) | (norm_cast; exact rfl) | exact rfl)
       | (apply Bnd.go; · first | omega | (simp only [ByteArray.size, List.size_toArray, List.length_cons, List.length_nil, Nat.reduceAdd]; omega))
       | (apply Drw.go; · kernel_rfl)
       | (apply Str.go; · repeat' (first | exact True.intro | exact rfl | apply And.intro))
       | apply SeqP.go
       | (apply askB.cmp; first | ((· intro h; rw [cmpP] at h; omega); intro h; rw [cmpN] at h) | (rotate_left; (· intro h; rw [cmpN] at h; omega); intro h; rw [cmpP] at h))
       | ((with_reducible apply askB.dec); first | ((· intro h; omega); intro h) | (rotate_left; (· intro h; first | exact absurd rfl h | omega); intro h))
       | ((with_reducible apply askB.ndec); first | ((· intro h; first | exact absurd rfl h | omega); intro h) | (rotate_left; (· intro h; omega); intro h))
       | with_reducible first | apply askB.tt | apply askB.ff | apply askB.and | apply askB.not | apply askB.or | apply askB.beqs | apply askB.beq)
      (refine Ctr.go (C := C8) (()) (trivial) ?_ ?_ ?_); (· ((repeat' ((conv => whnf) <;> (first | exact True.intro | (with_reducible exact rfl) | exact Eq.refl true | exact IdE.go rfl | apply And.intro | omega))) <;> (try (conv => whnf))); all_goals rfl); (· ((repeat' ((conv => whnf) <;> (first | exact True.intro | (with_reducible exact rfl) | exact Eq.refl true | exact IdE.go rfl | apply And.intro | omega))) <;> (try (conv => whnf))); all_goals rfl)
      repeat' ((conv => whnf) <;> first
       | (apply Chk.go; · rfl)
       | (apply nm.go; (· (try simp (discharger := first | omega | (simp only [maxU8, maxU16, maxU32, maxU64]; omega) | decide) only [idU8, idU16, idU32, idU64, wrapI64, tdivE, tmodE, fdivE, andE, Int.toNat_natCast, Int.reduceToNat, tn8, IntKind.bits, Nat.min_eq_left, Nat.min_eq_right, Int.reducePow, Nat.reducePow, Int.reduceAdd]); (try simp only [wrapU8, wrapU16, wrapU32, wrapU64]); exact rfl); intro hr; simp only [rng] at hr)
       | (apply nmN.go; · (try simp (discharger := omega) only [Int.toNat_natCast, Int.reduceToNat, tnSub1, tn8]); first | (norm_cast; done) | (norm_cast; exact rfl) | exact rfl)
       | (apply Bnd.go; · first | omega | (simp only [ByteArray.size, List.size_toArray, List.length_cons, List.length_nil, Nat.reduceAdd]; omega))
       | (apply Drw.go; · kernel_rfl)
       | (apply Str.go; · repeat' (first | exact True.intro | exact rfl | apply And.intro))
       | apply SeqP.go
       | (apply askB.cmp; first | ((· intro h; rw [cmpP] at h; omega); intro h; rw [cmpN] at h) | (rotate_left; (· intro h; rw [cmpN] at h; omega); intro h; rw [cmpP] at h))
       | ((with_reducible apply askB.dec); first | ((· intro h; omega); intro h) | (rotate_left; (· intro h; first | exact absurd rfl h | omega); intro h))
       | ((with_reducible apply askB.ndec); first | ((· intro h; first | exact absurd rfl h | omega); intro h) | (rotate_left; (· intro h; omega); intro h))
       | with_reducible first | apply askB.tt | apply askB.ff | apply askB.and | apply askB.not | apply askB.or | apply askB.beqs | apply askB.beq)
      (try (conv => whnf)) <;> first | with_reducible rfl | (refine congrArg AV.bool ?_; simp only [cmpI, decide_eq_true_eq] <;> omega) | (refine congrArg AV.bool ?_; simp)
    · repeat' ((conv => whnf) <;> first
     | (apply Chk.go; · rfl)
     | (apply nm.go; (· (try simp (discharger := first | omega | (simp only [maxU8, maxU16, maxU32, maxU64]; omega) | decide) only [idU8, idU16, idU32, idU64, wrapI64, tdivE, tmodE, fdivE, andE, Int.toNat_natCast, Int.reduceToNat, tn8, IntKind.bits, Nat.min_eq_left, Nat.min_eq_right, Int.reducePow, Nat.reducePow, Int.reduceAdd]); (try simp only [wrapU8, wrapU16, wrapU32, wrapU64]); exact rfl); intro hr; simp only [rng] at hr)
     | (apply nmN.go; · (try simp (discharger := omega) only [Int.toNat_natCast, Int.reduceToNat, tnSub1, tn8]); first | (norm_cast; done) | (norm_cast; exact rfl) | exact rfl)
     | (apply Bnd.go; · first | omega | (simp only [ByteArray.size, List.size_toArray, List.length_cons, List.length_nil, Nat.reduceAdd]; omega))
     | (apply Drw.go; · kernel_rfl)
     | (apply Str.go; · repeat' (first | exact True.intro | exact rfl | apply And.intro))
     | apply SeqP.go
     | (apply askB.cmp; first | ((· intro h; rw [cmpP] at h; omega); intro h; rw [cmpN] at h) | (rotate_left; (· intro h; rw [cmpN] at h; omega); intro h; rw [cmpP] at h))
     | ((with_reducible apply askB.dec); first | ((· intro h; omega); intro h) | (rotate_left; (· intro h; first | exact absurd rfl h | omega); intro h))
     | ((with_reducible apply askB.ndec); first | ((· intro h; first | exact absurd rfl h | omega); intro h) | (rotate_left; (· intro h; omega); intro h))
     | with_reducible first | apply askB.tt | apply askB.ff | apply askB.and | apply askB.not | apply askB.or | apply askB.beqs | apply askB.beq)
      (refine Ctr.go (C := C8) (()) (trivial) ?_ ?_ ?_); (· ((repeat' ((conv => whnf) <;> (first | exact True.intro | (with_reducible exact rfl) | exact Eq.refl true | exact IdE.go rfl | apply And.intro | omega))) <;> (try (conv => whnf))); all_goals rfl); (· ((repeat' ((conv => whnf) <;> (first | exact True.intro | (with_reducible exact rfl) | exact Eq.refl true | exact IdE.go rfl | apply And.intro | omega))) <;> (try (conv => whnf))); all_goals rfl)
      repeat' ((conv => whnf) <;> first
       | (apply Chk.go; · rfl)
       | (apply nm.go; (· (try simp (discharger := first | omega | (simp only [maxU8, maxU16, maxU32, maxU64]; omega) | decide) only [idU8, idU16, idU32, idU64, wrapI64, tdivE, tmodE, fdivE, andE, Int.toNat_natCast, Int.reduceToNat, tn8, IntKind.bits, Nat.min_eq_left, Nat.min_eq_right, Int.reducePow, Nat.reducePow, Int.reduceAdd]); (try simp only [wrapU8, wrapU16, wrapU32, wrapU64]); exact rfl); intro hr; simp only [rng] at hr)
       | (apply nmN.go; · (try simp (discharger := omega) only [Int.toNat_natCast, Int.reduceToNat, tnSub1, tn8]); first | (norm_cast; done) | (norm_cast; exact rfl) | exact rfl)
       | (apply Bnd.go; · first | omega | (simp only [ByteArray.size, List.size_toArray, List.length_cons, List.length_nil, Nat.reduceAdd]; omega))
       | (apply Drw.go; · kernel_rfl)
       | (apply Str.go; · repeat' (first | exact True.intro | exact rfl | apply And.intro))
       | apply SeqP.go
       | (apply askB.cmp; first | ((· intro h; rw [cmpP] at h; omega); intro h; rw [cmpN] at h) | (rotate_left; (· intro h; rw [cmpN] at h; omega); intro h; rw [cmpP] at h))
       | ((with_reducible apply askB.dec); first | ((· intro h; omega); intro h) | (rotate_left; (· intro h; first | exact absurd rfl h | omega); intro h))
       | ((with_reducible apply askB.ndec); first | ((· intro h; first | exact absurd rfl h | omega); intro h) | (rotate_left; (· intro h; omega); intro h))
       | with_reducible first | apply askB.tt | apply askB.ff | apply askB.and | apply askB.not | apply askB.or | apply askB.beqs | apply askB.beq)
      (try (conv => whnf)) <;> first | with_reducible rfl | (refine congrArg AV.bool ?_; simp only [cmpI, decide_eq_true_eq] <;> omega) | (refine congrArg AV.bool ?_; simp)
  · repeat' ((conv => whnf) <;> first
   | (apply Chk.go; · rfl)
   | (apply nm.go; (· (try simp (discharger := first | omega | (simp only [maxU8, maxU16, maxU32, maxU64]; omega) | decide) only [idU8, idU16, idU32, idU64, wrapI64, tdivE, tmodE, fdivE, andE, Int.toNat_natCast, Int.reduceToNat, tn8, IntKind.bits, Nat.min_eq_left, Nat.min_eq_right, Int.reducePow, Nat.reducePow, Int.reduceAdd]); (try simp only [wrapU8, wrapU16, wrapU32, wrapU64]); exact rfl); intro hr; simp only [rng] at hr)
   | (apply nmN.go; · (try simp (discharger := omega) only [Int.toNat_natCast, Int.reduceToNat, tnSub1, tn8]); first | (norm_cast; done) | (norm_cast; exact rfl) | exact rfl)
   | (apply Bnd.go; · first | omega | (simp only [ByteArray.size, List.size_toArray, List.length_cons, List.length_nil, Nat.reduceAdd]; omega))
   | (apply Drw.go; · kernel_rfl)
   | (apply Str.go; · repeat' (first | exact True.intro | exact rfl | apply And.intro))
   | apply SeqP.go
   | (apply askB.cmp <;> intro h <;> (first | rw [cmpP] at h | rw [cmpN] at h) <;> try omega)
   | ((with_reducible apply askB.dec) <;> intro h <;> try omega)
   | with_reducible first | apply askB.tt | apply askB.ff | apply askB.and | apply askB.not | apply askB.or | apply askB.beqs | apply askB.beq
   | (apply askB.go <;> intro h)
     | (refine Ctr.go (C := C8) (()) (trivial) ?_ ?_ ?_); (· ((repeat' ((conv => whnf) <;> (first | exact True.intro | (with_reducible exact rfl) | exact Eq.refl true | exact IdE.go rfl | apply And.intro | omega))) <;> (try (conv => whnf))); all_goals rfl); (· ((repeat' ((conv => whnf) <;> (first | exact True.intro | (with_reducible exact rfl) | exact Eq.refl true | exact IdE.go rfl | apply And.intro | omega))) <;> (try (conv => whnf))); all_goals rfl))
    all_goals ((try (conv => whnf)) <;> first | with_reducible rfl | (refine congrArg AV.bool ?_; simp only [cmpI, decide_eq_true_eq] <;> omega) | (refine congrArg AV.bool ?_; simp))

end Go.Proofs.Ytlkaehbeapmplaa.Ax
