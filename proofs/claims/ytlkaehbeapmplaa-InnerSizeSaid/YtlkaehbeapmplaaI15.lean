/- Contracts of functions of the program, walked over abstract values. -/
import Derived.Test.YtlkaehbeapmplaaI14
set_option linter.unusedSimpArgs false
set_option linter.unusedVariables false
namespace Go.Proofs.Ytlkaehbeapmplaa.Ax
open Go Go.Ax Go.Proofs
attribute [local irreducible] Chk Bnd Str Kn Drw nm nmN askB SeqP LoopP FinW Ctr.spec Go.Ax.Sub IdE

noncomputable def ct6 : Specs := [(8, C8.spec), (10, C10.spec), (13, C13.spec)]
theorem ct6ok : SpecsOk Try.prog ct6 := specs_cons Try.call8 sp8 (specs_cons Try.call10 sp10 (specs_cons Try.call13 sp13 specs_nil))
theorem bs_two' {xs ys : List Int} (hx : isBs xs) (hy : isBs ys) : isBs ([] ++ xs ++ ys) := by
  intro z hz
  rw [List.nil_append, List.mem_append] at hz
  rcases hz with h | h
  · exact hx z h
  · exact hy z h
theorem walk6 (n m : Nat) (xs ys : List Int) (hl : xs.length = n) (hm : ys.length = m) (hb : isBs xs) (hy : isBs ys) : bodyA tab ct6 0 code6 Try.f6.results.toList ⟨argsE 0 [.rs (.arr .u8 n xs), .rs (.arr .u8 m ys)], [], 0, []⟩ fun _ v => v = .bool true := by
  by_cases hg : n ≤ 2000 ∧ m ≤ 100
  · by_cases he : rE xs = 0
    · have hp := read_pre (ys := [] ++ xs ++ ys) hb he (by
        obtain ⟨q1, q2⟩ := zs_4 hb he
        rw [List.nil_append, List.take_append_of_le_length (by omega)]) (by
        obtain ⟨q1, q2⟩ := zs_4 hb he
        simp; omega)
      obtain ⟨q1, q2⟩ := zs_4 hb he
      have hc : cutF xs = xs.take (rN xs).toNat := if_pos he
      have hcl : (cutF xs).length = (rN xs).toNat := by rw [hc, List.length_take]; omega
      have hp2 := read_pre (ys := cutF xs) hb he (by rw [hc, List.take_take, Nat.min_self]) (by omega)
      have hcb : isBs (cutF xs) := by rw [hc]; exact isBs_take hb _
      obtain ⟨a1, a2, a3, a4, a5, a6⟩ := hp
      obtain ⟨c1, c2, c3, c4, c5, _⟩ := hp2
      obtain ⟨C, hCC⟩ : ∃ C, C = cutF xs := ⟨_, rfl⟩
      rw [← hCC] at hcl hcb c1 c2 c3 c4 c5
      obtain ⟨N, hN⟩ : ∃ N, N = rN xs := ⟨_, rfl⟩
      obtain ⟨S, hS⟩ : ∃ S, S = rS xs := ⟨_, rfl⟩
      obtain ⟨F, hF⟩ : ∃ F, F = rF xs := ⟨_, rfl⟩
      obtain ⟨T, hT⟩ : ∃ T, T = rT xs := ⟨_, rfl⟩
      obtain ⟨L, hL⟩ : ∃ L, L = C.length := ⟨_, rfl⟩
      rw [← hN] at a4 c4 a6 q1 q2 hcl
      rw [← hL] at hcl
      have hLN : (L : Int) = N := by omega
      repeat' ((conv => whnf) <;> first
       | (apply Chk.go; · rfl)
       | (apply nm.go; (· (try simp (discharger := first | omega | (simp only [maxU8, maxU16, maxU32, maxU64]; omega) | decide) only [idU8, idU16, idU32, idU64, wrapI64, tdivE, tmodE, fdivE, andE, Int.toNat_natCast, Int.reduceToNat, tn8, IntKind.bits, Nat.min_eq_left, Nat.min_eq_right, Int.reducePow, Nat.reducePow, Int.reduceAdd]); (try simp only [wrapU8, wrapU16, wrapU32, wrapU64]); exact rfl); intro hr; simp only [rng] at hr)
       | (apply nmN.go; · (try simp (discharger := omega) only [Int.toNat_natCast, Int.reduceToNat, tnSub1, tn8]); first | (norm_cast; done) | (norm_cast; exact rfl) | exact rfl)
       | (apply Bnd.go; · first | omega | (simp only [ByteArray.size, List.size_toArray, List.length_cons, List.length_nil, Nat.reduceAdd]; omega))
       | (apply Drw.go; · kernel_rfl)
       | (apply Str.go; · repeat' (first | exact True.intro | exact rfl | apply And.intro))
       | apply SeqP.go
       | (apply askB.cmp; first | ((· intro h; rw [cmpP] at h; omega); intro h; rw [cmpN] at h) | (rotate_left; (· intro h; rw [cmpN] at h; omega); intro h; rw [cmpP] at h))
       | ((with_reducible apply askB.dec); first | ((· intro h; omega); intro h) | (rotate_left; (· intro h; first | exact absurd rfl h | omega); intro h))
       | ((with_reducible apply askB.ndec); first | ((· intro h; first | exact absurd rfl h | omega); intro h) | (rotate_left; (· intro h; omega); intro h))
       | with_reducible first | apply askB.tt | apply askB.ff | apply askB.and | apply askB.not | apply askB.or | apply askB.beqs | apply askB.beq)
      (refine Ctr.goE (C := C10) ((n, xs)) (⟨hl, by omega, hb⟩) (fun _ => .tup [.st [.st [.bool S, .arr .u8 16 F], .st [.bool S, .arr .u8 16 T], .int .i64 N], .int .i64 0]) (fun _ => []) (by simp only [C10, he, hS, hN, hF, hT]) (by simp only [C10, he, hS, hN, hF, hT]) ?_ ?_ ?_); (· ((repeat' ((conv => whnf) <;> (first | exact True.intro | (with_reducible exact rfl) | exact Eq.refl true | exact IdE.go rfl | apply And.intro | omega))) <;> (try (conv => whnf))); all_goals rfl); (· ((repeat' ((conv => whnf) <;> (first | exact True.intro | (with_reducible exact rfl) | exact Eq.refl true | exact IdE.go rfl | apply And.intro | omega))) <;> (try (conv => whnf))); all_goals rfl)
      repeat' ((conv => whnf) <;> first
       | (apply Chk.go; · rfl)
       | (apply nm.go; (· (try simp (discharger := first | omega | (simp only [maxU8, maxU16, maxU32, maxU64]; omega) | decide) only [idU8, idU16, idU32, idU64, wrapI64, tdivE, tmodE, fdivE, andE, Int.toNat_natCast, Int.reduceToNat, tn8, IntKind.bits, Nat.min_eq_left, Nat.min_eq_right, Int.reducePow, Nat.reducePow, Int.reduceAdd]); (try simp only [wrapU8, wrapU16, wrapU32, wrapU64]); exact rfl); intro hr; simp only [rng] at hr)
       | (apply nmN.go; · (try simp (discharger := omega) only [Int.toNat_natCast, Int.reduceToNat, tnSub1, tn8]); first | (norm_cast; done) | (norm_cast; exact rfl) | exact rfl)
       | (apply Bnd.go; · first | omega | (simp only [ByteArray.size, List.size_toArray, List.length_cons, List.length_nil, Nat.reduceAdd]; omega))
       | (apply Drw.go; · kernel_rfl)
       | (apply Str.go; · repeat' (first | exact True.intro | exact rfl | apply And.intro))
       | apply SeqP.go
       | (apply askB.cmp; first | ((· intro h; rw [cmpP] at h; omega); intro h; rw [cmpN] at h) | (rotate_left; (· intro h; rw [cmpN] at h; omega); intro h; rw [cmpP] at h))
       | ((with_reducible apply askB.dec); first | ((· intro h; omega); intro h) | (rotate_left; (· intro h; first | exact absurd rfl h | omega); intro h))
       | ((with_reducible apply askB.ndec); first | ((· intro h; first | exact absurd rfl h | omega); intro h) | (rotate_left; (· intro h; omega); intro h))
       | with_reducible first | apply askB.tt | apply askB.ff | apply askB.and | apply askB.not | apply askB.or | apply askB.beqs | apply askB.beq
       | fail)
      (refine Ctr.frzE (C := C10) ((0 + n + m, [] ++ xs ++ ys)) (⟨by simp; omega, by omega, bs_two' hb hy⟩) (fun _ => .tup [.st [.st [.bool S, .arr .u8 16 F], .st [.bool S, .arr .u8 16 T], .int .i64 N], .int .i64 0]) (fun _ => []) (by simp only [C10, a1, a2, a3, a4, a5, hS, hF, hT]) (by simp only [C10, a1, a2, a3, a4, a5, hS, hF, hT]) rfl ?_ ?_ ?_); (· ((repeat' ((conv => whnf) <;> (first | exact True.intro | (with_reducible exact rfl) | exact Eq.refl true | exact IdE.go rfl | apply And.intro | omega))) <;> (try (conv => whnf))); all_goals rfl); (· ((repeat' ((conv => whnf) <;> (first | exact True.intro | (with_reducible exact rfl) | exact Eq.refl true | exact IdE.go rfl | apply And.intro | omega))) <;> (try (conv => whnf))); all_goals rfl)
      repeat' ((conv => whnf) <;> first
       | (apply Chk.go; · rfl)
       | (apply nm.go; (· (try simp (discharger := first | omega | (simp only [maxU8, maxU16, maxU32, maxU64]; omega) | decide) only [idU8, idU16, idU32, idU64, wrapI64, tdivE, tmodE, fdivE, andE, Int.toNat_natCast, Int.reduceToNat, tn8, IntKind.bits, Nat.min_eq_left, Nat.min_eq_right, Int.reducePow, Nat.reducePow, Int.reduceAdd]); (try simp only [wrapU8, wrapU16, wrapU32, wrapU64]); exact rfl); intro hr; simp only [rng] at hr)
       | (apply nmN.go; · (try simp (discharger := omega) only [Int.toNat_natCast, Int.reduceToNat, tnSub1, tn8]); first | (norm_cast; done) | (norm_cast; exact rfl) | exact rfl)
       | (apply Bnd.go; · first | omega | (simp only [ByteArray.size, List.size_toArray, List.length_cons, List.length_nil, Nat.reduceAdd]; omega))
       | (apply Drw.go; · kernel_rfl)
       | (apply Str.go; · repeat' (first | exact True.intro | exact rfl | apply And.intro))
       | apply SeqP.go
       | (apply askB.cmp; first | ((· intro h; rw [cmpP] at h; omega); intro h; rw [cmpN] at h) | (rotate_left; (· intro h; rw [cmpN] at h; omega); intro h; rw [cmpP] at h))
       | ((with_reducible apply askB.dec); first | ((· intro h; omega); intro h) | (rotate_left; (· intro h; first | exact absurd rfl h | omega); intro h))
       | ((with_reducible apply askB.ndec); first | ((· intro h; first | exact absurd rfl h | omega); intro h) | (rotate_left; (· intro h; omega); intro h))
       | with_reducible first | apply askB.tt | apply askB.ff | apply askB.and | apply askB.not | apply askB.or | apply askB.beqs | apply askB.beq)
      (refine Ctr.goE (C := C13) ((n, xs)) (⟨hl, by omega, hb⟩) (fun nx => .tup [.ow nx 5, .int .i64 0]) (fun _ => [.arr .u8 L C]) (by first | (simp only [C13, he]; done) | (simp only [C13, hL, hCC])) (by first | (simp only [C13, he]; done) | (simp only [C13, hL, hCC])) ?_ ?_ ?_); (· ((repeat' ((conv => whnf) <;> (first | exact True.intro | (with_reducible exact rfl) | exact Eq.refl true | exact IdE.go rfl | apply And.intro | omega))) <;> (try (conv => whnf))); all_goals rfl); (· ((repeat' ((conv => whnf) <;> (first | exact True.intro | (with_reducible exact rfl) | exact Eq.refl true | exact IdE.go rfl | apply And.intro | omega))) <;> (try (conv => whnf))); all_goals rfl)
      repeat' ((conv => whnf) <;> first
       | (apply Chk.go; · rfl)
       | (apply nm.go; (· (try simp (discharger := first | omega | (simp only [maxU8, maxU16, maxU32, maxU64]; omega) | decide) only [idU8, idU16, idU32, idU64, wrapI64, tdivE, tmodE, fdivE, andE, Int.toNat_natCast, Int.reduceToNat, tn8, IntKind.bits, Nat.min_eq_left, Nat.min_eq_right, Int.reducePow, Nat.reducePow, Int.reduceAdd]); (try simp only [wrapU8, wrapU16, wrapU32, wrapU64]); exact rfl); intro hr; simp only [rng] at hr)
       | (apply nmN.go; · (try simp (discharger := omega) only [Int.toNat_natCast, Int.reduceToNat, tnSub1, tn8]); first | (norm_cast; done) | (norm_cast; exact rfl) | exact rfl)
       | (apply Bnd.go; · first | omega | (simp only [ByteArray.size, List.size_toArray, List.length_cons, List.length_nil, Nat.reduceAdd]; omega))
       | (apply Drw.go; · kernel_rfl)
       | (apply Str.go; · repeat' (first | exact True.intro | exact rfl | apply And.intro))
       | apply SeqP.go
       | (apply askB.cmp; first | ((· intro h; rw [cmpP] at h; omega); intro h; rw [cmpN] at h) | (rotate_left; (· intro h; rw [cmpN] at h; omega); intro h; rw [cmpP] at h))
       | ((with_reducible apply askB.dec); first | ((· intro h; omega); intro h) | (rotate_left; (· intro h; first | exact absurd rfl h | omega); intro h))
       | ((with_reducible apply askB.ndec); first | ((· intro h; first | exact absurd rfl h | omega); intro h) | (rotate_left; (· intro h; omega); intro h))
       | with_reducible first | apply askB.tt | apply askB.ff | apply askB.and | apply askB.not | apply askB.or | apply askB.beqs | apply askB.beq)
      (refine Ctr.frzE (C := C10) ((L, C)) (⟨hL.symm, by omega, hcb⟩) (fun _ => .tup [.st [.st [.bool S, .arr .u8 16 F], .st [.bool S, .arr .u8 16 T], .int .i64 N], .int .i64 0]) (fun _ => []) (by simp only [C10, c1, c2, c3, c4, c5, hS, hF, hT]) (by simp only [C10, c1, c2, c3, c4, c5, hS, hF, hT]) rfl ?_ ?_ ?_); (· ((repeat' ((conv => whnf) <;> (first | exact True.intro | (with_reducible exact rfl) | exact Eq.refl true | exact IdE.go rfl | apply And.intro | omega))) <;> (try (conv => whnf))); all_goals rfl); (· ((repeat' ((conv => whnf) <;> (first | exact True.intro | (with_reducible exact rfl) | exact Eq.refl true | exact IdE.go rfl | apply And.intro | omega))) <;> (try (conv => whnf))); all_goals rfl)
      repeat' ((conv => whnf) <;> first
       | (apply Chk.go; · rfl)
       | (apply nm.go; (· (try simp (discharger := first | omega | (simp only [maxU8, maxU16, maxU32, maxU64]; omega) | decide) only [idU8, idU16, idU32, idU64, wrapI64, tdivE, tmodE, fdivE, andE, Int.toNat_natCast, Int.reduceToNat, tn8, IntKind.bits, Nat.min_eq_left, Nat.min_eq_right, Int.reducePow, Nat.reducePow, Int.reduceAdd]); (try simp only [wrapU8, wrapU16, wrapU32, wrapU64]); exact rfl); intro hr; simp only [rng] at hr)
       | (apply nmN.go; · (try simp (discharger := omega) only [Int.toNat_natCast, Int.reduceToNat, tnSub1, tn8]); first | (norm_cast; done) | (norm_cast; exact rfl) | exact rfl)
       | (apply Bnd.go; · first | omega | (simp only [ByteArray.size, List.size_toArray, List.length_cons, List.length_nil, Nat.reduceAdd]; omega))
       | (apply Drw.go; · kernel_rfl)
       | (apply Str.go; · repeat' (first | exact True.intro | exact rfl | apply And.intro))
       | apply SeqP.go
       | (apply askB.cmp <;> intro h <;> (first | rw [cmpP] at h | rw [cmpN] at h) <;> try omega)
       | ((with_reducible apply askB.dec) <;> intro h <;> try omega)
       | with_reducible first | apply askB.tt | apply askB.ff | apply askB.and | apply askB.not | apply askB.or | apply askB.beqs | apply askB.beq
       | (apply askB.go <;> intro h)
       | (refine Ctr.go (C := C8) (()) (trivial) ?_ ?_ ?_); (· ((repeat' ((conv => whnf) <;> (first | exact True.intro | (with_reducible exact rfl) | exact Eq.refl true | exact IdE.go rfl | apply And.intro | omega))) <;> (try (conv => whnf))); all_goals rfl); (· ((repeat' ((conv => whnf) <;> (first | exact True.intro | (with_reducible exact rfl) | exact Eq.refl true | exact IdE.go rfl | apply And.intro | omega))) <;> (try (conv => whnf))); all_goals rfl)
       | fail)
      all_goals first | exact absurd rfl h | skip
      all_goals ((try (conv => whnf)) <;> first | with_reducible rfl | (refine congrArg AV.bool ?_; simp only [cmpI, decide_eq_true_eq] <;> omega) | (refine congrArg AV.bool ?_; simp))
      all_goals first | omega | trace_state
    · obtain ⟨a1, a2, a3, a4⟩ := read_no he
      obtain ⟨E, hE⟩ : ∃ E, E = rE xs := ⟨_, rfl⟩
      rw [← hE] at he
      repeat' ((conv => whnf) <;> first
       | (apply Chk.go; · rfl)
       | (apply nm.go; (· (try simp (discharger := first | omega | (simp only [maxU8, maxU16, maxU32, maxU64]; omega) | decide) only [idU8, idU16, idU32, idU64, wrapI64, tdivE, tmodE, fdivE, andE, Int.toNat_natCast, Int.reduceToNat, tn8, IntKind.bits, Nat.min_eq_left, Nat.min_eq_right, Int.reducePow, Nat.reducePow, Int.reduceAdd]); (try simp only [wrapU8, wrapU16, wrapU32, wrapU64]); exact rfl); intro hr; simp only [rng] at hr)
       | (apply nmN.go; · (try simp (discharger := omega) only [Int.toNat_natCast, Int.reduceToNat, tnSub1, tn8]); first | (norm_cast; done) | (norm_cast; exact rfl) | exact rfl)
       | (apply Bnd.go; · first | omega | (simp only [ByteArray.size, List.size_toArray, List.length_cons, List.length_nil, Nat.reduceAdd]; omega))
       | (apply Drw.go; · kernel_rfl)
       | (apply Str.go; · repeat' (first | exact True.intro | exact rfl | apply And.intro))
       | apply SeqP.go
       | (apply askB.cmp; first | ((· intro h; rw [cmpP] at h; omega); intro h; rw [cmpN] at h) | (rotate_left; (· intro h; rw [cmpN] at h; omega); intro h; rw [cmpP] at h))
       | ((with_reducible apply askB.dec); first | ((· intro h; omega); intro h) | (rotate_left; (· intro h; first | exact absurd rfl h | omega); intro h))
       | ((with_reducible apply askB.ndec); first | ((· intro h; first | exact absurd rfl h | omega); intro h) | (rotate_left; (· intro h; omega); intro h))
       | with_reducible first | apply askB.tt | apply askB.ff | apply askB.and | apply askB.not | apply askB.or | apply askB.beqs | apply askB.beq)
      (refine Ctr.goE (C := C10) ((n, xs)) (⟨hl, by omega, hb⟩) (fun _ => .tup [.st [.st [.bool false, .arr .u8 16 (List.replicate 16 0)], .st [.bool false, .arr .u8 16 (List.replicate 16 0)], .int .i64 0], .int .i64 E]) (fun _ => []) (by first | (simp only [C10, a1, a2, a3, a4, ← hE]; done) | (simp only [C10, a1, a2, a3, a4, ← hE]; rfl)) (by first | (simp only [C10, a1, a2, a3, a4, ← hE]; done) | (simp only [C10, a1, a2, a3, a4, ← hE]; rfl)) ?_ ?_ ?_); (· ((repeat' ((conv => whnf) <;> (first | exact True.intro | (with_reducible exact rfl) | exact Eq.refl true | exact IdE.go rfl | apply And.intro | omega))) <;> (try (conv => whnf))); all_goals rfl); (· ((repeat' ((conv => whnf) <;> (first | exact True.intro | (with_reducible exact rfl) | exact Eq.refl true | exact IdE.go rfl | apply And.intro | omega))) <;> (try (conv => whnf))); all_goals rfl)
      repeat' ((conv => whnf) <;> first
       | (apply Chk.go; · rfl)
       | (apply nm.go; (· (try simp (discharger := first | omega | (simp only [maxU8, maxU16, maxU32, maxU64]; omega) | decide) only [idU8, idU16, idU32, idU64, wrapI64, tdivE, tmodE, fdivE, andE, Int.toNat_natCast, Int.reduceToNat, tn8, IntKind.bits, Nat.min_eq_left, Nat.min_eq_right, Int.reducePow, Nat.reducePow, Int.reduceAdd]); (try simp only [wrapU8, wrapU16, wrapU32, wrapU64]); exact rfl); intro hr; simp only [rng] at hr)
       | (apply nmN.go; · (try simp (discharger := omega) only [Int.toNat_natCast, Int.reduceToNat, tnSub1, tn8]); first | (norm_cast; done) | (norm_cast; exact rfl) | exact rfl)
       | (apply Bnd.go; · first | omega | (simp only [ByteArray.size, List.size_toArray, List.length_cons, List.length_nil, Nat.reduceAdd]; omega))
       | (apply Drw.go; · kernel_rfl)
       | (apply Str.go; · repeat' (first | exact True.intro | exact rfl | apply And.intro))
       | apply SeqP.go
       | (apply askB.cmp; first | ((· intro h; rw [cmpP] at h; omega); intro h; rw [cmpN] at h) | (rotate_left; (· intro h; rw [cmpN] at h; omega); intro h; rw [cmpP] at h))
       | ((with_reducible apply askB.dec); first | ((· intro h; omega); intro h) | (rotate_left; (· intro h; first | exact absurd rfl h | omega); intro h))
       | ((with_reducible apply askB.ndec); first | ((· intro h; first | exact absurd rfl h | omega); intro h) | (rotate_left; (· intro h; omega); intro h))
       | with_reducible first | apply askB.tt | apply askB.ff | apply askB.and | apply askB.not | apply askB.or | apply askB.beqs | apply askB.beq)
      (refine Ctr.go (C := C8) (()) (trivial) ?_ ?_ ?_); (· ((repeat' ((conv => whnf) <;> (first | exact True.intro | (with_reducible exact rfl) | exact Eq.refl true | exact IdE.go rfl | apply And.intro | omega))) <;> (try (conv => whnf))); all_goals rfl); (· ((repeat' ((conv => whnf) <;> (first | exact True.intro | (with_reducible exact rfl) | exact Eq.refl true | exact IdE.go rfl | apply And.intro | omega))) <;> (try (conv => whnf))); all_goals rfl)
      repeat' ((conv => whnf) <;> first
       | (apply Chk.go; · rfl)
       | (apply nm.go; (· (try simp (discharger := first | omega | (simp only [maxU8, maxU16, maxU32, maxU64]; omega) | decide) only [idU8, idU16, idU32, idU64, wrapI64, tdivE, tmodE, fdivE, andE, Int.toNat_natCast, Int.reduceToNat, tn8, IntKind.bits, Nat.min_eq_left, Nat.min_eq_right, Int.reducePow, Nat.reducePow, Int.reduceAdd]); (try simp only [wrapU8, wrapU16, wrapU32, wrapU64]); exact rfl); intro hr; simp only [rng] at hr)
       | (apply nmN.go; · (try simp (discharger := omega) only [Int.toNat_natCast, Int.reduceToNat, tnSub1, tn8]); first | (norm_cast; done) | (norm_cast; exact rfl) | exact rfl)
       | (apply Bnd.go; · first | omega | (simp only [ByteArray.size, List.size_toArray, List.length_cons, List.length_nil, Nat.reduceAdd]; omega))
       | (apply Drw.go; · kernel_rfl)
       | (apply Str.go; · repeat' (first | exact True.intro | exact rfl | apply And.intro))
       | apply SeqP.go
       | (apply askB.cmp <;> intro h <;> (first | rw [cmpP] at h | rw [cmpN] at h) <;> try omega)
       | ((with_reducible apply askB.dec) <;> intro h <;> try omega)
       | with_reducible first | apply askB.tt | apply askB.ff | apply askB.and | apply askB.not | apply askB.or | apply askB.beqs | apply askB.beq
       | (apply askB.go <;> intro h)
       | fail)
      all_goals ((try (conv => whnf)) <;> first | with_reducible rfl | (refine congrArg AV.bool ?_; simp only [cmpI, decide_eq_true_eq] <;> omega) | (refine congrArg AV.bool ?_; simp))
      all_goals trace_state
  · repeat' ((conv => whnf) <;> first
   | (apply Chk.go; · rfl)
   | (apply nm.go; (· (try simp (discharger := first | omega | (simp only [maxU8, maxU16, maxU32, maxU64]; omega) | decide) only [idU8, idU16, idU32, idU64, wrapI64, tdivE, tmodE, fdivE, andE, Int.toNat_natCast, Int.reduceToNat, tn8, IntKind.bits, Nat.min_eq_left, Nat.min_eq_right, Int.reducePow, Nat.reducePow, Int.reduceAdd]); (try simp only [wrapU8, wrapU16, wrapU32, wrapU64]); exact rfl); intro hr; simp only [rng] at hr)
   | (apply nmN.go; · (try simp (discharger := omega) only [Int.toNat_natCast, Int.reduceToNat, tnSub1, tn8]); first | (norm_cast; done) | (norm_cast; exact rfl) | exact rfl)
   | (apply Bnd.go; · first | omega | (simp only [ByteArray.size, List.size_toArray, List.length_cons, List.length_nil, Nat.reduceAdd]; omega))
   | (apply Drw.go; · kernel_rfl)
   | (apply Str.go; · repeat' (first | exact True.intro | exact rfl | apply And.intro))
   | apply SeqP.go
   | (apply askB.cmp <;> intro h <;> (first | rw [cmpP] at h | rw [cmpN] at h) <;> try omega)
   | ((with_reducible apply askB.dec) <;> intro h <;> try omega)
   | with_reducible first | apply askB.tt | apply askB.ff | apply askB.and | apply askB.not | apply askB.or | apply askB.beqs | apply askB.beq
   | (apply askB.go <;> intro h)
     | (refine Ctr.go (C := C8) (()) (trivial) ?_ ?_ ?_); (· ((repeat' ((conv => whnf) <;> (first | exact True.intro | (with_reducible exact rfl) | exact Eq.refl true | exact IdE.go rfl | apply And.intro | omega))) <;> (try (conv => whnf))); all_goals rfl); (· ((repeat' ((conv => whnf) <;> (first | exact True.intro | (with_reducible exact rfl) | exact Eq.refl true | exact IdE.go rfl | apply And.intro | omega))) <;> (try (conv => whnf))); all_goals rfl)
     | fail)
    all_goals ((try (conv => whnf)) <;> first | with_reducible rfl | (refine congrArg AV.bool ?_; simp only [cmpI, decide_eq_true_eq] <;> omega) | (refine congrArg AV.bool ?_; simp))

end Go.Proofs.Ytlkaehbeapmplaa.Ax
