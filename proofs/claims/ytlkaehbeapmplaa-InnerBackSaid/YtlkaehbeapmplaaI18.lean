/- Contracts of functions of the program, walked over abstract values. -/
import Derived.Test.YtlkaehbeapmplaaI17
set_option linter.unusedSimpArgs false
set_option linter.unusedVariables false
namespace Go.Proofs.Ytlkaehbeapmplaa.Ax
open Go Go.Ax Go.Proofs
attribute [local irreducible] Chk Bnd Str Kn Drw nm nmN askB SeqP LoopP FinW Ctr.spec Go.Ax.Sub IdE

noncomputable def ct3 : Specs := [(8, C8.spec), (9, C9.spec), (10, C10.spec)]
theorem ct3ok : SpecsOk Try.prog ct3 := specs_cons Try.call8 sp8 (specs_cons Try.call9 sp9a (specs_cons Try.call10 sp10 specs_nil))
theorem head_bs {f t : List Int} {n c : Int} (bf : isBs f) (bt : isBs t) (hn : 0 ≤ n ∧ n ≤ 65535) (hc : 0 ≤ c ∧ c ≤ 65535) : isBs (headI f t n c) := by
  intro z hz
  simp only [headI, List.mem_cons, List.mem_append] at hz
  rcases hz with rfl | rfl | rfl | rfl | rfl | rfl | rfl | rfl | rfl | rfl | rfl | rfl | hz | hz
  all_goals first | omega | exact bf z (List.mem_of_mem_take hz) | exact bt z (List.mem_of_mem_take hz)
theorem walk3 (s1 s2 : Bool) (f t : List Int) (m : Nat) (xs : List Int) (i y : Int) (hf : f.length = 16 ∧ isBs f) (ht : t.length = 16 ∧ isBs t) (hm : xs.length = m) (hb : isBs xs) (hi : rng .i64 i) (hy : rng .u8 y) : bodyA tab ct3 0 code3 Try.f3.results.toList ⟨argsE 0 [.st [.bool s1, .arr .u8 16 f], .st [.bool s2, .arr .u8 16 t], .rs (.arr .u8 m xs), .int .i64 i, .int .u8 y], [], 0, []⟩ fun _ v => v = .bool true := by
  have hy' : 0 ≤ y ∧ y ≤ 255 := hy
  by_cases hg : m ≤ 1000 ∧ s1 = false ∧ 1 ≤ i ∧ i ≤ 19 ∧ y ≠ 0
  · obtain ⟨g1, rfl, g3, g4, g5⟩ := hg
    by_cases he : wE f s2 t = 0
    · have hW : wF f s2 t m xs = headI f t ((m : Int) + 20) (ckI f t ((m : Int) + 20)) ++ xs := if_pos he
      have b0 := head_bs (n := (m : Int) + 20) (c := 0) hf.2 ht.2 (by omega) (by omega)
      have hs := sumE_rng (sumW_rng b0 0).1
      have hc : 0 ≤ ckI f t ((m : Int) + 20) ∧ ckI f t ((m : Int) + 20) ≤ 65535 := by unfold ckI; omega
      have b1 := head_bs (n := (m : Int) + 20) hf.2 ht.2 (by omega) hc
      have hl20 := headI_len hf.1 ht.1 ((m : Int) + 20) (ckI f t ((m : Int) + 20))
      have hT := fun v hv hn => turned (xs := xs) (i := i.toNat) (v := v) hl20 b1 b0 (by omega) hv hn
      rw [← hW] at hT
      have hWl : (wF f s2 t m xs).length = 20 + m := by rw [hW, List.length_append, hl20, hm]
      have hWb : isBs (wF f s2 t m xs) := by
        rw [hW]
        intro z hz
        rcases List.mem_append.1 hz with h | h
        · exact b1 z h
        · exact hb z h
      obtain ⟨W, hWW⟩ : ∃ W, W = wF f s2 t m xs := ⟨_, rfl⟩
      rw [← hWW] at hT hWl hWb
      obtain ⟨L, hL⟩ : ∃ L, L = (wF f s2 t m xs).length := ⟨_, rfl⟩
      have hLm : L = 20 + m := by rw [hL, ← hWW, hWl]
      have hx := bs_at hWb (i := i.toNat) (by omega)
      have hne := xor_ne hx hy' g5
      repeat' ((conv => whnf) <;> first
       | (apply Chk.go; · rfl)
       | (apply nm.go; (· (try simp (discharger := first | omega | (simp only [maxU8, maxU16, maxU32, maxU64]; omega) | decide) only [idU8, idU16, idU32, idU64, wrapI64, tdivE, tmodE, fdivE, andE, Int.toNat_natCast, Int.reduceToNat, tn8, IntKind.bits, Nat.min_eq_left, Nat.min_eq_right, Int.reducePow, Nat.reducePow, Int.reduceAdd]); (try simp only [wrapU8, wrapU16, wrapU32, wrapU64]); exact rfl); intro hr; simp only [rng] at hr)
       | (apply nmN.go; · (try simp (discharger := omega) only [Int.toNat_natCast, Int.reduceToNat, tnSub1, tn8]); first | (norm_cast; done) | (norm_cast; exact rfl) | exact rfl)
       | (apply Bnd.go; · first | omega | (simp only [ByteArray.size, List.size_toArray, List.length_cons, List.length_nil, Nat.reduceAdd]; omega))
       | (apply Drw.go; · kernel_rfl)
       | (apply Str.go; · repeat' (first | exact True.intro | exact rfl | apply And.intro))
       | apply SeqP.go
       | (apply askB.cmp; first | ((· intro h; rw [cmpP] at h; omega); intro h; rw [cmpN] at h) | (rotate_left; (· intro h; rw [cmpN] at h; omega); intro h; rw [cmpP] at h))
       | ((with_reducible apply askB.dec); first | ((· intro h; omega); intro h) | (rotate_left; (· intro h; first | exact absurd rfl h | omega); intro h))
       | ((with_reducible apply askB.ndec); first | ((· intro h; first | exact absurd rfl h | omega); intro h) | (rotate_left; (· intro h; omega); intro h))
       | with_reducible first | apply askB.tt | apply askB.ff | apply askB.and | apply askB.not | apply askB.or | apply askB.beqs | apply askB.beq)
      (refine Ctr.goE (C := C9) ((f, s2, t, m, xs)) (⟨hf, ht, ⟨hm, hb⟩, by omega⟩) (fun nx => .tup [.ow nx 5, .int .i64 0]) (fun _ => [.arr .u8 L W]) (by first | (simp only [C9, he]; done) | (simp only [C9, hL, hWW])) (by first | (simp only [C9, he]; done) | (simp only [C9, hL, hWW])) ?_ ?_ ?_); (· ((repeat' ((conv => whnf) <;> (first | exact True.intro | (with_reducible exact rfl) | exact Eq.refl true | exact IdE.go rfl | apply And.intro | omega))) <;> (try (conv => whnf))); all_goals rfl); (· ((repeat' ((conv => whnf) <;> (first | exact True.intro | (with_reducible exact rfl) | exact Eq.refl true | exact IdE.go rfl | apply And.intro | omega))) <;> (try (conv => whnf))); all_goals rfl)
      repeat' ((conv => whnf) <;> first
       | (apply Chk.go; · rfl)
       | (apply nm.go; (· (try simp (discharger := first | omega | (simp only [maxU8, maxU16, maxU32, maxU64]; omega) | decide) only [idU8, idU16, idU32, idU64, wrapI64, tdivE, tmodE, fdivE, andE, Int.toNat_natCast, Int.reduceToNat, tn8, IntKind.bits, Nat.min_eq_left, Nat.min_eq_right, Int.reducePow, Nat.reducePow, Int.reduceAdd]); (try simp only [wrapU8, wrapU16, wrapU32, wrapU64]); exact rfl); intro hr; simp only [rng] at hr)
       | (apply nmN.go; · (try simp (discharger := omega) only [Int.toNat_natCast, Int.reduceToNat, tnSub1, tn8]); first | (norm_cast; done) | (norm_cast; exact rfl) | exact rfl)
       | (apply Bnd.go; · first | omega | (simp only [ByteArray.size, List.size_toArray, List.length_cons, List.length_nil, Nat.reduceAdd]; omega))
       | (apply Drw.go; · kernel_rfl)
       | (apply Str.go; · repeat' (first | exact True.intro | exact rfl | apply And.intro))
       | apply SeqP.go
       | (apply askB.cmp; first | ((· intro h; rw [cmpP] at h; omega); intro h; rw [cmpN] at h) | (rotate_left; (· intro h; rw [cmpN] at h; omega); intro h; rw [cmpP] at h))
       | ((with_reducible apply askB.dec); first | ((· intro h; omega); intro h) | (rotate_left; (· intro h; first | exact absurd rfl h | omega); intro h))
       | ((with_reducible apply askB.ndec); first | ((· intro h; first | exact absurd rfl h | omega); intro h) | (rotate_left; (· intro h; omega); intro h))
       | with_reducible first | apply askB.tt | apply askB.ff | apply askB.and | apply askB.not | apply askB.or | apply askB.beqs | apply askB.beq)
      have hz : 0 ≤ bitsI .xor .u8 (W.getD i.toNat 0) y ∧ bitsI .xor .u8 (W.getD i.toNat 0) y ≤ 255 := by assumption
      generalize bitsI .xor .u8 (W.getD i.toNat 0) y = z at *
      have h5 := hT z hz hne
      obtain ⟨a1, a2, a3, a4⟩ := read_no (xs := W.set i.toNat z) (by omega)
      have hbz : isBs (W.set i.toNat z) := by
        intro q hq
        rcases List.mem_or_eq_of_mem_set hq with h | h
        · exact hWb q h
        · omega
      (refine Ctr.frzE (C := C10) ((L, W.set i.toNat z)) (⟨by rw [List.length_set]; omega, by omega, hbz⟩) (fun _ => .tup [.st [.st [.bool false, .arr .u8 16 (List.replicate 16 0)], .st [.bool false, .arr .u8 16 (List.replicate 16 0)], .int .i64 0], .int .i64 50]) (fun _ => []) (by first | (simp only [C10, a1, a2, a3, a4, h5]; done) | (simp only [C10, a1, a2, a3, a4, h5]; rfl)) (by first | (simp only [C10, a1, a2, a3, a4, h5]; done) | (simp only [C10, a1, a2, a3, a4, h5]; rfl)) rfl ?_ ?_ ?_); (· ((repeat' ((conv => whnf) <;> (first | exact True.intro | (with_reducible exact rfl) | exact Eq.refl true | exact IdE.go rfl | apply And.intro | omega))) <;> (try (conv => whnf))); all_goals rfl); (· ((repeat' ((conv => whnf) <;> (first | exact True.intro | (with_reducible exact rfl) | exact Eq.refl true | exact IdE.go rfl | apply And.intro | omega))) <;> (try (conv => whnf))); all_goals rfl)
      repeat' ((conv => whnf) <;> first
       | (apply Chk.go; · rfl)
       | (apply nm.go; (· (try simp (discharger := first | omega | (simp only [maxU8, maxU16, maxU32, maxU64]; omega) | decide) only [idU8, idU16, idU32, idU64, wrapI64, tdivE, tmodE, fdivE, andE, Int.toNat_natCast, Int.reduceToNat, tn8, IntKind.bits, Nat.min_eq_left, Nat.min_eq_right, Int.reducePow, Nat.reducePow, Int.reduceAdd]); (try simp only [wrapU8, wrapU16, wrapU32, wrapU64]); exact rfl); intro hr; simp only [rng] at hr)
       | (apply nmN.go; · (try simp (discharger := omega) only [Int.toNat_natCast, Int.reduceToNat, tnSub1, tn8]); first | (norm_cast; done) | (norm_cast; exact rfl) | exact rfl)
       | (apply Bnd.go; · first | omega | (simp only [ByteArray.size, List.size_toArray, List.length_cons, List.length_nil, Nat.reduceAdd]; omega))
       | (apply Drw.go; · kernel_rfl)
       | (apply Str.go; · repeat' (first | exact True.intro | exact rfl | apply And.intro))
       | apply SeqP.go
       | (apply askB.cmp; first | ((· intro h; rw [cmpP] at h; omega); intro h; rw [cmpN] at h) | (rotate_left; (· intro h; rw [cmpN] at h; omega); intro h; rw [cmpP] at h))
       | ((with_reducible apply askB.dec); first | ((· intro h; omega); intro h) | (rotate_left; (· intro h; first | exact absurd rfl h | omega); intro h))
       | ((with_reducible apply askB.ndec); first | ((· intro h; first | exact absurd rfl h | omega); intro h) | (rotate_left; (· intro h; omega); intro h))
       | with_reducible first | apply askB.tt | apply askB.ff | apply askB.and | apply askB.not | apply askB.or | apply askB.beqs | apply askB.beq)
      (refine Ctr.go (C := C8) (()) (trivial) ?_ ?_ ?_); (· ((repeat' ((conv => whnf) <;> (first | exact True.intro | (with_reducible exact rfl) | exact Eq.refl true | exact IdE.go rfl | apply And.intro | omega))) <;> (try (conv => whnf))); all_goals rfl); (· ((repeat' ((conv => whnf) <;> (first | exact True.intro | (with_reducible exact rfl) | exact Eq.refl true | exact IdE.go rfl | apply And.intro | omega))) <;> (try (conv => whnf))); all_goals rfl)
      repeat' ((conv => whnf) <;> first
       | (apply Chk.go; · rfl)
       | (apply nm.go; (· (try simp (discharger := first | omega | (simp only [maxU8, maxU16, maxU32, maxU64]; omega) | decide) only [idU8, idU16, idU32, idU64, wrapI64, tdivE, tmodE, fdivE, andE, Int.toNat_natCast, Int.reduceToNat, tn8, IntKind.bits, Nat.min_eq_left, Nat.min_eq_right, Int.reducePow, Nat.reducePow, Int.reduceAdd]); (try simp only [wrapU8, wrapU16, wrapU32, wrapU64]); exact rfl); intro hr; simp only [rng] at hr)
       | (apply nmN.go; · (try simp (discharger := omega) only [Int.toNat_natCast, Int.reduceToNat, tnSub1, tn8]); first | (norm_cast; done) | (norm_cast; exact rfl) | exact rfl)
       | (apply Bnd.go; · first | omega | (simp only [ByteArray.size, List.size_toArray, List.length_cons, List.length_nil, Nat.reduceAdd]; omega))
       | (apply Drw.go; · kernel_rfl)
       | (apply Str.go; · repeat' (first | exact True.intro | exact rfl | apply And.intro))
       | apply SeqP.go
       | (apply askB.cmp <;> intro h <;> (first | rw [cmpP] at h | rw [cmpN] at h) <;> try omega)
       | ((with_reducible apply askB.dec) <;> intro h <;> try omega)
       | with_reducible first | apply askB.tt | apply askB.ff | apply askB.and | apply askB.not | apply askB.or | apply askB.beqs | apply askB.beq
       | (apply askB.go <;> intro h)
       | fail)
      all_goals first | exact absurd rfl h | skip
      all_goals ((try (conv => whnf)) <;> first | with_reducible rfl | (refine congrArg AV.bool ?_; simp only [cmpI, decide_eq_true_eq] <;> omega) | (refine congrArg AV.bool ?_; simp))
      all_goals trace_state
    · have hW : wF f s2 t m xs = [] := if_neg he
      obtain ⟨E, hE⟩ : ∃ E, E = wE f s2 t := ⟨_, rfl⟩
      rw [← hE] at he
      repeat' ((conv => whnf) <;> first
       | (apply Chk.go; · rfl)
       | (apply nm.go; (· (try simp (discharger := first | omega | (simp only [maxU8, maxU16, maxU32, maxU64]; omega) | decide) only [idU8, idU16, idU32, idU64, wrapI64, tdivE, tmodE, fdivE, andE, Int.toNat_natCast, Int.reduceToNat, tn8, IntKind.bits, Nat.min_eq_left, Nat.min_eq_right, Int.reducePow, Nat.reducePow, Int.reduceAdd]); (try simp only [wrapU8, wrapU16, wrapU32, wrapU64]); exact rfl); intro hr; simp only [rng] at hr)
       | (apply nmN.go; · (try simp (discharger := omega) only [Int.toNat_natCast, Int.reduceToNat, tnSub1, tn8]); first | (norm_cast; done) | (norm_cast; exact rfl) | exact rfl)
       | (apply Bnd.go; · first | omega | (simp only [ByteArray.size, List.size_toArray, List.length_cons, List.length_nil, Nat.reduceAdd]; omega))
       | (apply Drw.go; · kernel_rfl)
       | (apply Str.go; · repeat' (first | exact True.intro | exact rfl | apply And.intro))
       | apply SeqP.go
       | (apply askB.cmp; first | ((· intro h; rw [cmpP] at h; omega); intro h; rw [cmpN] at h) | (rotate_left; (· intro h; rw [cmpN] at h; omega); intro h; rw [cmpP] at h))
       | ((with_reducible apply askB.dec); first | ((· intro h; omega); intro h) | (rotate_left; (· intro h; first | exact absurd rfl h | omega); intro h))
       | ((with_reducible apply askB.ndec); first | ((· intro h; first | exact absurd rfl h | omega); intro h) | (rotate_left; (· intro h; omega); intro h))
       | with_reducible first | apply askB.tt | apply askB.ff | apply askB.and | apply askB.not | apply askB.or | apply askB.beqs | apply askB.beq)
      (refine Ctr.goE (C := C9) ((f, s2, t, m, xs)) (⟨hf, ht, ⟨hm, hb⟩, by omega⟩) (fun nx => .tup [.ow nx 5, .int .i64 E]) (fun _ => [.arr .u8 0 []]) (by first | (simp only [C9, ← hE]; done) | (simp only [C9, hW]; rfl)) (by first | (simp only [C9, ← hE]; done) | (simp only [C9, hW]; rfl)) ?_ ?_ ?_); (· ((repeat' ((conv => whnf) <;> (first | exact True.intro | (with_reducible exact rfl) | exact Eq.refl true | exact IdE.go rfl | apply And.intro | omega))) <;> (try (conv => whnf))); all_goals rfl); (· ((repeat' ((conv => whnf) <;> (first | exact True.intro | (with_reducible exact rfl) | exact Eq.refl true | exact IdE.go rfl | apply And.intro | omega))) <;> (try (conv => whnf))); all_goals rfl)
      repeat' ((conv => whnf) <;> first
       | (apply Chk.go; · rfl)
       | (apply nm.go; (· (try simp (discharger := first | omega | (simp only [maxU8, maxU16, maxU32, maxU64]; omega) | decide) only [idU8, idU16, idU32, idU64, wrapI64, tdivE, tmodE, fdivE, andE, Int.toNat_natCast, Int.reduceToNat, tn8, IntKind.bits, Nat.min_eq_left, Nat.min_eq_right, Int.reducePow, Nat.reducePow, Int.reduceAdd]); (try simp only [wrapU8, wrapU16, wrapU32, wrapU64]); exact rfl); intro hr; simp only [rng] at hr)
       | (apply nmN.go; · (try simp (discharger := omega) only [Int.toNat_natCast, Int.reduceToNat, tnSub1, tn8]); first | (norm_cast; done) | (norm_cast; exact rfl) | exact rfl)
       | (apply Bnd.go; · first | omega | (simp only [ByteArray.size, List.size_toArray, List.length_cons, List.length_nil, Nat.reduceAdd]; omega))
       | (apply Drw.go; · kernel_rfl)
       | (apply Str.go; · repeat' (first | exact True.intro | exact rfl | apply And.intro))
       | apply SeqP.go
       | (apply askB.cmp; first | ((· intro h; rw [cmpP] at h; omega); intro h; rw [cmpN] at h) | (rotate_left; (· intro h; rw [cmpN] at h; omega); intro h; rw [cmpP] at h))
       | ((with_reducible apply askB.dec); first | ((· intro h; omega); intro h) | (rotate_left; (· intro h; first | exact absurd rfl h | omega); intro h))
       | ((with_reducible apply askB.ndec); first | ((· intro h; first | exact absurd rfl h | omega); intro h) | (rotate_left; (· intro h; omega); intro h))
       | with_reducible first | apply askB.tt | apply askB.ff | apply askB.and | apply askB.not | apply askB.or | apply askB.beqs | apply askB.beq)
      (refine Ctr.go (C := C8) (()) (trivial) ?_ ?_ ?_); (· ((repeat' ((conv => whnf) <;> (first | exact True.intro | (with_reducible exact rfl) | exact Eq.refl true | exact IdE.go rfl | apply And.intro | omega))) <;> (try (conv => whnf))); all_goals rfl); (· ((repeat' ((conv => whnf) <;> (first | exact True.intro | (with_reducible exact rfl) | exact Eq.refl true | exact IdE.go rfl | apply And.intro | omega))) <;> (try (conv => whnf))); all_goals rfl)
      repeat' ((conv => whnf) <;> first
       | (apply Chk.go; · rfl)
       | (apply nm.go; (· (try simp (discharger := first | omega | (simp only [maxU8, maxU16, maxU32, maxU64]; omega) | decide) only [idU8, idU16, idU32, idU64, wrapI64, tdivE, tmodE, fdivE, andE, Int.toNat_natCast, Int.reduceToNat, tn8, IntKind.bits, Nat.min_eq_left, Nat.min_eq_right, Int.reducePow, Nat.reducePow, Int.reduceAdd]); (try simp only [wrapU8, wrapU16, wrapU32, wrapU64]); exact rfl); intro hr; simp only [rng] at hr)
       | (apply nmN.go; · (try simp (discharger := omega) only [Int.toNat_natCast, Int.reduceToNat, tnSub1, tn8]); first | (norm_cast; done) | (norm_cast; exact rfl) | exact rfl)
       | (apply Bnd.go; · first | omega | (simp only [ByteArray.size, List.size_toArray, List.length_cons, List.length_nil, Nat.reduceAdd]; omega))
       | (apply Drw.go; · kernel_rfl)
       | (apply Str.go; · repeat' (first | exact True.intro | exact rfl | apply And.intro))
       | apply SeqP.go
       | (apply askB.cmp; first | ((· intro h; rw [cmpP] at h; omega); intro h; rw [cmpN] at h) | (rotate_left; (· intro h; rw [cmpN] at h; omega); intro h; rw [cmpP] at h))
       | ((with_reducible apply askB.dec); first | ((· intro h; omega); intro h) | (rotate_left; (· intro h; first | exact absurd rfl h | omega); intro h))
       | ((with_reducible apply askB.ndec); first | ((· intro h; first | exact absurd rfl h | omega); intro h) | (rotate_left; (· intro h; omega); intro h))
       | with_reducible first | apply askB.tt | apply askB.ff | apply askB.and | apply askB.not | apply askB.or | apply askB.beqs | apply askB.beq)
      (try (conv => whnf)) <;> first | with_reducible rfl | (refine congrArg AV.bool ?_; simp only [cmpI, decide_eq_true_eq] <;> omega) | (refine congrArg AV.bool ?_; simp)
  · cases s1 with
    | true =>
      repeat' ((conv => whnf) <;> first
       | (apply Chk.go; · rfl)
       | (apply nm.go; (· (try simp (discharger := first | omega | (simp only [maxU8, maxU16, maxU32, maxU64]; omega) | decide) only [idU8, idU16, idU32, idU64, wrapI64, tdivE, tmodE, fdivE, andE, Int.toNat_natCast, Int.reduceToNat, tn8, IntKind.bits, Nat.min_eq_left, Nat.min_eq_right, Int.reducePow, Nat.reducePow, Int.reduceAdd]); (try simp only [wrapU8, wrapU16, wrapU32, wrapU64]); exact rfl); intro hr; simp only [rng] at hr)
       | (apply nmN.go; · (try simp (discharger := omega) only [Int.toNat_natCast, Int.reduceToNat, tnSub1, tn8]); first | (norm_cast; done) | (norm_cast; exact rfl) | exact rfl)
       | (apply Bnd.go; · first | omega | (simp only [ByteArray.size, List.size_toArray, List.length_cons, List.length_nil, Nat.reduceAdd]; omega))
       | (apply Drw.go; · kernel_rfl)
       | (apply Str.go; · repeat' (first | exact True.intro | exact rfl | apply And.intro))
       | apply SeqP.go
       | (apply askB.cmp <;> intro h <;> (first | rw [cmpP] at h | rw [cmpN] at h) <;> try omega)
       | ((with_reducible apply askB.dec) <;> intro h <;> try omega)
       | with_reducible first | apply askB.tt | apply askB.ff | apply askB.and | apply askB.not | apply askB.or | apply askB.beqs | apply askB.beq
       | (apply askB.go <;> intro h)
       | (refine Ctr.go (C := C8) (()) (trivial) ?_ ?_ ?_); (· ((repeat' ((conv => whnf) <;> (first | exact True.intro | (with_reducible exact rfl) | exact Eq.refl true | exact IdE.go rfl | apply And.intro | omega))) <;> (try (conv => whnf))); all_goals rfl); (· ((repeat' ((conv => whnf) <;> (first | exact True.intro | (with_reducible exact rfl) | exact Eq.refl true | exact IdE.go rfl | apply And.intro | omega))) <;> (try (conv => whnf))); all_goals rfl)
       | fail)
      all_goals ((try (conv => whnf)) <;> first | with_reducible rfl | (refine congrArg AV.bool ?_; simp only [cmpI, decide_eq_true_eq] <;> omega) | (refine congrArg AV.bool ?_; simp))
    | false =>
      have hg' : ¬ (m ≤ 1000 ∧ 1 ≤ i ∧ i ≤ 19 ∧ y ≠ 0) := fun h => hg ⟨h.1, rfl, h.2⟩
      repeat' ((conv => whnf) <;> first
       | (apply Chk.go; · rfl)
       | (apply nm.go; (· (try simp (discharger := first | omega | (simp only [maxU8, maxU16, maxU32, maxU64]; omega) | decide) only [idU8, idU16, idU32, idU64, wrapI64, tdivE, tmodE, fdivE, andE, Int.toNat_natCast, Int.reduceToNat, tn8, IntKind.bits, Nat.min_eq_left, Nat.min_eq_right, Int.reducePow, Nat.reducePow, Int.reduceAdd]); (try simp only [wrapU8, wrapU16, wrapU32, wrapU64]); exact rfl); intro hr; simp only [rng] at hr)
       | (apply nmN.go; · (try simp (discharger := omega) only [Int.toNat_natCast, Int.reduceToNat, tnSub1, tn8]); first | (norm_cast; done) | (norm_cast; exact rfl) | exact rfl)
       | (apply Bnd.go; · first | omega | (simp only [ByteArray.size, List.size_toArray, List.length_cons, List.length_nil, Nat.reduceAdd]; omega))
       | (apply Drw.go; · kernel_rfl)
       | (apply Str.go; · repeat' (first | exact True.intro | exact rfl | apply And.intro))
       | apply SeqP.go
       | (apply askB.cmp <;> intro h <;> (first | rw [cmpP] at h | rw [cmpN] at h) <;> try omega)
       | ((with_reducible apply askB.dec) <;> intro h <;> try omega)
       | with_reducible first | apply askB.tt | apply askB.ff | apply askB.and | apply askB.not | apply askB.or | apply askB.beqs | apply askB.beq
       | (apply askB.go <;> intro h)
       | (refine Ctr.go (C := C8) (()) (trivial) ?_ ?_ ?_); (· ((repeat' ((conv => whnf) <;> (first | exact True.intro | (with_reducible exact rfl) | exact Eq.refl true | exact IdE.go rfl | apply And.intro | omega))) <;> (try (conv => whnf))); all_goals rfl); (· ((repeat' ((conv => whnf) <;> (first | exact True.intro | (with_reducible exact rfl) | exact Eq.refl true | exact IdE.go rfl | apply And.intro | omega))) <;> (try (conv => whnf))); all_goals rfl)
       | fail)
      all_goals first | (exfalso; omega) | ((try (conv => whnf)) <;> first | with_reducible rfl | (refine congrArg AV.bool ?_; simp only [cmpI, decide_eq_true_eq] <;> omega) | (refine congrArg AV.bool ?_; simp))

end Go.Proofs.Ytlkaehbeapmplaa.Ax
