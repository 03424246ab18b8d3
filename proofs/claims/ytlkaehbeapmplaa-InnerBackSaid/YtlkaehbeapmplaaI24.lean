/- Contracts of functions of the program, walked over abstract values. -/
import Derived.Test.YtlkaehbeapmplaaI23
set_option linter.unusedSimpArgs false
set_option linter.unusedVariables false
namespace Go.Proofs.Ytlkaehbeapmplaa.Ax
open Go Go.Ax Go.Proofs
attribute [local irreducible] Chk Bnd Str Kn Drw nm nmN askB SeqP LoopP FinW Ctr.spec Go.Ax.Sub IdE

theorem back {s1 s2 : Bool} {f t xs : List Int} {m : Nat} (hf : f.length = 16 ∧ isBs f) (ht : t.length = 16 ∧ isBs t) (hl : xs.length = m) (hb : isBs xs) (he : vE s1 f s2 t m = 0) :
    s1 = s2 ∧ (vF s1 f s2 t m xs).length ≤ 1500 ∧ isBs (vF s1 f s2 t m xs) ∧ ∀ zs, rS (vF s1 f s2 t m xs ++ zs) = s1 ∧ rF (vF s1 f s2 t m xs ++ zs) = f ∧ rT (vF s1 f s2 t m xs ++ zs) = t ∧ rN (vF s1 f s2 t m xs ++ zs) = (vF s1 f s2 t m xs).length ∧ rE (vF s1 f s2 t m xs ++ zs) = 0 := by
  have hc : rightB s1 f = true ∧ rightB s2 t = true ∧ s1 = s2 := by
    by_cases h : rightB s1 f = true ∧ rightB s2 t = true ∧ s1 = s2
    · exact h
    · have := (v40 (m := m) h xs).1; omega
  obtain ⟨rf, rt, rfl⟩ := hc
  have hm : m ≤ (if s1 then 1460 else 1480) := by
    by_cases h : m ≤ (if s1 then 1460 else 1480)
    · exact h
    · have := (v2 (m := m) rf rt h xs).1; omega
  have e2 : vF s1 f s1 t m xs = (if s1 then head6 f t m else headI f t ((m : Int) + 20) (ckI f t ((m : Int) + 20))) ++ xs := if_pos he
  refine ⟨rfl, ?_⟩
  cases s1 with
  | true =>
    have hm' : m ≤ 1460 := hm
    have e3 : vF true f true t m xs = head6 f t m ++ xs := e2
    have e4 : (vF true f true t m xs).length = 40 + m := by rw [e3, List.length_append, h6_len hf.1 ht.1, hl]
    refine ⟨by omega, ?_, fun zs => ?_⟩
    · rw [e3]
      intro z hz
      rcases List.mem_append.1 hz with h | h
      · exact h6_bs hf.2 ht.2 (by omega) z h
      · exact hb z h
    · obtain ⟨a1, a2, a3, a4, a5⟩ := back6 (zs := zs) hf.1 ht.1 hl
      rw [← e3] at a1 a2 a3 a4 a5
      exact ⟨a1, a2, a3, by omega, a5⟩
  | false =>
    have hm' : m ≤ 1480 := hm
    have e3 : vF false f false t m xs = headI f t ((m : Int) + 20) (ckI f t ((m : Int) + 20)) ++ xs := e2
    have e4 : (vF false f false t m xs).length = 20 + m := by rw [e3, List.length_append, headI_len hf.1 ht.1, hl]
    have b0 := head_bs (n := (m : Int) + 20) (c := 0) hf.2 ht.2 (by omega) (by omega)
    have hs := sumE_rng (sumW_rng b0 0).1
    have hc : 0 ≤ ckI f t ((m : Int) + 20) ∧ ckI f t ((m : Int) + 20) ≤ 65535 := by unfold ckI; omega
    refine ⟨by omega, ?_, fun zs => ?_⟩
    · rw [e3]
      intro z hz
      rcases List.mem_append.1 hz with h | h
      · exact head_bs hf.2 ht.2 (by omega) hc z h
      · exact hb z h
    · obtain ⟨a1, a2, a3, a4, a5⟩ := back4 (zs := zs) hf ht hl hm' rf rt
      rw [← e3] at a1 a2 a3 a4 a5
      exact ⟨a1, a2, a3, by omega, a5⟩

noncomputable def ct7 : Specs := [(8, C8.spec), (9, D9.spec), (14, C14.spec), (10, C10.spec), (13, C13.spec)]
theorem ct7ok : SpecsOk Try.prog ct7 := specs_cons Try.call8 sp8 (specs_cons Try.call9 sp9e (specs_cons Try.call14 sp14 (specs_cons Try.call10 sp10 (specs_cons Try.call13 sp13 specs_nil))))
theorem walk7 (s1 s2 : Bool) (f t : List Int) (m : Nat) (xs : List Int) (hf : f.length = 16 ∧ isBs f) (ht : t.length = 16 ∧ isBs t) (hm : xs.length = m) (hb : isBs xs) : bodyA tab ct7 0 code7 Try.f7.results.toList ⟨argsE 0 [.st [.bool s1, .arr .u8 16 f], .st [.bool s2, .arr .u8 16 t], .rs (.arr .u8 m xs)], [], 0, []⟩ fun _ v => v = .bool true := by
  by_cases hg : m ≤ 2000
  · by_cases he : vE s1 f s2 t m = 0
    · obtain ⟨rfl, q1, q2, q3⟩ := back hf ht hm hb he
      obtain ⟨W, hW⟩ : ∃ W, W = vF s1 f s1 t m xs := ⟨_, rfl⟩
      obtain ⟨L, hL⟩ : ∃ L, L = (vF s1 f s1 t m xs).length := ⟨_, rfl⟩
      rw [← hW] at q2 q3
      rw [← hL] at q1
      have hWL : W.length = L := by rw [hW, hL]
      rw [hWL] at q3
      have e14 : fillF L W = W ++ List.replicate ((L + 15) / 16 * 16 - L) 0 := if_pos q1
      obtain ⟨C, hC⟩ : ∃ C, C = fillF L W := ⟨_, rfl⟩
      obtain ⟨N, hN⟩ : ∃ N, N = (fillF L W).length := ⟨_, rfl⟩
      have hNv : N = (L + 15) / 16 * 16 := by rw [hN, e14, List.length_append, List.length_replicate, hWL]; omega
      obtain ⟨a1, a2, a3, a4, a5⟩ := q3 (List.replicate ((L + 15) / 16 * 16 - L) 0)
      rw [← e14, ← hC] at a1 a2 a3 a4 a5
      have hCb : isBs C := by
        rw [hC, e14]
        intro z hz
        rcases List.mem_append.1 hz with h | h
        · exact q2 z h
        · exact rep_bs _ z h
      have hCN : C.length = N := by rw [hC, hN]
      have hcut : cutF C = W := by
        unfold cutF
        rw [if_pos a5, a4, Int.toNat_natCast, hC, e14, List.take_left' hWL]
      have hfe : (if L ≤ 1500 then (0 : Int) else 2) = 0 := if_pos q1
      have hstr : decide (ofBs W = ofBs W) = true := decide_eq_true rfl
      repeat' ((conv => whnf) <;> first
       | (apply Chk.go; · rfl)
       | (apply nm.go; (· (try simp (discharger := first | omega | (simp only [maxU8, maxU16, maxU32, maxU64]; omega) | decide) only [idU8, idU16, idU32, idU64, wrapI64, tdivE, tmodE, fdivE, andE, Int.toNat_natCast, Int.reduceToNat, tn8, IntKind.bits, Nat.min_eq_left, Nat.min_eq_right, Int.reducePow, Nat.reducePow, Int.reduceAdd]); (try simp only [wrapU8, wrapU16, wrapU32, wrapU64]); exact rfl); intro hr; simp only [rng] at hr)
       | (apply nmN.go; · (try simp (discharger := omega) only [Int.toNat_natCast, Int.reduceToNat, tnSub1, tn8]); first | (norm_cast; done) | (norm_cast; exact rfl) | exact rfl)
       | (apply Bnd.go; · first | omega | (simp only [ByteArray.size, List.size_toArray, List.length_cons, List.length_nil, Nat.reduceAdd]; omega))
       | (apply Drw.go; · kernel_rfl)
       | (apply Str.go; · repeat' (first | exact True.intro | exact rfl | apply And.intro))
       | apply SeqP.go
       | (apply askB.cmp; first | ((· intro h; rw [cmpP] at h; omega); intro h; rw [cmpN] at h) | (rotate_left; (· intro h; rw [cmpN] at h; omega); intro h; rw [cmpP] at h))
       | ((with_reducible apply askB.dec); first | ((· intro h; omega); intro h) | (rotate_left; (· intro h; first | exact absurd rfl h | omega); intro h))
       | ((with_reducible apply askB.ndec); first | ((· intro h; first | exact absurd rfl h | omega); intro h) | (rotate_left; (· intro h; omega); intro h))
       | with_reducible first | apply askB.tt | apply askB.ff | apply askB.and | apply askB.not | apply askB.or | apply askB.beqs | apply askB.beq)
      (refine Ctr.goE (C := D9) ((s1, f, s1, t, m, xs)) (⟨hf, ht, ⟨hm, hb⟩, hg⟩) (fun nx => .tup [.ow nx 5, .int .i64 0]) (fun _ => [.arr .u8 L W]) (by first | (simp only [D9, he]; done) | (simp only [D9, hL, hW])) (by first | (simp only [D9, he]; done) | (simp only [D9, hL, hW])) ?_ ?_ ?_); (· ((repeat' ((conv => whnf) <;> (first | exact True.intro | (with_reducible exact rfl) | exact Eq.refl true | exact IdE.go rfl | apply And.intro | omega))) <;> (try (conv => whnf))); all_goals rfl); (· ((repeat' ((conv => whnf) <;> (first | exact True.intro | (with_reducible exact rfl) | exact Eq.refl true | exact IdE.go rfl | apply And.intro | omega))) <;> (try (conv => whnf))); all_goals rfl)
      repeat' ((conv => whnf) <;> first
       | (apply Chk.go; · rfl)
       | (apply nm.go; (· (try simp (discharger := first | omega | (simp only [maxU8, maxU16, maxU32, maxU64]; omega) | decide) only [idU8, idU16, idU32, idU64, wrapI64, tdivE, tmodE, fdivE, andE, Int.toNat_natCast, Int.reduceToNat, tn8, IntKind.bits, Nat.min_eq_left, Nat.min_eq_right, Int.reducePow, Nat.reducePow, Int.reduceAdd]); (try simp only [wrapU8, wrapU16, wrapU32, wrapU64]); exact rfl); intro hr; simp only [rng] at hr)
       | (apply nmN.go; · (try simp (discharger := omega) only [Int.toNat_natCast, Int.reduceToNat, tnSub1, tn8]); first | (norm_cast; done) | (norm_cast; exact rfl) | exact rfl)
       | (apply Bnd.go; · first | omega | (simp only [ByteArray.size, List.size_toArray, List.length_cons, List.length_nil, Nat.reduceAdd]; omega))
       | (apply Drw.go; · kernel_rfl)
       | (apply Str.go; · repeat' (first | exact True.intro | exact rfl | apply And.intro))
       | apply SeqP.go
       | (apply askB.cmp; first | ((· intro h; rw [cmpP] at h; omega); intro h; rw [cmpN] at h) | (rotate_left; (· intro h; rw [cmpN] at h; omega); intro h; rw [cmpP] at h))
       | ((with_reducible apply askB.dec); first | ((· intro h; omega); intro h) | (rotate_left; (· intro h; first | exact absurd rfl h | omega); intro h))
       | ((with_reducible apply askB.ndec); first | ((· intro h; first | exact absurd rfl h | omega); intro h) | (rotate_left; (· intro h; omega); intro h))
       | with_reducible first | apply askB.tt | apply askB.ff | apply askB.and | apply askB.not | apply askB.or | apply askB.beqs | apply askB.beq)
      (refine Ctr.frzE (C := C14) ((L, W)) (⟨hWL, by omega⟩) (fun nx => .tup [.ow nx 5, .int .i64 0]) (fun _ => [.arr .u8 N C]) (by first | (simp only [C14, hfe]; done) | (simp only [C14, hN, hC])) (by first | (simp only [C14, hfe]; done) | (simp only [C14, hN, hC])) rfl ?_ ?_ ?_); (· ((repeat' ((conv => whnf) <;> (first | exact True.intro | (with_reducible exact rfl) | exact Eq.refl true | exact IdE.go rfl | apply And.intro | omega))) <;> (try (conv => whnf))); all_goals rfl); (· ((repeat' ((conv => whnf) <;> (first | exact True.intro | (with_reducible exact rfl) | exact Eq.refl true | exact IdE.go rfl | apply And.intro | omega))) <;> (try (conv => whnf))); all_goals rfl)
      repeat' ((conv => whnf) <;> first
       | (apply Chk.go; · rfl)
       | (apply nm.go; (· (try simp (discharger := first | omega | (simp only [maxU8, maxU16, maxU32, maxU64]; omega) | decide) only [idU8, idU16, idU32, idU64, wrapI64, tdivE, tmodE, fdivE, andE, Int.toNat_natCast, Int.reduceToNat, tn8, IntKind.bits, Nat.min_eq_left, Nat.min_eq_right, Int.reducePow, Nat.reducePow, Int.reduceAdd]); (try simp only [wrapU8, wrapU16, wrapU32, wrapU64]); exact rfl); intro hr; simp only [rng] at hr)
       | (apply nmN.go; · (try simp (discharger := omega) only [Int.toNat_natCast, Int.reduceToNat, tnSub1, tn8]); first | (norm_cast; done) | (norm_cast; exact rfl) | exact rfl)
       | (apply Bnd.go; · first | omega | (simp only [ByteArray.size, List.size_toArray, List.length_cons, List.length_nil, Nat.reduceAdd]; omega))
       | (apply Drw.go; · kernel_rfl)
       | (apply Str.go; · repeat' (first | exact True.intro | exact rfl | apply And.intro))
       | apply SeqP.go
       | (apply askB.cmp; first | ((· intro h; rw [cmpP] at h; omega); intro h; rw [cmpN] at h) | (rotate_left; (· intro h; rw [cmpN] at h; omega); intro h; rw [cmpP] at h))
       | ((with_reducible apply askB.dec); first | ((· intro h; omega); intro h) | (rotate_left; (· intro h; first | exact absurd rfl h | omega); intro h))
       | ((with_reducible apply askB.ndec); first | ((· intro h; first | exact absurd rfl h | omega); intro h) | (rotate_left; (· intro h; omega); intro h))
       | with_reducible first | apply askB.tt | apply askB.ff | apply askB.and | apply askB.not | apply askB.or | apply askB.beqs | apply askB.beq)
      (refine Ctr.frzE (C := C10) ((N, C)) (⟨hCN, by omega, hCb⟩) (fun _ => .tup [.st [.st [.bool s1, .arr .u8 16 f], .st [.bool s1, .arr .u8 16 t], .int .i64 L], .int .i64 0]) (fun _ => []) (by simp only [C10, a1, a2, a3, a4, a5]) (by simp only [C10, a1, a2, a3, a4, a5]) rfl ?_ ?_ ?_); (· ((repeat' ((conv => whnf) <;> (first | exact True.intro | (with_reducible exact rfl) | exact Eq.refl true | exact IdE.go rfl | apply And.intro | omega))) <;> (try (conv => whnf))); all_goals rfl); (· ((repeat' ((conv => whnf) <;> (first | exact True.intro | (with_reducible exact rfl) | exact Eq.refl true | exact IdE.go rfl | apply And.intro | omega))) <;> (try (conv => whnf))); all_goals rfl)
      repeat' ((conv => whnf) <;> first
       | (apply Chk.go; · rfl)
       | (apply nm.go; (· (try simp (discharger := first | omega | (simp only [maxU8, maxU16, maxU32, maxU64]; omega) | decide) only [idU8, idU16, idU32, idU64, wrapI64, tdivE, tmodE, fdivE, andE, Int.toNat_natCast, Int.reduceToNat, tn8, IntKind.bits, Nat.min_eq_left, Nat.min_eq_right, Int.reducePow, Nat.reducePow, Int.reduceAdd]); (try simp only [wrapU8, wrapU16, wrapU32, wrapU64]); exact rfl); intro hr; simp only [rng] at hr)
       | (apply nmN.go; · (try simp (discharger := omega) only [Int.toNat_natCast, Int.reduceToNat, tnSub1, tn8]); first | (norm_cast; done) | (norm_cast; exact rfl) | exact rfl)
       | (apply Bnd.go; · first | omega | (simp only [ByteArray.size, List.size_toArray, List.length_cons, List.length_nil, Nat.reduceAdd]; omega))
       | (apply Drw.go; · kernel_rfl)
       | (apply Str.go; · repeat' (first | exact True.intro | exact rfl | apply And.intro))
       | apply SeqP.go
       | (apply askB.cmp; first | ((· intro h; rw [cmpP] at h; omega); intro h; rw [cmpN] at h) | (rotate_left; (· intro h; rw [cmpN] at h; omega); intro h; rw [cmpP] at h))
       | ((with_reducible apply askB.dec); first | ((· intro h; omega); intro h) | (rotate_left; (· intro h; first | exact absurd rfl h | omega); intro h))
       | ((with_reducible apply askB.ndec); first | ((· intro h; first | exact absurd rfl h | omega); intro h) | (rotate_left; (· intro h; omega); intro h))
       | with_reducible first | apply askB.tt | apply askB.ff | apply askB.and | apply askB.not | apply askB.or | apply askB.beqs | apply askB.beq)
      (refine Ctr.frzE (C := C13) ((N, C)) (⟨hCN, by omega, hCb⟩) (fun nx => .tup [.ow nx 5, .int .i64 0]) (fun _ => [.arr .u8 L W]) (by first | (simp only [C13, a5]; done) | (simp only [C13, hcut, hWL])) (by first | (simp only [C13, a5]; done) | (simp only [C13, hcut, hWL])) rfl ?_ ?_ ?_); (· ((repeat' ((conv => whnf) <;> (first | exact True.intro | (with_reducible exact rfl) | exact Eq.refl true | exact IdE.go rfl | apply And.intro | omega))) <;> (try (conv => whnf))); all_goals rfl); (· ((repeat' ((conv => whnf) <;> (first | exact True.intro | (with_reducible exact rfl) | exact Eq.refl true | exact IdE.go rfl | apply And.intro | omega))) <;> (try (conv => whnf))); all_goals rfl)
      repeat' ((conv => whnf) <;> first
       | (apply Chk.go; · rfl)
       | (apply nm.go; (· (try simp (discharger := first | omega | (simp only [maxU8, maxU16, maxU32, maxU64]; omega) | decide) only [idU8, idU16, idU32, idU64, wrapI64, tdivE, tmodE, fdivE, andE, Int.toNat_natCast, Int.reduceToNat, tn8, IntKind.bits, Nat.min_eq_left, Nat.min_eq_right, Int.reducePow, Nat.reducePow, Int.reduceAdd]); (try simp only [wrapU8, wrapU16, wrapU32, wrapU64]); exact rfl); intro hr; simp only [rng] at hr)
       | (apply nmN.go; · (try simp (discharger := omega) only [Int.toNat_natCast, Int.reduceToNat, tnSub1, tn8]); first | (norm_cast; done) | (norm_cast; exact rfl) | exact rfl)
       | (apply Bnd.go; · first | omega | (simp only [ByteArray.size, List.size_toArray, List.length_cons, List.length_nil, Nat.reduceAdd]; omega))
       | (apply Drw.go; · kernel_rfl)
       | (apply Str.go; · repeat' (first | exact True.intro | exact rfl | apply And.intro))
       | apply SeqP.go
       | (apply askB.cmp <;> intro h <;> (first | rw [cmpP] at h | rw [cmpN] at h) <;> try omega)
       | ((with_reducible apply askB.dec) <;> intro h <;> try omega)
       | with_reducible first | apply askB.tt | apply askB.ff | apply askB.and | apply askB.not | apply askB.or | apply askB.beqs | apply askB.beq
       | (apply askB.go <;> intro h)
       | (refine Ctr.go (C := C8) (()) (trivial) ?_ ?_ ?_); (· ((repeat' ((conv => whnf) <;> (first | exact True.intro | (with_reducible exact rfl) | exact Eq.refl true | exact IdE.go rfl | apply And.intro | omega))) <;> (try (conv => whnf))); all_goals rfl); (· ((repeat' ((conv => whnf) <;> (first | exact True.intro | (with_reducible exact rfl) | exact Eq.refl true | exact IdE.go rfl | apply And.intro | omega))) <;> (try (conv => whnf))); all_goals rfl)
       | fail)
      all_goals first | exact absurd rfl h | skip
      all_goals ((try (conv => whnf)) <;> first | with_reducible rfl | (refine congrArg AV.bool ?_; simp only [cmpI, decide_eq_true_eq] <;> omega) | (refine congrArg AV.bool ?_; simp))
      all_goals first | omega | trace_state
    · have hW : vF s1 f s2 t m xs = [] := if_neg he
      obtain ⟨E, hE⟩ : ∃ E, E = vE s1 f s2 t m := ⟨_, rfl⟩
      rw [← hE] at he
      repeat' ((conv => whnf) <;> first
       | (apply Chk.go; · rfl)
       | (apply nm.go; (· (try simp (discharger := first | omega | (simp only [maxU8, maxU16, maxU32, maxU64]; omega) | decide) only [idU8, idU16, idU32, idU64, wrapI64, tdivE, tmodE, fdivE, andE, Int.toNat_natCast, Int.reduceToNat, tn8, IntKind.bits, Nat.min_eq_left, Nat.min_eq_right, Int.reducePow, Nat.reducePow, Int.reduceAdd]); (try simp only [wrapU8, wrapU16, wrapU32, wrapU64]); exact rfl); intro hr; simp only [rng] at hr)
       | (apply nmN.go; · (try simp (discharger := omega) only [Int.toNat_natCast, Int.reduceToNat, tnSub1, tn8]); first | (norm_cast; done) | (norm_cast; exact rfl) | exact rfl)
       | (apply Bnd.go; · first | omega | (simp only [ByteArray.size, List.size_toArray, List.length_cons, List.length_nil, Nat.reduceAdd]; omega))
       | (apply Drw.go; · kernel_rfl)
       | (apply Str.go; · repeat' (first | exact True.intro | exact rfl | apply And.intro))
       | apply SeqP.go
       | (apply askB.cmp; first | ((· intro h; rw [cmpP] at h; omega); intro h; rw [cmpN] at h) | (rotate_left; (· intro h; rw [cmpN] at h; omega); intro h; rw [cmpP] at h))
       | ((with_reducible apply askB.dec); first | ((· intro h; omega); intro h) | (rotate_left; (· intro h; first | exact absurd rfl h | omega); intro h))
       | ((with_reducible apply askB.ndec); first | ((· intro h; first | exact absurd rfl h | omega); intro h) | (rotate_left; (· intro h; omega); intro h))
       | with_reducible first | apply askB.tt | apply askB.ff | apply askB.and | apply askB.not | apply askB.or | apply askB.beqs | apply askB.beq)
      (refine Ctr.goE (C := D9) ((s1, f, s2, t, m, xs)) (⟨hf, ht, ⟨hm, hb⟩, hg⟩) (fun nx => .tup [.ow nx 5, .int .i64 E]) (fun _ => [.arr .u8 0 []]) (by first | (simp only [D9, ← hE]; done) | (simp only [D9, hW]; rfl)) (by first | (simp only [D9, ← hE]; done) | (simp only [D9, hW]; rfl)) ?_ ?_ ?_); (· ((repeat' ((conv => whnf) <;> (first | exact True.intro | (with_reducible exact rfl) | exact Eq.refl true | exact IdE.go rfl | apply And.intro | omega))) <;> (try (conv => whnf))); all_goals rfl); (· ((repeat' ((conv => whnf) <;> (first | exact True.intro | (with_reducible exact rfl) | exact Eq.refl true | exact IdE.go rfl | apply And.intro | omega))) <;> (try (conv => whnf))); all_goals rfl)
      repeat' ((conv => whnf) <;> first
       | (apply Chk.go; · rfl)
       | (apply nm.go; (· (try simp (discharger := first | omega | (simp only [maxU8, maxU16, maxU32, maxU64]; omega) | decide) only [idU8, idU16, idU32, idU64, wrapI64, tdivE, tmodE, fdivE, andE, Int.toNat_natCast, Int.reduceToNat, tn8, IntKind.bits, Nat.min_eq_left, Nat.min_eq_right, Int.reducePow, Nat.reducePow, Int.reduceAdd]); (try simp only [wrapU8, wrapU16, wrapU32, wrapU64]); exact rfl); intro hr; simp only [rng] at hr)
       | (apply nmN.go; · (try simp (discharger := omega) only [Int.toNat_natCast, Int.reduceToNat, tnSub1, tn8]); first | (norm_cast; done) | (norm_cast; exact rfl) | exact rfl)
       | (apply Bnd.go; · first | omega | (simp only [ByteArray.size, List.size_toArray, List.length_cons, List.length_nil, Nat.reduceAdd]; omega))
       | (apply Drw.go; · kernel_rfl)
       | (apply Str.go; · repeat' (first | exact True.intro | exact rfl | apply And.intro))
       | apply SeqP.go
       | (apply askB.cmp <;> intro h <;> (first | rw [cmpP] at h | rw [cmpN] at h) <;> try omega)
       | ((with_reducible apply askB.dec) <;> intro h <;> try omega)
       | with_reducible first | apply askB.tt | apply askB.ff | apply askB.and | apply askB.not | apply askB.or | apply askB.beqs | apply askB.beq
       | (apply askB.go <;> intro h)
       | (refine Ctr.go (C := C8) (()) (trivial) ?_ ?_ ?_); (· ((repeat' ((conv => whnf) <;> (first | exact True.intro | (with_reducible exact rfl) | exact Eq.refl true | exact IdE.go rfl | apply And.intro | omega))) <;> (try (conv => whnf))); all_goals rfl); (· ((repeat' ((conv => whnf) <;> (first | exact True.intro | (with_reducible exact rfl) | exact Eq.refl true | exact IdE.go rfl | apply And.intro | omega))) <;> (try (conv => whnf))); all_goals rfl)
       | fail)
      all_goals ((try (conv => whnf)) <;> first | with_reducible rfl | (refine congrArg AV.bool ?_; simp only [cmpI, decide_eq_true_eq] <;> omega) | (refine congrArg AV.bool ?_; simp))
  · repeat' ((conv => whnf) <;> first
   | (apply Chk.go; · rfl)
   | (apply nm.go; (· (try simp (discharger := first | omega | (simp only [maxU8, maxU16, maxU32, maxU64]; omega) | decide) only [idU8, idU16, idU32, idU64, wrapI64, tdivE, tmodE, fdivE, andE, Int.toNat_natCast, Int.reduceToNat, tn8, IntKind.bits, Nat.min_eq_left, Nat.min_eq_right, Int.reducePow, Nat.reducePow, Int.reduceAdd]); (try simp only [wrapU8, wrapU16, wrapU32, wrapU64]); exact rfl); intro hr; simp only [rng] at hr)
   | (apply nmN.go; · (try simp (discharger := omega) only [Int.toNat_natCast, Int.reduceToNat, tnSub1, tn8]); first | (norm_cast; done) | (norm_cast; exact rfl) | exact rfl)
   | (apply Bnd.go; · first | omega | (simp only [ByteArray.size, List.size_toArray, List.length_cons, List.length_nil, Nat.reduceAdd]; omega))
   | (apply Drw.go; · kernel_rfl)
   | (apply Str.go; · repeat' (first | exact True.intro | exact rfl | apply And.intro))
   | apply SeqP.go
   | (apply askB.cmp <;> intro h <;> (first | rw [cmpP] at h | rw [cmpN] at h) <;> try omega)
   | ((with_reducible apply askB.dec) <;> intro h <;> try omega)
   | with_reducible first | apply askB.tt | apply askB.ff | apply askB.and | apply askB.not | apply askB.or | apply askB.beqs | apply askB.beq
   | (apply askB.go <;> intro h)
     | (refine Ctr.go (C := C8) (()) (trivial) ?_ ?_ ?_); (· ((repeat' ((conv => whnf) <;> (first | exact True.intro | (with_reducible exact rfl) | exact Eq.refl true | exact IdE.go rfl | apply And.intro | omega))) <;> (try (conv => whnf))); all_goals rfl); (· ((repeat' ((conv => whnf) <;> (first | exact True.intro | (with_reducible exact rfl) | exact Eq.refl true | exact IdE.go rfl | apply And.intro | omega))) <;> (try (conv => whnf))); all_goals rfl)
     | fail)
    all_goals ((try (conv => whnf)) <;> first | with_reducible rfl | (refine congrArg AV.bool ?_; simp only [cmpI, decide_eq_true_eq] <;> omega) | (refine congrArg AV.bool ?_; simp))

end Go.Proofs.Ytlkaehbeapmplaa.Ax
