/- Contracts of functions of the program, walked over abstract values. -/
import Derived.Test.YtehfkjjmangjlaaW25
set_option linter.unusedSimpArgs false
set_option linter.unusedVariables false
namespace Go.Proofs.Ytehfkjjmangjlaa.Ax
open Go Go.Ax Go.Proofs
attribute [local irreducible] Chk Bnd Str Kn Drw nm nmN askB SeqP LoopP FinW Ctr.spec Go.Ax.Sub IdE

theorem read_lab {t : Int} (h : 0 ≤ t ∧ t ≤ 1099511627776) : readT (lab t) = t ∧ readE (lab t) = 0 := by
  obtain ⟨b1, b2⟩ := lab_isBs t
  obtain ⟨r1, r2⟩ := hi_lo b1 b2
  have e := (lab_eq b1 b2 t h).1 rfl
  have ok : okT (lab t) := by
    unfold okT timeI
    omega
  refine ⟨(if_pos ok).trans ?_, if_pos ok⟩
  unfold timeI
  omega
theorem lab_read {xs : List Int} (hl : xs.length = 12) (hx : isBs xs) (h : readE xs = 0) : (0 ≤ readT xs ∧ readT xs ≤ 1099511627776) ∧ lab (readT xs) = xs := by
  have ok : okT xs := by
    unfold readE at h
    split at h
    · assumption
    · omega
  have e : readT xs = timeI xs := if_pos ok
  obtain ⟨r1, r2⟩ := hi_lo hx hl
  have hr : 0 ≤ timeI xs ∧ timeI xs ≤ 1099511627776 := by
    unfold okT at ok
    unfold timeI at ok ⊢
    omega
  rw [e]
  refine ⟨hr, (lab_eq hx hl _ hr).2 ?_⟩
  unfold okT at ok
  unfold timeI at ok ⊢
  omega

noncomputable def ct6 : Specs := [(18, C18.spec), (20, C20.spec), (22, C22.spec), (23, C23.spec)]
theorem ct6ok : SpecsOk Try.prog ct6 := specs_cons Try.call18 sp18 (specs_cons Try.call20 sp20 (specs_cons Try.call22 sp22 (specs_cons Try.call23 sp23 specs_nil)))
theorem read_rng (xs : List Int) (hl : xs.length = 12) (hx : isBs xs) : rng .i64 (readT xs) := by
  obtain ⟨r1, r2⟩ := hi_lo hx hl
  show -9223372036854775808 ≤ readT xs ∧ readT xs ≤ 9223372036854775807
  unfold readT
  split
  · rename_i h
    unfold okT at h
    unfold timeI at h ⊢
    omega
  · omega
theorem walk6 (t : Int) (b : List Int) (ht : rng .i64 t) (hb : b.length = 12 ∧ isBs b) : bodyA tab ct6 0 code6 Try.f6.results.toList ⟨argsE 0 [.int .i64 t, .arr .u8 12 b], [], 0, []⟩ fun _ v => v = .bool true := by
  have hu := read_rng b hb.1 hb.2
  obtain ⟨u, hU⟩ : ∃ u, u = readT b := ⟨_, rfl⟩
  have hlr := lab_read hb.1 hb.2
  rw [← hU] at hu hlr
  obtain ⟨e, hE⟩ : ∃ e, e = readE b := ⟨_, rfl⟩
  rw [← hE] at hlr
  have hg : labE u = 0 ↔ 0 ≤ u ∧ u ≤ 1099511627776 := by unfold labE; split <;> simp_all
  have hd : e = 0 → decide (lab u = b) = true := fun h => decide_eq_true (hlr h).2
  by_cases hr : 0 ≤ t ∧ t ≤ 1099511627776
  · obtain ⟨q1, q2⟩ := read_lab hr
    have p1 : labE t = 0 := if_pos hr
    obtain ⟨l1, l2⟩ := lab_isBs t
    repeat' ((conv => whnf) <;> first
     | (apply Chk.go; · rfl)
     | (apply nm.go; (· (try simp (discharger := first | omega | (simp only [maxU8, maxU16, maxU32, maxU64]; omega) | decide) only [idU8, idU16, idU32, idU64, wrapI64, tdivE, tmodE, fdivE, andE, Int.toNat_natCast, Int.reduceToNat, tn8, IntKind.bits, Nat.min_eq_left, Nat.min_eq_right, Int.reducePow, Nat.reducePow, Int.reduceAdd]); (try simp only [wrapU8, wrapU16, wrapU32, wrapU64]); exact rfl); intro hr; simp only [rng] at hr)
     | (apply nmN.go; · (try simp (discharger := omega) only [Int.toNat_natCast, Int.reduceToNat, tnSub1, tn8]); first | (norm_cast; done) | (norm_cast; exact rfl) | exact rfl)
     | (apply Bnd.go; · first | omega | (simp only [ByteArray.size, List.size_toArray, List.length_cons, List.length_nil, Nat.reduceAdd]; omega))
     | (apply Drw.go; · kernel_rfl)
     | (apply Str.go; · repeat' (first | exact True.intro | exact rfl | apply And.intro))
     | apply SeqP.go
     | (apply askB.cmp; first | ((· intro h; rw [cmpP] at h; omega); intro h; rw [cmpN] at h) | (rotate_left; (· intro h; rw [cmpN] at h; omega); intro h; rw [cmpP] at h))
     | ((with_reducible apply askB.dec); first | ((· intro h; omega); intro h) | (rotate_left; (· intro h; first | exact absurd rfl h | omega); intro h))
     | ((with_reducible apply askB.ndec); first | ((· intro h; first | exact absurd rfl h | omega); intro h) | (rotate_left; (· intro h; omega); intro h))
     | with_reducible first | apply askB.tt | apply askB.ff | apply askB.and | apply askB.not | apply askB.or | apply askB.beqs | apply askB.beq)
    (refine Ctr.goE (C := C18) (t) (ht) (fun _ => .tup [.arr .u8 12 (lab t), .int .i64 0]) (fun _ => []) (by simp only [C18, p1]) (by simp only [C18, p1]) ?_ ?_ ?_); (· ((repeat' ((conv => whnf) <;> (first | exact True.intro | (with_reducible exact rfl) | exact Eq.refl true | exact IdE.go rfl | apply And.intro | omega))) <;> (try (conv => whnf))); all_goals rfl); (· ((repeat' ((conv => whnf) <;> (first | exact True.intro | (with_reducible exact rfl) | exact Eq.refl true | exact IdE.go rfl | apply And.intro | omega))) <;> (try (conv => whnf))); all_goals rfl)
    repeat' ((conv => whnf) <;> first
     | (apply Chk.go; · rfl)
     | (apply nm.go; (· (try simp (discharger := first | omega | (simp only [maxU8, maxU16, maxU32, maxU64]; omega) | decide) only [idU8, idU16, idU32, idU64, wrapI64, tdivE, tmodE, fdivE, andE, Int.toNat_natCast, Int.reduceToNat, tn8, IntKind.bits, Nat.min_eq_left, Nat.min_eq_right, Int.reducePow, Nat.reducePow, Int.reduceAdd]); (try simp only [wrapU8, wrapU16, wrapU32, wrapU64]); exact rfl); intro hr; simp only [rng] at hr)
     | (apply nmN.go; · (try simp (discharger := omega) only [Int.toNat_natCast, Int.reduceToNat, tnSub1, tn8]); first | (norm_cast; done) | (norm_cast; exact rfl) | exact rfl)
     | (apply Bnd.go; · first | omega | (simp only [ByteArray.size, List.size_toArray, List.length_cons, List.length_nil, Nat.reduceAdd]; omega))
     | (apply Drw.go; · kernel_rfl)
     | (apply Str.go; · repeat' (first | exact True.intro | exact rfl | apply And.intro))
     | apply SeqP.go
     | (apply askB.cmp; first | ((· intro h; rw [cmpP] at h; omega); intro h; rw [cmpN] at h) | (rotate_left; (· intro h; rw [cmpN] at h; omega); intro h; rw [cmpP] at h))
     | ((with_reducible apply askB.dec); first | ((· intro h; omega); intro h) | (rotate_left; (· intro h; first | exact absurd rfl h | omega); intro h))
     | ((with_reducible apply askB.ndec); first | ((· intro h; first | exact absurd rfl h | omega); intro h) | (rotate_left; (· intro h; omega); intro h))
     | with_reducible first | apply askB.tt | apply askB.ff | apply askB.and | apply askB.not | apply askB.or | apply askB.beqs | apply askB.beq)
    (refine Ctr.goE (C := C20) (lab t) (⟨l2, l1⟩) (fun _ => .tup [.int .i64 t, .int .i64 0]) (fun _ => []) (by simp only [C20, q1, q2]) (by simp only [C20, q1, q2]) ?_ ?_ ?_); (· ((repeat' ((conv => whnf) <;> (first | exact True.intro | (with_reducible exact rfl) | exact Eq.refl true | exact IdE.go rfl | apply And.intro | omega))) <;> (try (conv => whnf))); all_goals rfl); (· ((repeat' ((conv => whnf) <;> (first | exact True.intro | (with_reducible exact rfl) | exact Eq.refl true | exact IdE.go rfl | apply And.intro | omega))) <;> (try (conv => whnf))); all_goals rfl)
    repeat' ((conv => whnf) <;> first
     | (apply Chk.go; · rfl)
     | (apply nm.go; (· (try simp (discharger := first | omega | (simp only [maxU8, maxU16, maxU32, maxU64]; omega) | decide) only [idU8, idU16, idU32, idU64, wrapI64, tdivE, tmodE, fdivE, andE, Int.toNat_natCast, Int.reduceToNat, tn8, IntKind.bits, Nat.min_eq_left, Nat.min_eq_right, Int.reducePow, Nat.reducePow, Int.reduceAdd]); (try simp only [wrapU8, wrapU16, wrapU32, wrapU64]); exact rfl); intro hr; simp only [rng] at hr)
     | (apply nmN.go; · (try simp (discharger := omega) only [Int.toNat_natCast, Int.reduceToNat, tnSub1, tn8]); first | (norm_cast; done) | (norm_cast; exact rfl) | exact rfl)
     | (apply Bnd.go; · first | omega | (simp only [ByteArray.size, List.size_toArray, List.length_cons, List.length_nil, Nat.reduceAdd]; omega))
     | (apply Drw.go; · kernel_rfl)
     | (apply Str.go; · repeat' (first | exact True.intro | exact rfl | apply And.intro))
     | apply SeqP.go
     | (apply askB.cmp; first | ((· intro h; rw [cmpP] at h; omega); intro h; rw [cmpN] at h) | (rotate_left; (· intro h; rw [cmpN] at h; omega); intro h; rw [cmpP] at h))
     | ((with_reducible apply askB.dec); first | ((· intro h; omega); intro h) | (rotate_left; (· intro h; first | exact absurd rfl h | omega); intro h))
     | ((with_reducible apply askB.ndec); first | ((· intro h; first | exact absurd rfl h | omega); intro h) | (rotate_left; (· intro h; omega); intro h))
     | with_reducible first | apply askB.tt | apply askB.ff | apply askB.and | apply askB.not | apply askB.or | apply askB.beqs | apply askB.beq)
    (refine Ctr.goE (C := C20) (b) (hb) (fun _ => .tup [.int .i64 u, .int .i64 e]) (fun _ => []) (by simp only [C20, hU, hE]) (by simp only [C20, hU, hE]) ?_ ?_ ?_); (· ((repeat' ((conv => whnf) <;> (first | exact True.intro | (with_reducible exact rfl) | exact Eq.refl true | exact IdE.go rfl | apply And.intro | omega))) <;> (try (conv => whnf))); all_goals rfl); (· ((repeat' ((conv => whnf) <;> (first | exact True.intro | (with_reducible exact rfl) | exact Eq.refl true | exact IdE.go rfl | apply And.intro | omega))) <;> (try (conv => whnf))); all_goals rfl)
    repeat' ((conv => whnf) <;> first
     | (apply Chk.go; · rfl)
     | (apply nm.go; (· (try simp (discharger := first | omega | (simp only [maxU8, maxU16, maxU32, maxU64]; omega) | decide) only [idU8, idU16, idU32, idU64, wrapI64, tdivE, tmodE, fdivE, andE, Int.toNat_natCast, Int.reduceToNat, tn8, IntKind.bits, Nat.min_eq_left, Nat.min_eq_right, Int.reducePow, Nat.reducePow, Int.reduceAdd]); (try simp only [wrapU8, wrapU16, wrapU32, wrapU64]); exact rfl); intro hr; simp only [rng] at hr)
     | (apply nmN.go; · (try simp (discharger := omega) only [Int.toNat_natCast, Int.reduceToNat, tnSub1, tn8]); first | (norm_cast; done) | (norm_cast; exact rfl) | exact rfl)
     | (apply Bnd.go; · first | omega | (simp only [ByteArray.size, List.size_toArray, List.length_cons, List.length_nil, Nat.reduceAdd]; omega))
     | (apply Drw.go; · kernel_rfl)
     | (apply Str.go; · repeat' (first | exact True.intro | exact rfl | apply And.intro))
     | apply SeqP.go
     | (apply askB.cmp; first | ((· intro h; rw [cmpP] at h; omega); intro h; rw [cmpN] at h) | (rotate_left; (· intro h; rw [cmpN] at h; omega); intro h; rw [cmpP] at h))
     | ((with_reducible apply askB.dec); first | ((· intro h; omega); intro h) | (rotate_left; (· intro h; first | exact absurd rfl h | omega); intro h))
     | ((with_reducible apply askB.ndec); first | ((· intro h; first | exact absurd rfl h | omega); intro h) | (rotate_left; (· intro h; omega); intro h))
     | with_reducible first | apply askB.tt | apply askB.ff | apply askB.and | apply askB.not | apply askB.or | apply askB.beqs | apply askB.beq)
    (refine Ctr.go (C := C18) (u) (hu) ?_ ?_ ?_); (· ((repeat' ((conv => whnf) <;> (first | exact True.intro | (with_reducible exact rfl) | exact Eq.refl true | exact IdE.go rfl | apply And.intro | omega))) <;> (try (conv => whnf))); all_goals rfl); (· ((repeat' ((conv => whnf) <;> (first | exact True.intro | (with_reducible exact rfl) | exact Eq.refl true | exact IdE.go rfl | apply And.intro | omega))) <;> (try (conv => whnf))); all_goals rfl)
    repeat' ((conv => whnf) <;> first
     | (apply Chk.go; · rfl)
     | (apply nm.go; (· (try simp (discharger := first | omega | (simp only [maxU8, maxU16, maxU32, maxU64]; omega) | decide) only [idU8, idU16, idU32, idU64, wrapI64, tdivE, tmodE, fdivE, andE, Int.toNat_natCast, Int.reduceToNat, tn8, IntKind.bits, Nat.min_eq_left, Nat.min_eq_right, Int.reducePow, Nat.reducePow, Int.reduceAdd]); (try simp only [wrapU8, wrapU16, wrapU32, wrapU64]); exact rfl); intro hr; simp only [rng] at hr)
     | (apply nmN.go; · (try simp (discharger := omega) only [Int.toNat_natCast, Int.reduceToNat, tnSub1, tn8]); first | (norm_cast; done) | (norm_cast; exact rfl) | exact rfl)
     | (apply Bnd.go; · first | omega | (simp only [ByteArray.size, List.size_toArray, List.length_cons, List.length_nil, Nat.reduceAdd]; omega))
     | (apply Drw.go; · kernel_rfl)
     | (apply Str.go; · repeat' (first | exact True.intro | exact rfl | apply And.intro))
     | apply SeqP.go
     | (refine askB.y1 (hd (by assumption)) ?_)
      | (apply askB.cmp <;> intro h <;> (first | rw [cmpP] at h | rw [cmpN] at h) <;> try omega)
      | ((with_reducible apply askB.dec) <;> intro h <;> try omega)
      | with_reducible first | apply askB.tt | apply askB.ff | apply askB.and | apply askB.not | apply askB.or | apply askB.beqs | apply askB.beq
      | (apply askB.go <;> intro h)
     | (refine Ctr.go (C := C22) (()) (trivial) ?_ ?_ ?_); (· ((repeat' ((conv => whnf) <;> (first | exact True.intro | (with_reducible exact rfl) | exact Eq.refl true | exact IdE.go rfl | apply And.intro | omega))) <;> (try (conv => whnf))); all_goals rfl); (· ((repeat' ((conv => whnf) <;> (first | exact True.intro | (with_reducible exact rfl) | exact Eq.refl true | exact IdE.go rfl | apply And.intro | omega))) <;> (try (conv => whnf))); all_goals rfl)
     | (refine Ctr.go (C := C23) (t) (trivial) ?_ ?_ ?_); (· ((repeat' ((conv => whnf) <;> (first | exact True.intro | (with_reducible exact rfl) | exact Eq.refl true | exact IdE.go rfl | apply And.intro | omega))) <;> (try (conv => whnf))); all_goals rfl); (· ((repeat' ((conv => whnf) <;> (first | exact True.intro | (with_reducible exact rfl) | exact Eq.refl true | exact IdE.go rfl | apply And.intro | omega))) <;> (try (conv => whnf))); all_goals rfl))
    all_goals ((try (conv => whnf)) <;> first | with_reducible rfl | (refine congrArg AV.bool ?_; simp only [cmpI, decide_eq_true_eq] <;> omega) | (refine congrArg AV.bool ?_; simp))
    all_goals first | omega | ((rw [Bool.eq_iff_iff]; simp only [cmpI, Bool.and_eq_true, Bool.or_eq_true, Bool.not_eq_true', decide_eq_true_eq, decide_eq_false_iff_not, true_iff, iff_true, false_iff, iff_false]; omega))
  · have p1 : labE t = 1 := if_neg hr
    repeat' ((conv => whnf) <;> first
     | (apply Chk.go; · rfl)
     | (apply nm.go; (· (try simp (discharger := first | omega | (simp only [maxU8, maxU16, maxU32, maxU64]; omega) | decide) only [idU8, idU16, idU32, idU64, wrapI64, tdivE, tmodE, fdivE, andE, Int.toNat_natCast, Int.reduceToNat, tn8, IntKind.bits, Nat.min_eq_left, Nat.min_eq_right, Int.reducePow, Nat.reducePow, Int.reduceAdd]); (try simp only [wrapU8, wrapU16, wrapU32, wrapU64]); exact rfl); intro hr; simp only [rng] at hr)
     | (apply nmN.go; · (try simp (discharger := omega) only [Int.toNat_natCast, Int.reduceToNat, tnSub1, tn8]); first | (norm_cast; done) | (norm_cast; exact rfl) | exact rfl)
     | (apply Bnd.go; · first | omega | (simp only [ByteArray.size, List.size_toArray, List.length_cons, List.length_nil, Nat.reduceAdd]; omega))
     | (apply Drw.go; · kernel_rfl)
     | (apply Str.go; · repeat' (first | exact True.intro | exact rfl | apply And.intro))
     | apply SeqP.go
     | (apply askB.cmp; first | ((· intro h; rw [cmpP] at h; omega); intro h; rw [cmpN] at h) | (rotate_left; (· intro h; rw [cmpN] at h; omega); intro h; rw [cmpP] at h))
     | ((with_reducible apply askB.dec); first | ((· intro h; omega); intro h) | (rotate_left; (· intro h; first | exact absurd rfl h | omega); intro h))
     | ((with_reducible apply askB.ndec); first | ((· intro h; first | exact absurd rfl h | omega); intro h) | (rotate_left; (· intro h; omega); intro h))
     | with_reducible first | apply askB.tt | apply askB.ff | apply askB.and | apply askB.not | apply askB.or | apply askB.beqs | apply askB.beq)
    (refine Ctr.goE (C := C18) (t) (ht) (fun _ => .tup [.arr .u8 12 (lab t), .int .i64 1]) (fun _ => []) (by simp only [C18, p1]) (by simp only [C18, p1]) ?_ ?_ ?_); (· ((repeat' ((conv => whnf) <;> (first | exact True.intro | (with_reducible exact rfl) | exact Eq.refl true | exact IdE.go rfl | apply And.intro | omega))) <;> (try (conv => whnf))); all_goals rfl); (· ((repeat' ((conv => whnf) <;> (first | exact True.intro | (with_reducible exact rfl) | exact Eq.refl true | exact IdE.go rfl | apply And.intro | omega))) <;> (try (conv => whnf))); all_goals rfl)
    repeat' ((conv => whnf) <;> first
     | (apply Chk.go; · rfl)
     | (apply nm.go; (· (try simp (discharger := first | omega | (simp only [maxU8, maxU16, maxU32, maxU64]; omega) | decide) only [idU8, idU16, idU32, idU64, wrapI64, tdivE, tmodE, fdivE, andE, Int.toNat_natCast, Int.reduceToNat, tn8, IntKind.bits, Nat.min_eq_left, Nat.min_eq_right, Int.reducePow, Nat.reducePow, Int.reduceAdd]); (try simp only [wrapU8, wrapU16, wrapU32, wrapU64]); exact rfl); intro hr; simp only [rng] at hr)
     | (apply nmN.go; · (try simp (discharger := omega) only [Int.toNat_natCast, Int.reduceToNat, tnSub1, tn8]); first | (norm_cast; done) | (norm_cast; exact rfl) | exact rfl)
     | (apply Bnd.go; · first | omega | (simp only [ByteArray.size, List.size_toArray, List.length_cons, List.length_nil, Nat.reduceAdd]; omega))
     | (apply Drw.go; · kernel_rfl)
     | (apply Str.go; · repeat' (first | exact True.intro | exact rfl | apply And.intro))
     | apply SeqP.go
     | (apply askB.cmp; first | ((· intro h; rw [cmpP] at h; omega); intro h; rw [cmpN] at h) | (rotate_left; (· intro h; rw [cmpN] at h; omega); intro h; rw [cmpP] at h))
     | ((with_reducible apply askB.dec); first | ((· intro h; omega); intro h) | (rotate_left; (· intro h; first | exact absurd rfl h | omega); intro h))
     | ((with_reducible apply askB.ndec); first | ((· intro h; first | exact absurd rfl h | omega); intro h) | (rotate_left; (· intro h; omega); intro h))
     | with_reducible first | apply askB.tt | apply askB.ff | apply askB.and | apply askB.not | apply askB.or | apply askB.beqs | apply askB.beq)
    (refine Ctr.goE (C := C20) (b) (hb) (fun _ => .tup [.int .i64 u, .int .i64 e]) (fun _ => []) (by simp only [C20, hU, hE]) (by simp only [C20, hU, hE]) ?_ ?_ ?_); (· ((repeat' ((conv => whnf) <;> (first | exact True.intro | (with_reducible exact rfl) | exact Eq.refl true | exact IdE.go rfl | apply And.intro | omega))) <;> (try (conv => whnf))); all_goals rfl); (· ((repeat' ((conv => whnf) <;> (first | exact True.intro | (with_reducible exact rfl) | exact Eq.refl true | exact IdE.go rfl | apply And.intro | omega))) <;> (try (conv => whnf))); all_goals rfl)
    repeat' ((conv => whnf) <;> first
     | (apply Chk.go; · rfl)
     | (apply nm.go; (· (try simp (discharger := first | omega | (simp only [maxU8, maxU16, maxU32, maxU64]; omega) | decide) only [idU8, idU16, idU32, idU64, wrapI64, tdivE, tmodE, fdivE, andE, Int.toNat_natCast, Int.reduceToNat, tn8, IntKind.bits, Nat.min_eq_left, Nat.min_eq_right, Int.reducePow, Nat.reducePow, Int.reduceAdd]); (try simp only [wrapU8, wrapU16, wrapU32, wrapU64]); exact rfl); intro hr; simp only [rng] at hr)
     | (apply nmN.go; · (try simp (discharger := omega) only [Int.toNat_natCast, Int.reduceToNat, tnSub1, tn8]); first | (norm_cast; done) | (norm_cast; exact rfl) | exact rfl)
     | (apply Bnd.go; · first | omega | (simp only [ByteArray.size, List.size_toArray, List.length_cons, List.length_nil, Nat.reduceAdd]; omega))
     | (apply Drw.go; · kernel_rfl)
     | (apply Str.go; · repeat' (first | exact True.intro | exact rfl | apply And.intro))
     | apply SeqP.go
     | (apply askB.cmp; first | ((· intro h; rw [cmpP] at h; omega); intro h; rw [cmpN] at h) | (rotate_left; (· intro h; rw [cmpN] at h; omega); intro h; rw [cmpP] at h))
     | ((with_reducible apply askB.dec); first | ((· intro h; omega); intro h) | (rotate_left; (· intro h; first | exact absurd rfl h | omega); intro h))
     | ((with_reducible apply askB.ndec); first | ((· intro h; first | exact absurd rfl h | omega); intro h) | (rotate_left; (· intro h; omega); intro h))
     | with_reducible first | apply askB.tt | apply askB.ff | apply askB.and | apply askB.not | apply askB.or | apply askB.beqs | apply askB.beq)
    (refine Ctr.go (C := C18) (u) (hu) ?_ ?_ ?_); (· ((repeat' ((conv => whnf) <;> (first | exact True.intro | (with_reducible exact rfl) | exact Eq.refl true | exact IdE.go rfl | apply And.intro | omega))) <;> (try (conv => whnf))); all_goals rfl); (· ((repeat' ((conv => whnf) <;> (first | exact True.intro | (with_reducible exact rfl) | exact Eq.refl true | exact IdE.go rfl | apply And.intro | omega))) <;> (try (conv => whnf))); all_goals rfl)
    repeat' ((conv => whnf) <;> first
     | (apply Chk.go; · rfl)
     | (apply nm.go; (· (try simp (discharger := first | omega | (simp only [maxU8, maxU16, maxU32, maxU64]; omega) | decide) only [idU8, idU16, idU32, idU64, wrapI64, tdivE, tmodE, fdivE, andE, Int.toNat_natCast, Int.reduceToNat, tn8, IntKind.bits, Nat.min_eq_left, Nat.min_eq_right, Int.reducePow, Nat.reducePow, Int.reduceAdd]); (try simp only [wrapU8, wrapU16, wrapU32, wrapU64]); exact rfl); intro hr; simp only [rng] at hr)
     | (apply nmN.go; · (try simp (discharger := omega) only [Int.toNat_natCast, Int.reduceToNat, tnSub1, tn8]); first | (norm_cast; done) | (norm_cast; exact rfl) | exact rfl)
     | (apply Bnd.go; · first | omega | (simp only [ByteArray.size, List.size_toArray, List.length_cons, List.length_nil, Nat.reduceAdd]; omega))
     | (apply Drw.go; · kernel_rfl)
     | (apply Str.go; · repeat' (first | exact True.intro | exact rfl | apply And.intro))
     | apply SeqP.go
     | (refine askB.y1 (hd (by assumption)) ?_)
      | (apply askB.cmp <;> intro h <;> (first | rw [cmpP] at h | rw [cmpN] at h) <;> try omega)
      | ((with_reducible apply askB.dec) <;> intro h <;> try omega)
      | with_reducible first | apply askB.tt | apply askB.ff | apply askB.and | apply askB.not | apply askB.or | apply askB.beqs | apply askB.beq
      | (apply askB.go <;> intro h)
     | (refine Ctr.go (C := C22) (()) (trivial) ?_ ?_ ?_); (· ((repeat' ((conv => whnf) <;> (first | exact True.intro | (with_reducible exact rfl) | exact Eq.refl true | exact IdE.go rfl | apply And.intro | omega))) <;> (try (conv => whnf))); all_goals rfl); (· ((repeat' ((conv => whnf) <;> (first | exact True.intro | (with_reducible exact rfl) | exact Eq.refl true | exact IdE.go rfl | apply And.intro | omega))) <;> (try (conv => whnf))); all_goals rfl)
     | (refine Ctr.go (C := C23) (t) (trivial) ?_ ?_ ?_); (· ((repeat' ((conv => whnf) <;> (first | exact True.intro | (with_reducible exact rfl) | exact Eq.refl true | exact IdE.go rfl | apply And.intro | omega))) <;> (try (conv => whnf))); all_goals rfl); (· ((repeat' ((conv => whnf) <;> (first | exact True.intro | (with_reducible exact rfl) | exact Eq.refl true | exact IdE.go rfl | apply And.intro | omega))) <;> (try (conv => whnf))); all_goals rfl))
    all_goals ((try (conv => whnf)) <;> first | with_reducible rfl | (refine congrArg AV.bool ?_; simp only [cmpI, decide_eq_true_eq] <;> omega) | (refine congrArg AV.bool ?_; simp))
    all_goals first | omega | ((rw [Bool.eq_iff_iff]; simp only [cmpI, Bool.and_eq_true, Bool.or_eq_true, Bool.not_eq_true', decide_eq_true_eq, decide_eq_false_iff_not, true_iff, iff_true, false_iff, iff_false]; omega))

end Go.Proofs.Ytehfkjjmangjlaa.Ax
