/- Contracts of functions of the program, walked over abstract values. -/
import Derived.Test.YtehfkjjmangjlaaW22
set_option linter.unusedSimpArgs false
set_option linter.unusedVariables false
namespace Go.Proofs.Ytehfkjjmangjlaa.Ax
open Go Go.Ax Go.Proofs
attribute [local irreducible] Chk Bnd Str Kn Drw nm nmN askB SeqP LoopP FinW Ctr.spec Go.Ax.Sub IdE

theorem lab_gt {a b : Int} (ha : 0 ≤ a ∧ a ≤ 1099511627776) (hb : 0 ≤ b ∧ b ≤ 1099511627776) : gtL (lab a) (lab b) = decide (b < a) := by
  obtain ⟨x1, x2⟩ := lab_isBs a
  obtain ⟨y1, y2⟩ := lab_isBs b
  rw [gtL_num x1 y1 (by omega), lab_num ha, lab_num hb]
  apply decide_eq_decide.2
  omega
theorem lab_inj {a b : Int} (ha : 0 ≤ a ∧ a ≤ 1099511627776) (hb : 0 ≤ b ∧ b ≤ 1099511627776) : lab a = lab b ↔ a = b := by
  obtain ⟨x1, x2⟩ := lab_isBs a
  obtain ⟨y1, y2⟩ := lab_isBs b
  rw [← beN_inj x1 y1 (by omega), lab_num ha, lab_num hb]
  omega

noncomputable def ct8 : Specs := [(18, C18.spec), (22, C22.spec), (25, C25.spec), (26, C26.spec)]
theorem ct8ok : SpecsOk Try.prog ct8 := specs_cons Try.call18 sp18 (specs_cons Try.call22 sp22 (specs_cons Try.call25 sp25 (specs_cons Try.call26 sp26 specs_nil)))
theorem walk8 (a b : Int) (ha : rng .i64 a) (hb : rng .i64 b) : bodyA tab ct8 0 code8 Try.f8.results.toList ⟨argsE 0 [.int .i64 a, .int .i64 b], [], 0, []⟩ fun _ v => v = .bool true := by
  by_cases hr : (0 ≤ a ∧ a ≤ 1099511627776) ∧ (0 ≤ b ∧ b ≤ 1099511627776)
  · have p1 : labE a = 0 := if_pos hr.1
    have p2 : labE b = 0 := if_pos hr.2
    have g := lab_gt hr.1 hr.2
    have g2 := lab_inj hr.1 hr.2
    have g3 : decide (lab a = lab b) = decide (a = b) := decide_eq_decide.2 g2
    repeat' ((conv => whnf) <;> first
     | (apply Chk.go; · rfl)
     | (apply nm.go; (· (try simp (discharger := first | omega | (simp only [maxU8, maxU16, maxU32, maxU64]; omega) | decide) only [idU8, idU16, idU32, idU64, wrapI64, tdivE, tmodE, fdivE, andE, Int.toNat_natCast, Int.reduceToNat, tn8, IntKind.bits, Nat.min_eq_left, Nat.min_eq_right, Int.reducePow, Nat.reducePow, Int.reduceAdd]); (try simp only [wrapU8, wrapU16, wrapU32, wrapU64]); exact rfl); intro hr; simp only [rng] at hr)
     | (apply nmN.go; · (try simp (discharger := omega) only [Int.toNat_natCast, Int.reduceToNat, tnSub1, tn8]); first | (norm_cast; done) | (norm_cast; exact rfl) | exact rfl)
     | (apply Bnd.go; · first | omega | (simp only [ByteArray.size, List.size_toArray, List.length_cons, List.length_nil, Nat.reduceAdd]; omega))
     | (apply Drw.go; · kernel_rfl)
     | (apply Str.go; · repeat' (first | exact True.intro | exact rfl | apply And.intro))
     | apply SeqP.go
     | (apply askB.cmp; first | ((· intro h; rw [cmpP] at h; omega); intro h; rw [cmpN] at h) | (rotate_left; (· intro h; rw [cmpN] at h; omega); intro h; rw [cmpP] at h))
     | ((with_reducible apply askB.dec); first | ((· intro h; omega); intro h) | (rotate_left; (· intro h; first | exact absurd rfl h | omega); intro h))
     | ((with_reducible apply askB.ndec); first | ((· intro h; first | exact absurd rfl h | omega); intro h) | (rotate_left; (· intro h; omega); intro h))
     | with_reducible first | apply askB.tt | apply askB.ff | apply askB.and | apply askB.not | apply askB.or | apply askB.beqs | apply askB.beq)
    (refine Ctr.goE (C := C18) (a) (ha) (fun _ => .tup [.arr .u8 12 (lab a), .int .i64 0]) (fun _ => []) (by simp only [C18, p1]) (by simp only [C18, p1]) ?_ ?_ ?_); (· ((repeat' ((conv => whnf) <;> (first | exact True.intro | (with_reducible exact rfl) | exact Eq.refl true | exact IdE.go rfl | apply And.intro | omega))) <;> (try (conv => whnf))); all_goals rfl); (· ((repeat' ((conv => whnf) <;> (first | exact True.intro | (with_reducible exact rfl) | exact Eq.refl true | exact IdE.go rfl | apply And.intro | omega))) <;> (try (conv => whnf))); all_goals rfl)
    repeat' ((conv => whnf) <;> first
     | (apply Chk.go; · rfl)
     | (apply nm.go; (· (try simp (discharger := first | omega | (simp only [maxU8, maxU16, maxU32, maxU64]; omega) | decide) only [idU8, idU16, idU32, idU64, wrapI64, tdivE, tmodE, fdivE, andE, Int.toNat_natCast, Int.reduceToNat, tn8, IntKind.bits, Nat.min_eq_left, Nat.min_eq_right, Int.reducePow, Nat.reducePow, Int.reduceAdd]); (try simp only [wrapU8, wrapU16, wrapU32, wrapU64]); exact rfl); intro hr; simp only [rng] at hr)
     | (apply nmN.go; · (try simp (discharger := omega) only [Int.toNat_natCast, Int.reduceToNat, tnSub1, tn8]); first | (norm_cast; done) | (norm_cast; exact rfl) | exact rfl)
     | (apply Bnd.go; · first | omega | (simp only [ByteArray.size, List.size_toArray, List.length_cons, List.length_nil, Nat.reduceAdd]; omega))
     | (apply Drw.go; · kernel_rfl)
     | (apply Str.go; · repeat' (first | exact True.intro | exact rfl | apply And.intro))
     | apply SeqP.go
     | (apply askB.cmp; first | ((· intro h; rw [cmpP] at h; omega); intro h; rw [cmpN] at h) | (rotate_left; (· intro h; rw [cmpN] at h; omega); intro h; rw [cmpP] at h))
     | ((with_reducible apply askB.dec); first | ((· intro h; omega); intro h) | (rotate_left; (· intro h; first | exact absurd rfl h | omega); intro h))
     | ((with_reducible apply askB.ndec); first | ((· intro h; first | exact absurd rfl h | omega); intro h) | (rotate_left; (· intro h; omega); intro h))
     | with_reducible first | apply askB.tt | apply askB.ff | apply askB.and | apply askB.not | apply askB.or | apply askB.beqs | apply askB.beq)
    (refine Ctr.goE (C := C18) (b) (hb) (fun _ => .tup [.arr .u8 12 (lab b), .int .i64 0]) (fun _ => []) (by simp only [C18, p2]) (by simp only [C18, p2]) ?_ ?_ ?_); (· ((repeat' ((conv => whnf) <;> (first | exact True.intro | (with_reducible exact rfl) | exact Eq.refl true | exact IdE.go rfl | apply And.intro | omega))) <;> (try (conv => whnf))); all_goals rfl); (· ((repeat' ((conv => whnf) <;> (first | exact True.intro | (with_reducible exact rfl) | exact Eq.refl true | exact IdE.go rfl | apply And.intro | omega))) <;> (try (conv => whnf))); all_goals rfl)
    repeat' ((conv => whnf) <;> first
     | (apply Chk.go; · rfl)
     | (apply nm.go; (· (try simp (discharger := first | omega | (simp only [maxU8, maxU16, maxU32, maxU64]; omega) | decide) only [idU8, idU16, idU32, idU64, wrapI64, tdivE, tmodE, fdivE, andE, Int.toNat_natCast, Int.reduceToNat, tn8, IntKind.bits, Nat.min_eq_left, Nat.min_eq_right, Int.reducePow, Nat.reducePow, Int.reduceAdd]); (try simp only [wrapU8, wrapU16, wrapU32, wrapU64]); exact rfl); intro hr; simp only [rng] at hr)
     | (apply nmN.go; · (try simp (discharger := omega) only [Int.toNat_natCast, Int.reduceToNat, tnSub1, tn8]); first | (norm_cast; done) | (norm_cast; exact rfl) | exact rfl)
     | (apply Bnd.go; · first | omega | (simp only [ByteArray.size, List.size_toArray, List.length_cons, List.length_nil, Nat.reduceAdd]; omega))
     | (apply Drw.go; · kernel_rfl)
     | (apply Str.go; · repeat' (first | exact True.intro | exact rfl | apply And.intro))
     | apply SeqP.go
     | (apply askB.cmp; first | ((· intro h; rw [cmpP] at h; omega); intro h; rw [cmpN] at h) | (rotate_left; (· intro h; rw [cmpN] at h; omega); intro h; rw [cmpP] at h))
     | ((with_reducible apply askB.dec); first | ((· intro h; omega); intro h) | (rotate_left; (· intro h; first | exact absurd rfl h | omega); intro h))
     | ((with_reducible apply askB.ndec); first | ((· intro h; first | exact absurd rfl h | omega); intro h) | (rotate_left; (· intro h; omega); intro h))
     | with_reducible first | apply askB.tt | apply askB.ff | apply askB.and | apply askB.not | apply askB.or | apply askB.beqs | apply askB.beq)
    (refine Ctr.go (C := C22) (()) (trivial) ?_ ?_ ?_); (· ((repeat' ((conv => whnf) <;> (first | exact True.intro | (with_reducible exact rfl) | exact Eq.refl true | exact IdE.go rfl | apply And.intro | omega))) <;> (try (conv => whnf))); all_goals rfl); (· ((repeat' ((conv => whnf) <;> (first | exact True.intro | (with_reducible exact rfl) | exact Eq.refl true | exact IdE.go rfl | apply And.intro | omega))) <;> (try (conv => whnf))); all_goals rfl)
    repeat' ((conv => whnf) <;> first
     | (apply Chk.go; · rfl)
     | (apply nm.go; (· (try simp (discharger := first | omega | (simp only [maxU8, maxU16, maxU32, maxU64]; omega) | decide) only [idU8, idU16, idU32, idU64, wrapI64, tdivE, tmodE, fdivE, andE, Int.toNat_natCast, Int.reduceToNat, tn8, IntKind.bits, Nat.min_eq_left, Nat.min_eq_right, Int.reducePow, Nat.reducePow, Int.reduceAdd]); (try simp only [wrapU8, wrapU16, wrapU32, wrapU64]); exact rfl); intro hr; simp only [rng] at hr)
     | (apply nmN.go; · (try simp (discharger := omega) only [Int.toNat_natCast, Int.reduceToNat, tnSub1, tn8]); first | (norm_cast; done) | (norm_cast; exact rfl) | exact rfl)
     | (apply Bnd.go; · first | omega | (simp only [ByteArray.size, List.size_toArray, List.length_cons, List.length_nil, Nat.reduceAdd]; omega))
     | (apply Drw.go; · kernel_rfl)
     | (apply Str.go; · repeat' (first | exact True.intro | exact rfl | apply And.intro))
     | apply SeqP.go
     | (apply askB.cmp; first | ((· intro h; rw [cmpP] at h; omega); intro h; rw [cmpN] at h) | (rotate_left; (· intro h; rw [cmpN] at h; omega); intro h; rw [cmpP] at h))
     | ((with_reducible apply askB.dec); first | ((· intro h; omega); intro h) | (rotate_left; (· intro h; first | exact absurd rfl h | omega); intro h))
     | ((with_reducible apply askB.ndec); first | ((· intro h; first | exact absurd rfl h | omega); intro h) | (rotate_left; (· intro h; omega); intro h))
     | with_reducible first | apply askB.tt | apply askB.ff | apply askB.and | apply askB.not | apply askB.or | apply askB.beqs | apply askB.beq)
    (refine Ctr.goE (C := C25) ((lab a, lab b)) (⟨(lab_isBs a).2, (lab_isBs b).2⟩) (fun _ => .bool (decide (b < a))) (fun _ => []) (by simp only [C25, g]) (by simp only [C25, g]) ?_ ?_ ?_); (· ((repeat' ((conv => whnf) <;> (first | exact True.intro | (with_reducible exact rfl) | exact Eq.refl true | exact IdE.go rfl | apply And.intro | omega))) <;> (try (conv => whnf))); all_goals rfl); (· ((repeat' ((conv => whnf) <;> (first | exact True.intro | (with_reducible exact rfl) | exact Eq.refl true | exact IdE.go rfl | apply And.intro | omega))) <;> (try (conv => whnf))); all_goals rfl)
    have g4 : ∀ p : Prop, p = (lab a = lab b) → (p ↔ a = b) := fun p hp => by rw [hp]; exact g2
    repeat' ((conv => whnf) <;> first
     | (apply Chk.go; · rfl)
     | (apply nm.go; (· (try simp (discharger := first | omega | (simp only [maxU8, maxU16, maxU32, maxU64]; omega) | decide) only [idU8, idU16, idU32, idU64, wrapI64, tdivE, tmodE, fdivE, andE, Int.toNat_natCast, Int.reduceToNat, tn8, IntKind.bits, Nat.min_eq_left, Nat.min_eq_right, Int.reducePow, Nat.reducePow, Int.reduceAdd]); (try simp only [wrapU8, wrapU16, wrapU32, wrapU64]); exact rfl); intro hr; simp only [rng] at hr)
     | (apply nmN.go; · (try simp (discharger := omega) only [Int.toNat_natCast, Int.reduceToNat, tnSub1, tn8]); first | (norm_cast; done) | (norm_cast; exact rfl) | exact rfl)
     | (apply Bnd.go; · first | omega | (simp only [ByteArray.size, List.size_toArray, List.length_cons, List.length_nil, Nat.reduceAdd]; omega))
     | (apply Drw.go; · kernel_rfl)
     | (apply Str.go; · repeat' (first | exact True.intro | exact rfl | apply And.intro))
     | apply SeqP.go
     | ((with_reducible apply askB.beq) <;> rw [g3])
      | (apply askB.cmp <;> intro h <;> (first | rw [cmpP] at h | rw [cmpN] at h) <;> try omega)
      | ((with_reducible apply askB.dec) <;> intro h <;> try omega)
      | with_reducible first | apply askB.tt | apply askB.ff | apply askB.and | apply askB.not | apply askB.or | apply askB.beqs | apply askB.beq
      | (apply askB.go <;> intro h)
     | (refine Ctr.go (C := C26) ((a, b)) (trivial) ?_ ?_ ?_); (· ((repeat' ((conv => whnf) <;> (first | exact True.intro | (with_reducible exact rfl) | exact Eq.refl true | exact IdE.go rfl | apply And.intro | omega))) <;> (try (conv => whnf))); all_goals rfl); (· ((repeat' ((conv => whnf) <;> (first | exact True.intro | (with_reducible exact rfl) | exact Eq.refl true | exact IdE.go rfl | apply And.intro | omega))) <;> (try (conv => whnf))); all_goals rfl))
    all_goals ((try (conv => whnf)) <;> first | with_reducible rfl | (refine congrArg AV.bool ?_; simp only [cmpI, decide_eq_true_eq] <;> omega) | (refine congrArg AV.bool ?_; simp))
    all_goals ((rw [Bool.eq_iff_iff]; simp only [cmpI, Bool.and_eq_true, Bool.or_eq_true, Bool.not_eq_true', decide_eq_true_eq, decide_eq_false_iff_not]; omega))
  · have hl : labE a ≠ 0 ∨ labE b ≠ 0 := by
      by_cases h : 0 ≤ a ∧ a ≤ 1099511627776
      · exact .inr fun e => by have : labE b = 1 := if_neg (fun h' => hr ⟨h, h'⟩); omega
      · exact .inl fun e => by have : labE a = 1 := if_neg h; omega
    repeat' ((conv => whnf) <;> first
     | (apply Chk.go; · rfl)
     | (apply nm.go; (· (try simp (discharger := first | omega | (simp only [maxU8, maxU16, maxU32, maxU64]; omega) | decide) only [idU8, idU16, idU32, idU64, wrapI64, tdivE, tmodE, fdivE, andE, Int.toNat_natCast, Int.reduceToNat, tn8, IntKind.bits, Nat.min_eq_left, Nat.min_eq_right, Int.reducePow, Nat.reducePow, Int.reduceAdd]); (try simp only [wrapU8, wrapU16, wrapU32, wrapU64]); exact rfl); intro hr; simp only [rng] at hr)
     | (apply nmN.go; · (try simp (discharger := omega) only [Int.toNat_natCast, Int.reduceToNat, tnSub1, tn8]); first | (norm_cast; done) | (norm_cast; exact rfl) | exact rfl)
     | (apply Bnd.go; · first | omega | (simp only [ByteArray.size, List.size_toArray, List.length_cons, List.length_nil, Nat.reduceAdd]; omega))
     | (apply Drw.go; · kernel_rfl)
     | (apply Str.go; · repeat' (first | exact True.intro | exact rfl | apply And.intro))
     | apply SeqP.go
     | (apply askB.cmp; first | ((· intro h; rw [cmpP] at h; omega); intro h; rw [cmpN] at h) | (rotate_left; (· intro h; rw [cmpN] at h; omega); intro h; rw [cmpP] at h))
     | ((with_reducible apply askB.dec); first | ((· intro h; omega); intro h) | (rotate_left; (· intro h; first | exact absurd rfl h | omega); intro h))
     | ((with_reducible apply askB.ndec); first | ((· intro h; first | exact absurd rfl h | omega); intro h) | (rotate_left; (· intro h; omega); intro h))
     | with_reducible first | apply askB.tt | apply askB.ff | apply askB.and | apply askB.not | apply askB.or | apply askB.beqs | apply askB.beq)
    (refine Ctr.go (C := C18) (a) (ha) ?_ ?_ ?_); (· ((repeat' ((conv => whnf) <;> (first | exact True.intro | (with_reducible exact rfl) | exact Eq.refl true | exact IdE.go rfl | apply And.intro | omega))) <;> (try (conv => whnf))); all_goals rfl); (· ((repeat' ((conv => whnf) <;> (first | exact True.intro | (with_reducible exact rfl) | exact Eq.refl true | exact IdE.go rfl | apply And.intro | omega))) <;> (try (conv => whnf))); all_goals rfl)
    repeat' ((conv => whnf) <;> first
     | (apply Chk.go; · rfl)
     | (apply nm.go; (· (try simp (discharger := first | omega | (simp only [maxU8, maxU16, maxU32, maxU64]; omega) | decide) only [idU8, idU16, idU32, idU64, wrapI64, tdivE, tmodE, fdivE, andE, Int.toNat_natCast, Int.reduceToNat, tn8, IntKind.bits, Nat.min_eq_left, Nat.min_eq_right, Int.reducePow, Nat.reducePow, Int.reduceAdd]); (try simp only [wrapU8, wrapU16, wrapU32, wrapU64]); exact rfl); intro hr; simp only [rng] at hr)
     | (apply nmN.go; · (try simp (discharger := omega) only [Int.toNat_natCast, Int.reduceToNat, tnSub1, tn8]); first | (norm_cast; done) | (norm_cast; exact rfl) | exact rfl)
     | (apply Bnd.go; · first | omega | (simp only [ByteArray.size, List.size_toArray, List.length_cons, List.length_nil, Nat.reduceAdd]; omega))
     | (apply Drw.go; · kernel_rfl)
     | (apply Str.go; · repeat' (first | exact True.intro | exact rfl | apply And.intro))
     | apply SeqP.go
     | (apply askB.cmp; first | ((· intro h; rw [cmpP] at h; omega); intro h; rw [cmpN] at h) | (rotate_left; (· intro h; rw [cmpN] at h; omega); intro h; rw [cmpP] at h))
     | ((with_reducible apply askB.dec); first | ((· intro h; omega); intro h) | (rotate_left; (· intro h; first | exact absurd rfl h | omega); intro h))
     | ((with_reducible apply askB.ndec); first | ((· intro h; first | exact absurd rfl h | omega); intro h) | (rotate_left; (· intro h; omega); intro h))
     | with_reducible first | apply askB.tt | apply askB.ff | apply askB.and | apply askB.not | apply askB.or | apply askB.beqs | apply askB.beq)
    (refine Ctr.go (C := C18) (b) (hb) ?_ ?_ ?_); (· ((repeat' ((conv => whnf) <;> (first | exact True.intro | (with_reducible exact rfl) | exact Eq.refl true | exact IdE.go rfl | apply And.intro | omega))) <;> (try (conv => whnf))); all_goals rfl); (· ((repeat' ((conv => whnf) <;> (first | exact True.intro | (with_reducible exact rfl) | exact Eq.refl true | exact IdE.go rfl | apply And.intro | omega))) <;> (try (conv => whnf))); all_goals rfl)
    repeat' ((conv => whnf) <;> first
     | (apply Chk.go; · rfl)
     | (apply nm.go; (· (try simp (discharger := first | omega | (simp only [maxU8, maxU16, maxU32, maxU64]; omega) | decide) only [idU8, idU16, idU32, idU64, wrapI64, tdivE, tmodE, fdivE, andE, Int.toNat_natCast, Int.reduceToNat, tn8, IntKind.bits, Nat.min_eq_left, Nat.min_eq_right, Int.reducePow, Nat.reducePow, Int.reduceAdd]); (try simp only [wrapU8, wrapU16, wrapU32, wrapU64]); exact rfl); intro hr; simp only [rng] at hr)
     | (apply nmN.go; · (try simp (discharger := omega) only [Int.toNat_natCast, Int.reduceToNat, tnSub1, tn8]); first | (norm_cast; done) | (norm_cast; exact rfl) | exact rfl)
     | (apply Bnd.go; · first | omega | (simp only [ByteArray.size, List.size_toArray, List.length_cons, List.length_nil, Nat.reduceAdd]; omega))
     | (apply Drw.go; · kernel_rfl)
     | (apply Str.go; · repeat' (first | exact True.intro | exact rfl | apply And.intro))
     | apply SeqP.go
     | (apply askB.cmp <;> intro h <;> (first | rw [cmpP] at h | rw [cmpN] at h) <;> try omega)
     | ((with_reducible apply askB.dec) <;> intro h <;> try omega)
     | with_reducible first | apply askB.tt | apply askB.ff | apply askB.and | apply askB.not | apply askB.or | apply askB.beqs | apply askB.beq
     | (apply askB.go <;> intro h)
     | (refine Ctr.go (C := C22) (()) (trivial) ?_ ?_ ?_); (· ((repeat' ((conv => whnf) <;> (first | exact True.intro | (with_reducible exact rfl) | exact Eq.refl true | exact IdE.go rfl | apply And.intro | omega))) <;> (try (conv => whnf))); all_goals rfl); (· ((repeat' ((conv => whnf) <;> (first | exact True.intro | (with_reducible exact rfl) | exact Eq.refl true | exact IdE.go rfl | apply And.intro | omega))) <;> (try (conv => whnf))); all_goals rfl)
     | (refine Ctr.go (C := C26) ((a, b)) (trivial) ?_ ?_ ?_); (· ((repeat' ((conv => whnf) <;> (first | exact True.intro | (with_reducible exact rfl) | exact Eq.refl true | exact IdE.go rfl | apply And.intro | omega))) <;> (try (conv => whnf))); all_goals rfl); (· ((repeat' ((conv => whnf) <;> (first | exact True.intro | (with_reducible exact rfl) | exact Eq.refl true | exact IdE.go rfl | apply And.intro | omega))) <;> (try (conv => whnf))); all_goals rfl))
    all_goals ((try (conv => whnf)) <;> first | with_reducible rfl | (refine congrArg AV.bool ?_; simp only [cmpI, decide_eq_true_eq] <;> omega) | (refine congrArg AV.bool ?_; simp))
    all_goals first | omega | ((rw [Bool.eq_iff_iff]; simp only [cmpI, Bool.and_eq_true, Bool.or_eq_true, Bool.not_eq_true', decide_eq_true_eq, decide_eq_false_iff_not]; omega))

end Go.Proofs.Ytehfkjjmangjlaa.Ax
