/- Contracts of functions of the program, walked over abstract values. -/
import Derived.Test.YtehfkjjmangjlaaW26
set_option linter.unusedSimpArgs false
set_option linter.unusedVariables false
namespace Go.Proofs.Ytehfkjjmangjlaa.Ax
open Go Go.Ax Go.Proofs
attribute [local irreducible] Chk Bnd Str Kn Drw nm nmN askB SeqP LoopP FinW Ctr.spec Go.Ax.Sub IdE

noncomputable def ct5 : Specs := [(18, C18.spec), (19, C19.spec), (20, C20.spec), (21, C21.spec), (22, C22.spec), (23, C23.spec), (24, C23.spec)]
theorem ct5ok : SpecsOk Try.prog ct5 := specs_cons Try.call18 sp18 (specs_cons Try.call19 sp19 (specs_cons Try.call20 sp20 (specs_cons Try.call21 sp21 (specs_cons Try.call22 sp22 (specs_cons Try.call23 sp23 (specs_cons Try.call24 sp24 specs_nil))))))
theorem walk5 (t : Int) (b : List Int) (ht : rng .i64 t) (hb : b.length = 12 ∧ isBs b) : bodyA tab ct5 0 code5 Try.f5.results.toList ⟨argsE 0 [.int .i64 t, .arr .u8 12 b], [], 0, []⟩ fun _ v => v = .bool true := by
  have e12 : ∀ xs : List Int, xs.length = 12 → List.take (12 - 0) (List.drop 0 xs) = xs := fun xs h => by rw [List.drop_zero, List.take_of_length_le (by omega)]
  obtain ⟨u, hU⟩ : ∃ u, u = readT b := ⟨_, rfl⟩
  obtain ⟨e, hE⟩ : ∃ e, e = readE b := ⟨_, rfl⟩
  obtain ⟨g, hG⟩ : ∃ g, g = labE t := ⟨_, rfl⟩
  have hl := (lab_isBs t).2
  have hstr : decide (ofBs (List.take (12 - 0) (List.drop 0 (lab t))) = ofBs (lab t)) = true := decide_eq_true (by rw [e12 _ hl])
  repeat' ((conv => whnf) <;> first
   | (apply Chk.go; · rfl)
   | (apply nm.go; (· (try simp (discharger := first | omega | (simp only [maxU8, maxU16, maxU32, maxU64]; omega) | decide) only [idU8, idU16, idU32, idU64, wrapI64, tdivE, tmodE, fdivE, andE, Int.toNat_natCast, Int.reduceToNat, tn8, IntKind.bits, Nat.min_eq_left, Nat.min_eq_right, Int.reducePow, Nat.reducePow, Int.reduceAdd]); (try simp only [wrapU8, wrapU16, wrapU32, wrapU64]); exact rfl); intro hr; simp only [rng] at hr)
   | (apply nmN.go; · (try simp (discharger := omega) only [Int.toNat_natCast, Int.reduceToNat, tnSub1, tn8]); first | (norm_cast; done) | (norm_cast; exact rfl) | exact rfl)
   | (apply Bnd.go; · first | omega | (simp only [ByteArray.size, List.size_toArray, List.length_cons, List.length_nil, Nat.reduceAdd]; omega))
   | (apply Drw.go; · kernel_rfl)
   | (apply Str.go; · repeat' (first | exact True.intro | exact rfl | apply And.intro))
   | apply SeqP.go
   | (apply askB.cmp; first | ((· intro h; rw [cmpP] at h; omega); intro h; rw [cmpN] at h) | (rotate_left; (· intro h; rw [cmpN] at h; omega); intro h; rw [cmpP] at h))
   | ((with_reducible apply askB.dec); first | ((· intro h; omega); intro h) | (rotate_left; (· intro h; first | exact absurd rfl h | omega); intro h))
   | ((with_reducible apply askB.ndec); first | ((· intro h; first | exact absurd rfl h | omega); intro h) | (rotate_left; (· intro h; omega); intro h))
   | with_reducible first | apply askB.tt | apply askB.ff | apply askB.and | apply askB.not | apply askB.or | apply askB.beqs | apply askB.beq)
  (refine Ctr.goE (C := C18) (t) (ht) (fun _ => .tup [.arr .u8 12 (lab t), .int .i64 g]) (fun _ => []) (by simp only [C18, hG]) (by simp only [C18, hG]) ?_ ?_ ?_); (· ((repeat' ((conv => whnf) <;> (first | exact True.intro | (with_reducible exact rfl) | exact Eq.refl true | exact IdE.go rfl | apply And.intro | omega))) <;> (try (conv => whnf))); all_goals rfl); (· ((repeat' ((conv => whnf) <;> (first | exact True.intro | (with_reducible exact rfl) | exact Eq.refl true | exact IdE.go rfl | apply And.intro | omega))) <;> (try (conv => whnf))); all_goals rfl)
  repeat' ((conv => whnf) <;> first
   | (apply Chk.go; · rfl)
   | (apply nm.go; (· (try simp (discharger := first | omega | (simp only [maxU8, maxU16, maxU32, maxU64]; omega) | decide) only [idU8, idU16, idU32, idU64, wrapI64, tdivE, tmodE, fdivE, andE, Int.toNat_natCast, Int.reduceToNat, tn8, IntKind.bits, Nat.min_eq_left, Nat.min_eq_right, Int.reducePow, Nat.reducePow, Int.reduceAdd]); (try simp only [wrapU8, wrapU16, wrapU32, wrapU64]); exact rfl); intro hr; simp only [rng] at hr)
   | (apply nmN.go; · (try simp (discharger := omega) only [Int.toNat_natCast, Int.reduceToNat, tnSub1, tn8]); first | (norm_cast; done) | (norm_cast; exact rfl) | exact rfl)
   | (apply Bnd.go; · first | omega | (simp only [ByteArray.size, List.size_toArray, List.length_cons, List.length_nil, Nat.reduceAdd]; omega))
   | (apply Drw.go; · kernel_rfl)
   | (apply Str.go; · repeat' (first | exact True.intro | exact rfl | apply And.intro))
   | apply SeqP.go
   | (apply askB.cmp; first | ((· intro h; rw [cmpP] at h; omega); intro h; rw [cmpN] at h) | (rotate_left; (· intro h; rw [cmpN] at h; omega); intro h; rw [cmpP] at h))
   | ((with_reducible apply askB.dec); first | ((· intro h; omega); intro h) | (rotate_left; (· intro h; first | exact absurd rfl h | omega); intro h))
   | ((with_reducible apply askB.ndec); first | ((· intro h; first | exact absurd rfl h | omega); intro h) | (rotate_left; (· intro h; omega); intro h))
   | with_reducible first | apply askB.tt | apply askB.ff | apply askB.and | apply askB.not | apply askB.or | apply askB.beqs | apply askB.beq)
  (refine Ctr.goE (C := C19) (t) (ht) (fun nx => .tup [.ow nx 5, .int .i64 g]) (fun _ => [.arr .u8 12 (lab t)]) (by simp only [C19, hG]) (by simp only [C19, hG]) ?_ ?_ ?_); (· ((repeat' ((conv => whnf) <;> (first | exact True.intro | (with_reducible exact rfl) | exact Eq.refl true | exact IdE.go rfl | apply And.intro | omega))) <;> (try (conv => whnf))); all_goals rfl); (· ((repeat' ((conv => whnf) <;> (first | exact True.intro | (with_reducible exact rfl) | exact Eq.refl true | exact IdE.go rfl | apply And.intro | omega))) <;> (try (conv => whnf))); all_goals rfl)
  repeat' ((conv => whnf) <;> first
   | (apply Chk.go; · rfl)
   | (apply nm.go; (· (try simp (discharger := first | omega | (simp only [maxU8, maxU16, maxU32, maxU64]; omega) | decide) only [idU8, idU16, idU32, idU64, wrapI64, tdivE, tmodE, fdivE, andE, Int.toNat_natCast, Int.reduceToNat, tn8, IntKind.bits, Nat.min_eq_left, Nat.min_eq_right, Int.reducePow, Nat.reducePow, Int.reduceAdd]); (try simp only [wrapU8, wrapU16, wrapU32, wrapU64]); exact rfl); intro hr; simp only [rng] at hr)
   | (apply nmN.go; · (try simp (discharger := omega) only [Int.toNat_natCast, Int.reduceToNat, tnSub1, tn8]); first | (norm_cast; done) | (norm_cast; exact rfl) | exact rfl)
   | (apply Bnd.go; · first | omega | (simp only [ByteArray.size, List.size_toArray, List.length_cons, List.length_nil, Nat.reduceAdd]; omega))
   | (apply Drw.go; · kernel_rfl)
   | (apply Str.go; · repeat' (first | exact True.intro | exact rfl | apply And.intro))
   | apply SeqP.go
   | (apply askB.cmp; first | ((· intro h; rw [cmpP] at h; omega); intro h; rw [cmpN] at h) | (rotate_left; (· intro h; rw [cmpN] at h; omega); intro h; rw [cmpP] at h))
   | ((with_reducible apply askB.dec); first | ((· intro h; omega); intro h) | (rotate_left; (· intro h; first | exact absurd rfl h | omega); intro h))
   | ((with_reducible apply askB.ndec); first | ((· intro h; first | exact absurd rfl h | omega); intro h) | (rotate_left; (· intro h; omega); intro h))
   | with_reducible first | apply askB.tt | apply askB.ff | apply askB.and | apply askB.not | apply askB.or | apply askB.beqs | apply askB.beq)
  (refine Ctr.goE (C := C20) (b) (hb) (fun _ => .tup [.int .i64 u, .int .i64 e]) (fun _ => []) (by simp only [C20, hU, hE]) (by simp only [C20, hU, hE]) ?_ ?_ ?_); (· ((repeat' ((conv => whnf) <;> (first | exact True.intro | (with_reducible exact rfl) | exact Eq.refl true | exact IdE.go rfl | apply And.intro | omega))) <;> (try (conv => whnf))); all_goals rfl); (· ((repeat' ((conv => whnf) <;> (first | exact True.intro | (with_reducible exact rfl) | exact Eq.refl true | exact IdE.go rfl | apply And.intro | omega))) <;> (try (conv => whnf))); all_goals rfl)
  repeat' ((conv => whnf) <;> first
   | (apply Chk.go; · rfl)
   | (apply nm.go; (· (try simp (discharger := first | omega | (simp only [maxU8, maxU16, maxU32, maxU64]; omega) | decide) only [idU8, idU16, idU32, idU64, wrapI64, tdivE, tmodE, fdivE, andE, Int.toNat_natCast, Int.reduceToNat, tn8, IntKind.bits, Nat.min_eq_left, Nat.min_eq_right, Int.reducePow, Nat.reducePow, Int.reduceAdd]); (try simp only [wrapU8, wrapU16, wrapU32, wrapU64]); exact rfl); intro hr; simp only [rng] at hr)
   | (apply nmN.go; · (try simp (discharger := omega) only [Int.toNat_natCast, Int.reduceToNat, tnSub1, tn8]); first | (norm_cast; done) | (norm_cast; exact rfl) | exact rfl)
   | (apply Bnd.go; · first | omega | (simp only [ByteArray.size, List.size_toArray, List.length_cons, List.length_nil, Nat.reduceAdd]; omega))
   | (apply Drw.go; · kernel_rfl)
   | (apply Str.go; · repeat' (first | exact True.intro | exact rfl | apply And.intro))
   | apply SeqP.go
   | (apply askB.cmp; first | ((· intro h; rw [cmpP] at h; omega); intro h; rw [cmpN] at h) | (rotate_left; (· intro h; rw [cmpN] at h; omega); intro h; rw [cmpP] at h))
   | ((with_reducible apply askB.dec); first | ((· intro h; omega); intro h) | (rotate_left; (· intro h; first | exact absurd rfl h | omega); intro h))
   | ((with_reducible apply askB.ndec); first | ((· intro h; first | exact absurd rfl h | omega); intro h) | (rotate_left; (· intro h; omega); intro h))
   | with_reducible first | apply askB.tt | apply askB.ff | apply askB.and | apply askB.not | apply askB.or | apply askB.beqs | apply askB.beq)
  (refine Ctr.frzE (C := C21) (List.take (12 - 0) (List.drop 0 b)) (by rw [e12 b hb.1]; exact hb) (fun _ => .tup [.int .i64 u, .int .i64 e]) (fun _ => []) (by simp only [C21, e12 b hb.1, hU, hE]) (by simp only [C21, e12 b hb.1, hU, hE]) rfl ?_ ?_ ?_); (· ((repeat' ((conv => whnf) <;> (first | exact True.intro | (with_reducible exact rfl) | exact Eq.refl true | exact IdE.go rfl | apply And.intro | omega))) <;> (try (conv => whnf))); all_goals rfl); (· ((repeat' ((conv => whnf) <;> (first | exact True.intro | (with_reducible exact rfl) | exact Eq.refl true | exact IdE.go rfl | apply And.intro | omega))) <;> (try (conv => whnf))); all_goals rfl)
  clear hU hE hG
  repeat' ((conv => whnf) <;> first
   | (apply Chk.go; · rfl)
   | (apply nm.go; (· (try simp (discharger := first | omega | (simp only [maxU8, maxU16, maxU32, maxU64]; omega) | decide) only [idU8, idU16, idU32, idU64, wrapI64, tdivE, tmodE, fdivE, andE, Int.toNat_natCast, Int.reduceToNat, tn8, IntKind.bits, Nat.min_eq_left, Nat.min_eq_right, Int.reducePow, Nat.reducePow, Int.reduceAdd]); (try simp only [wrapU8, wrapU16, wrapU32, wrapU64]); exact rfl); intro hr; simp only [rng] at hr)
   | (apply nmN.go; · (try simp (discharger := omega) only [Int.toNat_natCast, Int.reduceToNat, tnSub1, tn8]); first | (norm_cast; done) | (norm_cast; exact rfl) | exact rfl)
   | (apply Bnd.go; · first | omega | (simp only [ByteArray.size, List.size_toArray, List.length_cons, List.length_nil, Nat.reduceAdd]; omega))
   | (apply Drw.go; · kernel_rfl)
   | (apply Str.go; · repeat' (first | exact True.intro | exact rfl | apply And.intro))
   | apply SeqP.go
   | (refine askB.y1 hstr ?_)
    | (apply askB.cmp <;> intro h <;> (first | rw [cmpP] at h | rw [cmpN] at h) <;> try omega)
    | ((with_reducible apply askB.dec) <;> intro h <;> try omega)
    | with_reducible first | apply askB.tt | apply askB.ff | apply askB.and | apply askB.not | apply askB.or | apply askB.beqs | apply askB.beq
    | (apply askB.go <;> intro h)
   | (refine Ctr.go (C := C22) (()) (trivial) ?_ ?_ ?_); (· ((repeat' ((conv => whnf) <;> (first | exact True.intro | (with_reducible exact rfl) | exact Eq.refl true | exact IdE.go rfl | apply And.intro | omega))) <;> (try (conv => whnf))); all_goals rfl); (· ((repeat' ((conv => whnf) <;> (first | exact True.intro | (with_reducible exact rfl) | exact Eq.refl true | exact IdE.go rfl | apply And.intro | omega))) <;> (try (conv => whnf))); all_goals rfl)
   | (refine Ctr.go (C := C23) (t) (trivial) ?_ ?_ ?_); (· ((repeat' ((conv => whnf) <;> (first | exact True.intro | (with_reducible exact rfl) | exact Eq.refl true | exact IdE.go rfl | apply And.intro | omega))) <;> (try (conv => whnf))); all_goals rfl); (· ((repeat' ((conv => whnf) <;> (first | exact True.intro | (with_reducible exact rfl) | exact Eq.refl true | exact IdE.go rfl | apply And.intro | omega))) <;> (try (conv => whnf))); all_goals rfl))
  all_goals ((try (conv => whnf)) <;> first | with_reducible rfl | (refine congrArg AV.bool ?_; simp only [cmpI, decide_eq_true_eq] <;> omega) | (refine congrArg AV.bool ?_; simp))
  all_goals first | omega | ((rw [Bool.eq_iff_iff]; simp only [cmpI, Bool.and_eq_true, Bool.or_eq_true, Bool.not_eq_true', decide_eq_true_eq, decide_eq_false_iff_not, true_iff, iff_true, false_iff, iff_false]; omega))

end Go.Proofs.Ytehfkjjmangjlaa.Ax
