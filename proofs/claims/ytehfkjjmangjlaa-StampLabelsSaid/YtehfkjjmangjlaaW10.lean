/- Contracts of functions of the program, walked over abstract values. -/
import Derived.Test.YtehfkjjmangjlaaW9
set_option linter.unusedSimpArgs false
set_option linter.unusedVariables false
namespace Go.Proofs.Ytehfkjjmangjlaa.Ax
open Go Go.Ax Go.Proofs
attribute [local irreducible] Chk Bnd Str Kn Drw nm nmN askB SeqP LoopP FinW Ctr.spec Go.Ax.Sub IdE

theorem rotI_rng (v n : Int) (hv : 0 ≤ v ∧ v ≤ 4294967295) : 0 ≤ rotI v n ∧ rotI v n ≤ 4294967295 := by
  have := rotN_lt v.toNat (n % 32).toNat (by omega)
  unfold rotI
  omega
theorem rot_rot (v n m : Int) (hv : 0 ≤ v ∧ v ≤ 4294967295) : rotI (rotI v n) m = rotI v (n + m) := by
  unfold rotI
  rw [Int.toNat_natCast, rotN_rotN _ _ _ (by omega) (by omega) (by omega)]
  rw [show ((n % 32).toNat + (m % 32).toNat) % 32 = ((n + m) % 32).toNat by omega]
theorem rot_32 (v n : Int) (hv : 0 ≤ v ∧ v ≤ 4294967295) (hn : n % 32 = 0) : rotI v n = v := by
  unfold rotI
  rw [hn, Int.toNat_zero, rotN_zero _ (by omega)]
  omega

noncomputable def ct3 : Specs := [(14, C14.spec), (15, C15.spec)]
theorem ct3ok : SpecsOk Try.prog ct3 := specs_cons Try.call14 sp14 (specs_cons Try.call15 sp15 specs_nil)

theorem walk3 (v n m : Int) (hv : 0 ≤ v ∧ v ≤ 4294967295) : bodyA tab ct3 0 code3 Try.f3.results.toList ⟨argsE 0 [.int .u32 v, .int .i64 n, .int .i64 m], [], 0, []⟩ fun _ v => v = .bool true := by
  have n1 := Int.tmod_lt_of_pos n (b := 1000) (by decide)
  have n2 := Int.lt_tmod_of_pos n (b := 1000) (by decide)
  have m1 := Int.tmod_lt_of_pos m (b := 1000) (by decide)
  have m2 := Int.lt_tmod_of_pos m (b := 1000) (by decide)
  have r1 := rot_rot v (n.tmod 1000) (m.tmod 1000) hv
  have r2 := rot_32 v 32 hv rfl
  have r3 : rotI (rotI v (n.tmod 1000)) (0 - n.tmod 1000) = v := by rw [rot_rot _ _ _ hv]; exact rot_32 v _ hv (by omega)
  have r4 := rot_32 v 0 hv rfl
  repeat' ((conv => whnf) <;> first
   | (apply Chk.go; · rfl)
   | (apply nm.go; (· (try simp (discharger := first | omega | (simp only [maxU8, maxU16, maxU32, maxU64]; omega) | decide) only [idU8, idU16, idU32, idU64, wrapI64, tdivE, tmodE, fdivE, andE, Int.toNat_natCast, Int.reduceToNat, tn8, IntKind.bits, Nat.min_eq_left, Nat.min_eq_right, Int.reducePow, Nat.reducePow, Int.reduceAdd]); (try simp only [wrapU8, wrapU16, wrapU32, wrapU64]); exact rfl); intro hr; simp only [rng] at hr)
   | (apply nmN.go; · (try simp (discharger := omega) only [Int.toNat_natCast, Int.reduceToNat, tnSub1, tn8]); first | (norm_cast; done) | (norm_cast; exact rfl) | exact rfl)
   | (apply Bnd.go; · first | omega | (simp only [ByteArray.size, List.size_toArray, List.length_cons, List.length_nil, Nat.reduceAdd]; omega))
   | (apply Drw.go; · kernel_rfl)
   | (apply Str.go; · repeat' (first | exact True.intro | exact rfl | apply And.intro))
   | apply SeqP.go
   | (apply askB.cmp; first | ((· intro h; rw [cmpP] at h; omega); intro h; rw [cmpN] at h) | (rotate_left; (· intro h; rw [cmpN] at h; omega); intro h; rw [cmpP] at h))
   | ((with_reducible apply askB.dec); first | ((· intro h; omega); intro h) | (rotate_left; (· intro h; first | exact absurd rfl h | omega); intro h))
   | ((with_reducible apply askB.ndec); first | ((· intro h; first | exact absurd rfl h | omega); intro h) | (rotate_left; (· intro h; omega); intro h))
   | with_reducible first | apply askB.tt | apply askB.ff | apply askB.and | apply askB.not | apply askB.or | apply askB.beqs | apply askB.beq)
  (refine Ctr.go (C := C14) (()) (trivial) ?_ ?_ ?_); (· ((repeat' ((conv => whnf) <;> (first | exact True.intro | (with_reducible exact rfl) | exact Eq.refl true | exact IdE.go rfl | apply And.intro | omega))) <;> (try (conv => whnf))); all_goals rfl); (· ((repeat' ((conv => whnf) <;> (first | exact True.intro | (with_reducible exact rfl) | exact Eq.refl true | exact IdE.go rfl | apply And.intro | omega))) <;> (try (conv => whnf))); all_goals rfl)
  repeat' ((conv => whnf) <;> first
   | (apply Chk.go; · rfl)
   | (apply nm.go; (· (try simp (discharger := first | omega | (simp only [maxU8, maxU16, maxU32, maxU64]; omega) | decide) only [idU8, idU16, idU32, idU64, wrapI64, tdivE, tmodE, fdivE, andE, Int.toNat_natCast, Int.reduceToNat, tn8, IntKind.bits, Nat.min_eq_left, Nat.min_eq_right, Int.reducePow, Nat.reducePow, Int.reduceAdd]); (try simp only [wrapU8, wrapU16, wrapU32, wrapU64]); exact rfl); intro hr; simp only [rng] at hr)
   | (apply nmN.go; · (try simp (discharger := omega) only [Int.toNat_natCast, Int.reduceToNat, tnSub1, tn8]); first | (norm_cast; done) | (norm_cast; exact rfl) | exact rfl)
   | (apply Bnd.go; · first | omega | (simp only [ByteArray.size, List.size_toArray, List.length_cons, List.length_nil, Nat.reduceAdd]; omega))
   | (apply Drw.go; · kernel_rfl)
   | (apply Str.go; · repeat' (first | exact True.intro | exact rfl | apply And.intro))
   | apply SeqP.go
   | (apply askB.cmp; first | ((· intro h; rw [cmpP] at h; omega); intro h; rw [cmpN] at h) | (rotate_left; (· intro h; rw [cmpN] at h; omega); intro h; rw [cmpP] at h))
   | ((with_reducible apply askB.dec); first | ((· intro h; omega); intro h) | (rotate_left; (· intro h; first | exact absurd rfl h | omega); intro h))
   | ((with_reducible apply askB.ndec); first | ((· intro h; first | exact absurd rfl h | omega); intro h) | (rotate_left; (· intro h; omega); intro h))
   | with_reducible first | apply askB.tt | apply askB.ff | apply askB.and | apply askB.not | apply askB.or | apply askB.beqs | apply askB.beq)
  (refine Ctr.go (C := C15) ((v, n.tmod 1000)) (hv) ?_ ?_ ?_); (· ((repeat' ((conv => whnf) <;> (first | exact True.intro | (with_reducible exact rfl) | exact Eq.refl true | exact IdE.go rfl | apply And.intro | omega))) <;> (try (conv => whnf))); all_goals rfl); (· ((repeat' ((conv => whnf) <;> (first | exact True.intro | (with_reducible exact rfl) | exact Eq.refl true | exact IdE.go rfl | apply And.intro | omega))) <;> (try (conv => whnf))); all_goals rfl)
  repeat' ((conv => whnf) <;> first
   | (apply Chk.go; · rfl)
   | (apply nm.go; (· (try simp (discharger := first | omega | (simp only [maxU8, maxU16, maxU32, maxU64]; omega) | decide) only [idU8, idU16, idU32, idU64, wrapI64, tdivE, tmodE, fdivE, andE, Int.toNat_natCast, Int.reduceToNat, tn8, IntKind.bits, Nat.min_eq_left, Nat.min_eq_right, Int.reducePow, Nat.reducePow, Int.reduceAdd]); (try simp only [wrapU8, wrapU16, wrapU32, wrapU64]); exact rfl); intro hr; simp only [rng] at hr)
   | (apply nmN.go; · (try simp (discharger := omega) only [Int.toNat_natCast, Int.reduceToNat, tnSub1, tn8]); first | (norm_cast; done) | (norm_cast; exact rfl) | exact rfl)
   | (apply Bnd.go; · first | omega | (simp only [ByteArray.size, List.size_toArray, List.length_cons, List.length_nil, Nat.reduceAdd]; omega))
   | (apply Drw.go; · kernel_rfl)
   | (apply Str.go; · repeat' (first | exact True.intro | exact rfl | apply And.intro))
   | apply SeqP.go
   | (apply askB.cmp; first | ((· intro h; rw [cmpP] at h; omega); intro h; rw [cmpN] at h) | (rotate_left; (· intro h; rw [cmpN] at h; omega); intro h; rw [cmpP] at h))
   | ((with_reducible apply askB.dec); first | ((· intro h; omega); intro h) | (rotate_left; (· intro h; first | exact absurd rfl h | omega); intro h))
   | ((with_reducible apply askB.ndec); first | ((· intro h; first | exact absurd rfl h | omega); intro h) | (rotate_left; (· intro h; omega); intro h))
   | with_reducible first | apply askB.tt | apply askB.ff | apply askB.and | apply askB.not | apply askB.or | apply askB.beqs | apply askB.beq)
  (refine Ctr.go (C := C15) ((rotI v (n.tmod 1000), m.tmod 1000)) (rotI_rng v _ hv) ?_ ?_ ?_); (· ((repeat' ((conv => whnf) <;> (first | exact True.intro | (with_reducible exact rfl) | exact Eq.refl true | exact IdE.go rfl | apply And.intro | omega))) <;> (try (conv => whnf))); all_goals rfl); (· ((repeat' ((conv => whnf) <;> (first | exact True.intro | (with_reducible exact rfl) | exact Eq.refl true | exact IdE.go rfl | apply And.intro | omega))) <;> (try (conv => whnf))); all_goals rfl)
  repeat' ((conv => whnf) <;> first
   | (apply Chk.go; · rfl)
   | (apply nm.go; (· (try simp (discharger := first | omega | (simp only [maxU8, maxU16, maxU32, maxU64]; omega) | decide) only [idU8, idU16, idU32, idU64, wrapI64, tdivE, tmodE, fdivE, andE, Int.toNat_natCast, Int.reduceToNat, tn8, IntKind.bits, Nat.min_eq_left, Nat.min_eq_right, Int.reducePow, Nat.reducePow, Int.reduceAdd]); (try simp only [wrapU8, wrapU16, wrapU32, wrapU64]); exact rfl); intro hr; simp only [rng] at hr)
   | (apply nmN.go; · (try simp (discharger := omega) only [Int.toNat_natCast, Int.reduceToNat, tnSub1, tn8]); first | (norm_cast; done) | (norm_cast; exact rfl) | exact rfl)
   | (apply Bnd.go; · first | omega | (simp only [ByteArray.size, List.size_toArray, List.length_cons, List.length_nil, Nat.reduceAdd]; omega))
   | (apply Drw.go; · kernel_rfl)
   | (apply Str.go; · repeat' (first | exact True.intro | exact rfl | apply And.intro))
   | apply SeqP.go
   | (apply askB.cmp; first | ((· intro h; rw [cmpP] at h; omega); intro h; rw [cmpN] at h) | (rotate_left; (· intro h; rw [cmpN] at h; omega); intro h; rw [cmpP] at h))
   | ((with_reducible apply askB.dec); first | ((· intro h; omega); intro h) | (rotate_left; (· intro h; first | exact absurd rfl h | omega); intro h))
   | ((with_reducible apply askB.ndec); first | ((· intro h; first | exact absurd rfl h | omega); intro h) | (rotate_left; (· intro h; omega); intro h))
   | with_reducible first | apply askB.tt | apply askB.ff | apply askB.and | apply askB.not | apply askB.or | apply askB.beqs | apply askB.beq)
  (refine Ctr.go (C := C15) ((v, n.tmod 1000 + m.tmod 1000)) (hv) ?_ ?_ ?_); (· ((repeat' ((conv => whnf) <;> (first | exact True.intro | (with_reducible exact rfl) | exact Eq.refl true | exact IdE.go rfl | apply And.intro | omega))) <;> (try (conv => whnf))); all_goals rfl); (· ((repeat' ((conv => whnf) <;> (first | exact True.intro | (with_reducible exact rfl) | exact Eq.refl true | exact IdE.go rfl | apply And.intro | omega))) <;> (try (conv => whnf))); all_goals rfl)
  repeat' ((conv => whnf) <;> first
   | (apply Chk.go; · rfl)
   | (apply nm.go; (· (try simp (discharger := first | omega | (simp only [maxU8, maxU16, maxU32, maxU64]; omega) | decide) only [idU8, idU16, idU32, idU64, wrapI64, tdivE, tmodE, fdivE, andE, Int.toNat_natCast, Int.reduceToNat, tn8, IntKind.bits, Nat.min_eq_left, Nat.min_eq_right, Int.reducePow, Nat.reducePow, Int.reduceAdd]); (try simp only [wrapU8, wrapU16, wrapU32, wrapU64]); exact rfl); intro hr; simp only [rng] at hr)
   | (apply nmN.go; · (try simp (discharger := omega) only [Int.toNat_natCast, Int.reduceToNat, tnSub1, tn8]); first | (norm_cast; done) | (norm_cast; exact rfl) | exact rfl)
   | (apply Bnd.go; · first | omega | (simp only [ByteArray.size, List.size_toArray, List.length_cons, List.length_nil, Nat.reduceAdd]; omega))
   | (apply Drw.go; · kernel_rfl)
   | (apply Str.go; · repeat' (first | exact True.intro | exact rfl | apply And.intro))
   | apply SeqP.go
   | (apply askB.cmp; first | ((· intro h; rw [cmpP] at h; omega); intro h; rw [cmpN] at h) | (rotate_left; (· intro h; rw [cmpN] at h; omega); intro h; rw [cmpP] at h))
   | ((with_reducible apply askB.dec); first | ((· intro h; omega); intro h) | (rotate_left; (· intro h; first | exact absurd rfl h | omega); intro h))
   | ((with_reducible apply askB.ndec); first | ((· intro h; first | exact absurd rfl h | omega); intro h) | (rotate_left; (· intro h; omega); intro h))
   | with_reducible first | apply askB.tt | apply askB.ff | apply askB.and | apply askB.not | apply askB.or | apply askB.beqs | apply askB.beq)
  (refine Ctr.go (C := C15) ((v, 32)) (hv) ?_ ?_ ?_); (· ((repeat' ((conv => whnf) <;> (first | exact True.intro | (with_reducible exact rfl) | exact Eq.refl true | exact IdE.go rfl | apply And.intro | omega))) <;> (try (conv => whnf))); all_goals rfl); (· ((repeat' ((conv => whnf) <;> (first | exact True.intro | (with_reducible exact rfl) | exact Eq.refl true | exact IdE.go rfl | apply And.intro | omega))) <;> (try (conv => whnf))); all_goals rfl)
  repeat' ((conv => whnf) <;> first
   | (apply Chk.go; · rfl)
   | (apply nm.go; (· (try simp (discharger := first | omega | (simp only [maxU8, maxU16, maxU32, maxU64]; omega) | decide) only [idU8, idU16, idU32, idU64, wrapI64, tdivE, tmodE, fdivE, andE, Int.toNat_natCast, Int.reduceToNat, tn8, IntKind.bits, Nat.min_eq_left, Nat.min_eq_right, Int.reducePow, Nat.reducePow, Int.reduceAdd]); (try simp only [wrapU8, wrapU16, wrapU32, wrapU64]); exact rfl); intro hr; simp only [rng] at hr)
   | (apply nmN.go; · (try simp (discharger := omega) only [Int.toNat_natCast, Int.reduceToNat, tnSub1, tn8]); first | (norm_cast; done) | (norm_cast; exact rfl) | exact rfl)
   | (apply Bnd.go; · first | omega | (simp only [ByteArray.size, List.size_toArray, List.length_cons, List.length_nil, Nat.reduceAdd]; omega))
   | (apply Drw.go; · kernel_rfl)
   | (apply Str.go; · repeat' (first | exact True.intro | exact rfl | apply And.intro))
   | apply SeqP.go
   | (apply askB.cmp; first | ((· intro h; rw [cmpP] at h; omega); intro h; rw [cmpN] at h) | (rotate_left; (· intro h; rw [cmpN] at h; omega); intro h; rw [cmpP] at h))
   | ((with_reducible apply askB.dec); first | ((· intro h; omega); intro h) | (rotate_left; (· intro h; first | exact absurd rfl h | omega); intro h))
   | ((with_reducible apply askB.ndec); first | ((· intro h; first | exact absurd rfl h | omega); intro h) | (rotate_left; (· intro h; omega); intro h))
   | with_reducible first | apply askB.tt | apply askB.ff | apply askB.and | apply askB.not | apply askB.or | apply askB.beqs | apply askB.beq)
  (refine Ctr.go (C := C15) ((v, n.tmod 1000)) (hv) ?_ ?_ ?_); (· ((repeat' ((conv => whnf) <;> (first | exact True.intro | (with_reducible exact rfl) | exact Eq.refl true | exact IdE.go rfl | apply And.intro | omega))) <;> (try (conv => whnf))); all_goals rfl); (· ((repeat' ((conv => whnf) <;> (first | exact True.intro | (with_reducible exact rfl) | exact Eq.refl true | exact IdE.go rfl | apply And.intro | omega))) <;> (try (conv => whnf))); all_goals rfl)
  repeat' ((conv => whnf) <;> first
   | (apply Chk.go; · rfl)
   | (apply nm.go; (· (try simp (discharger := first | omega | (simp only [maxU8, maxU16, maxU32, maxU64]; omega) | decide) only [idU8, idU16, idU32, idU64, wrapI64, tdivE, tmodE, fdivE, andE, Int.toNat_natCast, Int.reduceToNat, tn8, IntKind.bits, Nat.min_eq_left, Nat.min_eq_right, Int.reducePow, Nat.reducePow, Int.reduceAdd]); (try simp only [wrapU8, wrapU16, wrapU32, wrapU64]); exact rfl); intro hr; simp only [rng] at hr)
   | (apply nmN.go; · (try simp (discharger := omega) only [Int.toNat_natCast, Int.reduceToNat, tnSub1, tn8]); first | (norm_cast; done) | (norm_cast; exact rfl) | exact rfl)
   | (apply Bnd.go; · first | omega | (simp only [ByteArray.size, List.size_toArray, List.length_cons, List.length_nil, Nat.reduceAdd]; omega))
   | (apply Drw.go; · kernel_rfl)
   | (apply Str.go; · repeat' (first | exact True.intro | exact rfl | apply And.intro))
   | apply SeqP.go
   | (apply askB.cmp; first | ((· intro h; rw [cmpP] at h; omega); intro h; rw [cmpN] at h) | (rotate_left; (· intro h; rw [cmpN] at h; omega); intro h; rw [cmpP] at h))
   | ((with_reducible apply askB.dec); first | ((· intro h; omega); intro h) | (rotate_left; (· intro h; first | exact absurd rfl h | omega); intro h))
   | ((with_reducible apply askB.ndec); first | ((· intro h; first | exact absurd rfl h | omega); intro h) | (rotate_left; (· intro h; omega); intro h))
   | with_reducible first | apply askB.tt | apply askB.ff | apply askB.and | apply askB.not | apply askB.or | apply askB.beqs | apply askB.beq)
  (refine Ctr.go (C := C15) ((rotI v (n.tmod 1000), 0 - n.tmod 1000)) (rotI_rng v _ hv) ?_ ?_ ?_); (· ((repeat' ((conv => whnf) <;> (first | exact True.intro | (with_reducible exact rfl) | exact Eq.refl true | exact IdE.go rfl | apply And.intro | omega))) <;> (try (conv => whnf))); all_goals rfl); (· ((repeat' ((conv => whnf) <;> (first | exact True.intro | (with_reducible exact rfl) | exact Eq.refl true | exact IdE.go rfl | apply And.intro | omega))) <;> (try (conv => whnf))); all_goals rfl)
  repeat' ((conv => whnf) <;> first
   | (apply Chk.go; · rfl)
   | (apply nm.go; (· (try simp (discharger := first | omega | (simp only [maxU8, maxU16, maxU32, maxU64]; omega) | decide) only [idU8, idU16, idU32, idU64, wrapI64, tdivE, tmodE, fdivE, andE, Int.toNat_natCast, Int.reduceToNat, tn8, IntKind.bits, Nat.min_eq_left, Nat.min_eq_right, Int.reducePow, Nat.reducePow, Int.reduceAdd]); (try simp only [wrapU8, wrapU16, wrapU32, wrapU64]); exact rfl); intro hr; simp only [rng] at hr)
   | (apply nmN.go; · (try simp (discharger := omega) only [Int.toNat_natCast, Int.reduceToNat, tnSub1, tn8]); first | (norm_cast; done) | (norm_cast; exact rfl) | exact rfl)
   | (apply Bnd.go; · first | omega | (simp only [ByteArray.size, List.size_toArray, List.length_cons, List.length_nil, Nat.reduceAdd]; omega))
   | (apply Drw.go; · kernel_rfl)
   | (apply Str.go; · repeat' (first | exact True.intro | exact rfl | apply And.intro))
   | apply SeqP.go
   | (apply askB.cmp; first | ((· intro h; rw [cmpP] at h; omega); intro h; rw [cmpN] at h) | (rotate_left; (· intro h; rw [cmpN] at h; omega); intro h; rw [cmpP] at h))
   | ((with_reducible apply askB.dec); first | ((· intro h; omega); intro h) | (rotate_left; (· intro h; first | exact absurd rfl h | omega); intro h))
   | ((with_reducible apply askB.ndec); first | ((· intro h; first | exact absurd rfl h | omega); intro h) | (rotate_left; (· intro h; omega); intro h))
   | with_reducible first | apply askB.tt | apply askB.ff | apply askB.and | apply askB.not | apply askB.or | apply askB.beqs | apply askB.beq)
  (refine Ctr.go (C := C15) ((v, 0)) (hv) ?_ ?_ ?_); (· ((repeat' ((conv => whnf) <;> (first | exact True.intro | (with_reducible exact rfl) | exact Eq.refl true | exact IdE.go rfl | apply And.intro | omega))) <;> (try (conv => whnf))); all_goals rfl); (· ((repeat' ((conv => whnf) <;> (first | exact True.intro | (with_reducible exact rfl) | exact Eq.refl true | exact IdE.go rfl | apply And.intro | omega))) <;> (try (conv => whnf))); all_goals rfl)
  repeat' ((conv => whnf) <;> first
   | (apply Chk.go; · rfl)
   | (apply nm.go; (· (try simp (discharger := first | omega | (simp only [maxU8, maxU16, maxU32, maxU64]; omega) | decide) only [idU8, idU16, idU32, idU64, wrapI64, tdivE, tmodE, fdivE, andE, Int.toNat_natCast, Int.reduceToNat, tn8, IntKind.bits, Nat.min_eq_left, Nat.min_eq_right, Int.reducePow, Nat.reducePow, Int.reduceAdd]); (try simp only [wrapU8, wrapU16, wrapU32, wrapU64]); exact rfl); intro hr; simp only [rng] at hr)
   | (apply nmN.go; · (try simp (discharger := omega) only [Int.toNat_natCast, Int.reduceToNat, tnSub1, tn8]); first | (norm_cast; done) | (norm_cast; exact rfl) | exact rfl)
   | (apply Bnd.go; · first | omega | (simp only [ByteArray.size, List.size_toArray, List.length_cons, List.length_nil, Nat.reduceAdd]; omega))
   | (apply Drw.go; · kernel_rfl)
   | (apply Str.go; · repeat' (first | exact True.intro | exact rfl | apply And.intro))
   | apply SeqP.go
   | (apply askB.cmp; first | ((· intro h; rw [cmpP] at h; omega); intro h; rw [cmpN] at h) | (rotate_left; (· intro h; rw [cmpN] at h; omega); intro h; rw [cmpP] at h))
   | ((with_reducible apply askB.dec); first | ((· intro h; omega); intro h) | (rotate_left; (· intro h; first | exact absurd rfl h | omega); intro h))
   | ((with_reducible apply askB.ndec); first | ((· intro h; first | exact absurd rfl h | omega); intro h) | (rotate_left; (· intro h; omega); intro h))
   | with_reducible first | apply askB.tt | apply askB.ff | apply askB.and | apply askB.not | apply askB.or | apply askB.beqs | apply askB.beq)
  (try (conv => whnf)) <;> first | with_reducible rfl | (refine congrArg AV.bool ?_; simp only [cmpI, decide_eq_true_eq] <;> omega) | (refine congrArg AV.bool ?_; simp)

end Go.Proofs.Ytehfkjjmangjlaa.Ax
