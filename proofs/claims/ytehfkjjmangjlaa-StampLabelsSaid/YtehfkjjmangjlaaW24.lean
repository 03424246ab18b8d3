/- Contracts of functions of the program, walked over abstract values. -/
import Derived.Test.YtehfkjjmangjlaaW23
import Derived.Test.YtehfkjjmangjlaaAxb
set_option linter.unusedSimpArgs false
set_option linter.unusedVariables false
namespace Go.Proofs.Ytehfkjjmangjlaa.Ax
open Go Go.Ax Go.Proofs
attribute [local irreducible] Chk Bnd Str Kn Drw nm nmN askB SeqP LoopP FinW Ctr.spec Go.Ax.Sub IdE

noncomputable def ct7 : Specs := [(22, C22.spec), (25, C25.spec)]
theorem ct7ok : SpecsOk Try.prog ct7 := specs_cons Try.call22 sp22 (specs_cons Try.call25 sp25 specs_nil)
theorem num_eq {xs ys : List Int} (hx : xs.length = 12 ∧ isBs xs) (hy : ys.length = 12 ∧ isBs ys) : decide (xs = ys) = decide (beN xs = beN ys) := decide_eq_decide.2 (beN_inj hx.2 hy.2 (by omega)).symm
theorem num_gt {xs ys : List Int} (hx : xs.length = 12 ∧ isBs xs) (hy : ys.length = 12 ∧ isBs ys) : gtL xs ys = decide (beN ys < beN xs) := gtL_num hx.2 hy.2 (by omega)
theorem walk7 (a b c : List Int) (ha : a.length = 12 ∧ isBs a) (hb : b.length = 12 ∧ isBs b) (hc : c.length = 12 ∧ isBs c) : bodyA tab ct7 0 code7 Try.f7.results.toList ⟨argsE 0 [.arr .u8 12 a, .arr .u8 12 b, .arr .u8 12 c], [], 0, []⟩ fun _ v => v = .bool true := by
  have eab := num_eq ha hb
  repeat' ((conv => whnf) <;> first
   | (apply Chk.go; · rfl)
   | (apply nm.go; (· (try simp (discharger := first | omega | (simp only [maxU8, maxU16, maxU32, maxU64]; omega) | decide) only [idU8, idU16, idU32, idU64, wrapI64, tdivE, tmodE, fdivE, andE, Int.toNat_natCast, Int.reduceToNat, tn8, IntKind.bits, Nat.min_eq_left, Nat.min_eq_right, Int.reducePow, Nat.reducePow, Int.reduceAdd]); (try simp only [wrapU8, wrapU16, wrapU32, wrapU64]); exact rfl); intro hr; simp only [rng] at hr)
   | (apply nmN.go; · (try simp (discharger := omega) only [Int.toNat_natCast, Int.reduceToNat, tnSub1, tn8]); first | (norm_cast; done) | (norm_cast; exact rfl) | exact rfl)
   | (apply Bnd.go; · first | omega | (simp only [ByteArray.size, List.size_toArray, List.length_cons, List.length_nil, Nat.reduceAdd]; omega))
   | (apply Drw.go; · kernel_rfl)
   | (apply Str.go; · repeat' (first | exact True.intro | exact rfl | apply And.intro))
   | apply SeqP.go
   | (with_reducible apply askB.not)
   | (rw [eab]; with_reducible apply askB.dec <;> intro h)
    | (apply askB.cmp <;> intro h <;> (first | rw [cmpP] at h | rw [cmpN] at h) <;> try omega)
    | ((with_reducible apply askB.dec) <;> intro h <;> try omega)
    | with_reducible first | apply askB.tt | apply askB.ff | apply askB.and | apply askB.not | apply askB.or | apply askB.beqs | apply askB.beq
    | (apply askB.go <;> intro h)
   | (refine Ctr.go (C := C22) (()) (trivial) ?_ ?_ ?_); (· ((repeat' ((conv => whnf) <;> (first | exact True.intro | (with_reducible exact rfl) | exact Eq.refl true | exact IdE.go rfl | apply And.intro | omega))) <;> (try (conv => whnf))); all_goals rfl); (· ((repeat' ((conv => whnf) <;> (first | exact True.intro | (with_reducible exact rfl) | exact Eq.refl true | exact IdE.go rfl | apply And.intro | omega))) <;> (try (conv => whnf))); all_goals rfl)
   | (refine Ctr.goE (C := C25) ((a, b)) (⟨ha.1, hb.1⟩) (fun _ => .bool (decide (beN b < beN a))) (fun _ => []) (by simp only [C25, num_gt ha hb]) (by simp only [C25, num_gt ha hb]) ?_ ?_ ?_); (· ((repeat' ((conv => whnf) <;> (first | exact True.intro | (with_reducible exact rfl) | exact Eq.refl true | exact IdE.go rfl | apply And.intro | omega))) <;> (try (conv => whnf))); all_goals rfl); (· ((repeat' ((conv => whnf) <;> (first | exact True.intro | (with_reducible exact rfl) | exact Eq.refl true | exact IdE.go rfl | apply And.intro | omega))) <;> (try (conv => whnf))); all_goals rfl)
   | (refine Ctr.goE (C := C25) ((b, a)) (⟨hb.1, ha.1⟩) (fun _ => .bool (decide (beN a < beN b))) (fun _ => []) (by simp only [C25, num_gt hb ha]) (by simp only [C25, num_gt hb ha]) ?_ ?_ ?_); (· ((repeat' ((conv => whnf) <;> (first | exact True.intro | (with_reducible exact rfl) | exact Eq.refl true | exact IdE.go rfl | apply And.intro | omega))) <;> (try (conv => whnf))); all_goals rfl); (· ((repeat' ((conv => whnf) <;> (first | exact True.intro | (with_reducible exact rfl) | exact Eq.refl true | exact IdE.go rfl | apply And.intro | omega))) <;> (try (conv => whnf))); all_goals rfl)
   | (refine Ctr.goE (C := C25) ((b, c)) (⟨hb.1, hc.1⟩) (fun _ => .bool (decide (beN c < beN b))) (fun _ => []) (by simp only [C25, num_gt hb hc]) (by simp only [C25, num_gt hb hc]) ?_ ?_ ?_); (· ((repeat' ((conv => whnf) <;> (first | exact True.intro | (with_reducible exact rfl) | exact Eq.refl true | exact IdE.go rfl | apply And.intro | omega))) <;> (try (conv => whnf))); all_goals rfl); (· ((repeat' ((conv => whnf) <;> (first | exact True.intro | (with_reducible exact rfl) | exact Eq.refl true | exact IdE.go rfl | apply And.intro | omega))) <;> (try (conv => whnf))); all_goals rfl)
   | (refine Ctr.goE (C := C25) ((a, c)) (⟨ha.1, hc.1⟩) (fun _ => .bool (decide (beN c < beN a))) (fun _ => []) (by simp only [C25, num_gt ha hc]) (by simp only [C25, num_gt ha hc]) ?_ ?_ ?_); (· ((repeat' ((conv => whnf) <;> (first | exact True.intro | (with_reducible exact rfl) | exact Eq.refl true | exact IdE.go rfl | apply And.intro | omega))) <;> (try (conv => whnf))); all_goals rfl); (· ((repeat' ((conv => whnf) <;> (first | exact True.intro | (with_reducible exact rfl) | exact Eq.refl true | exact IdE.go rfl | apply And.intro | omega))) <;> (try (conv => whnf))); all_goals rfl))
  all_goals ((try (conv => whnf)) <;> first | with_reducible rfl | (refine congrArg AV.bool ?_; simp only [cmpI, decide_eq_true_eq] <;> omega) | (refine congrArg AV.bool ?_; simp))
  all_goals first | omega | ((rw [Bool.eq_iff_iff]; simp only [cmpI, Bool.and_eq_true, Bool.or_eq_true, Bool.not_eq_true', decide_eq_true_eq, decide_eq_false_iff_not]; omega))

end Go.Proofs.Ytehfkjjmangjlaa.Ax
