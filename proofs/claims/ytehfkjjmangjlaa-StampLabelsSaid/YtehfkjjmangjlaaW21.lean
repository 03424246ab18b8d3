/- Contracts of functions of the program, walked over abstract values. -/
import Derived.Test.YtehfkjjmangjlaaW20
set_option linter.unusedSimpArgs false
set_option linter.unusedVariables false
namespace Go.Proofs.Ytehfkjjmangjlaa.Ax
open Go Go.Ax Go.Proofs
attribute [local irreducible] Chk Bnd Str Kn Drw nm nmN askB SeqP LoopP FinW Ctr.spec Go.Ax.Sub IdE

noncomputable def ct21 : Specs := [(44, C44.spec), (45, C45.spec), (19, C19.spec)]
theorem ct21ok : SpecsOk Try.prog ct21 := specs_cons Try.call44 sp44 (specs_cons Try.call45 sp45 (specs_cons Try.call19 sp19 specs_nil))
def C21 : Ctr := { X := List Int, args := fun xs => [.rs (.arr .u8 12 xs)], pre := fun xs => xs.length = 12 ∧ isBs xs, res := fun xs _ => .tup [.int .i64 (readT xs), .int .i64 (readE xs)], news := fun _ _ => [] }
theorem walk21 : C21.Ok tab ct21 code21 Try.f21.results.toList := by
  intro (xs : List Int) ⟨hl, hx⟩
  obtain ⟨r1, r2⟩ := hi_lo hx hl
  have e1 : leN (List.take (8 - 0) (List.drop 0 xs)).reverse = hiN xs := rfl
  have e2 : leN (List.take (12 - 8) (List.drop 8 xs)).reverse = loN xs := by rw [List.take_of_length_le (by simp; omega)]; rfl
  have hok : okT xs ↔ 4611686018427387914 ≤ hiN xs ∧ hiN xs - 4611686018427387914 ≤ 1099511627 ∧ loN xs % 1000000 = 0 ∧ loN xs / 1000000 < 1000 ∧ (hiN xs - 4611686018427387914) * 1000 + loN xs / 1000000 ≤ 1099511627776 := Iff.rfl
  have hT : ∀ h : okT xs, readT xs = (hiN xs - 4611686018427387914) * 1000 + loN xs / 1000000 ∧ readE xs = 0 := fun h => ⟨if_pos h, if_pos h⟩
  have hN : ∀ h : ¬ okT xs, readT xs = 0 ∧ readE xs = 3 := fun h => ⟨if_neg h, if_neg h⟩
  have hlab := fun t h => (ofBs_inj' (lab_isBs t).1 hx).trans (lab_eq hx hl t h)
  have hlE : ∀ t, (labE t = 0 ↔ 0 ≤ t ∧ t ≤ 1099511627776) := fun t => by unfold labE; split <;> simp_all
  repeat' ((conv => whnf) <;> first
   | (apply Chk.go; · rfl)
   | (apply nm.go; (· (try simp (discharger := first | omega | (simp only [maxU8, maxU16, maxU32, maxU64]; omega) | decide) only [idU8, idU16, idU32, idU64, wrapI64, tdivE, tmodE, fdivE, andE, Int.toNat_natCast, Int.reduceToNat, tn8, IntKind.bits, Nat.min_eq_left, Nat.min_eq_right, Int.reducePow, Nat.reducePow, Int.reduceAdd]); (try simp only [wrapU8, wrapU16, wrapU32, wrapU64]); exact rfl); intro hr; simp only [rng] at hr)
   | (apply nmN.go; · (try simp (discharger := omega) only [Int.toNat_natCast, Int.reduceToNat, tnSub1, tn8]); first | (norm_cast; done) | (norm_cast; exact rfl) | exact rfl)
   | (apply Bnd.go; · first | omega | (simp only [ByteArray.size, List.size_toArray, List.length_cons, List.length_nil, Nat.reduceAdd]; omega))
   | (apply Drw.go; · kernel_rfl)
   | (apply Str.go; · repeat' (first | exact True.intro | exact rfl | apply And.intro))
   | apply SeqP.go
   | (apply askB.cmp; first | ((· intro h; rw [cmpP] at h; omega); intro h; rw [cmpN] at h) | (rotate_left; (· intro h; rw [cmpN] at h; omega); intro h; rw [cmpP] at h))
   | ((with_reducible apply askB.dec); first | ((· intro h; omega); intro h) | (rotate_left; (· intro h; first | exact absurd rfl h | omega); intro h))
   | ((with_reducible apply askB.ndec); first | ((· intro h; first | exact absurd rfl h | omega); intro h) | (rotate_left; (· intro h; omega); intro h))
   | with_reducible first | apply askB.tt | apply askB.ff | apply askB.and | apply askB.not | apply askB.or | apply askB.beqs | apply askB.beq)
  (refine Ctr.go (C := C44) ((8 - 0, List.take (8 - 0) (List.drop 0 xs))) (⟨by simp; omega, by decide⟩) ?_ ?_ ?_); (· ((repeat' ((conv => whnf) <;> (first | exact True.intro | (with_reducible exact rfl) | exact Eq.refl true | exact IdE.go rfl | apply And.intro | omega))) <;> (try (conv => whnf))); all_goals rfl); (· ((repeat' ((conv => whnf) <;> (first | exact True.intro | (with_reducible exact rfl) | exact Eq.refl true | exact IdE.go rfl | apply And.intro | omega))) <;> (try (conv => whnf))); all_goals rfl)
  repeat' ((conv => whnf) <;> first
   | (apply Chk.go; · rfl)
   | (apply nm.go; (· (try simp (discharger := first | omega | (simp only [maxU8, maxU16, maxU32, maxU64]; omega) | decide) only [idU8, idU16, idU32, idU64, wrapI64, tdivE, tmodE, fdivE, andE, Int.toNat_natCast, Int.reduceToNat, tn8, IntKind.bits, Nat.min_eq_left, Nat.min_eq_right, Int.reducePow, Nat.reducePow, Int.reduceAdd]); (try simp only [wrapU8, wrapU16, wrapU32, wrapU64]); exact rfl); intro hr; simp only [rng] at hr)
   | (apply nmN.go; · (try simp (discharger := omega) only [Int.toNat_natCast, Int.reduceToNat, tnSub1, tn8]); first | (norm_cast; done) | (norm_cast; exact rfl) | exact rfl)
   | (apply Bnd.go; · first | omega | (simp only [ByteArray.size, List.size_toArray, List.length_cons, List.length_nil, Nat.reduceAdd]; omega))
   | (apply Drw.go; · kernel_rfl)
   | (apply Str.go; · repeat' (first | exact True.intro | exact rfl | apply And.intro))
   | apply SeqP.go
   | (apply askB.cmp; first | ((· intro h; rw [cmpP] at h; omega); intro h; rw [cmpN] at h) | (rotate_left; (· intro h; rw [cmpN] at h; omega); intro h; rw [cmpP] at h))
   | ((with_reducible apply askB.dec); first | ((· intro h; omega); intro h) | (rotate_left; (· intro h; first | exact absurd rfl h | omega); intro h))
   | ((with_reducible apply askB.ndec); first | ((· intro h; first | exact absurd rfl h | omega); intro h) | (rotate_left; (· intro h; omega); intro h))
   | with_reducible first | apply askB.tt | apply askB.ff | apply askB.and | apply askB.not | apply askB.or | apply askB.beqs | apply askB.beq)
  (refine Ctr.frzE (C := C45) ((8, (List.take (8 - 0) (List.drop 0 xs)).reverse)) (⟨by simp; omega, by decide, isBs_rev (isBs_take (isBs_drop hx _) _)⟩) (fun _ => .int .u64 (hiN xs)) (fun _ => []) (by simp only [C45, e1]) (by simp only [C45, e1]) rfl ?_ ?_ ?_); (· ((repeat' ((conv => whnf) <;> (first | exact True.intro | (with_reducible exact rfl) | exact Eq.refl true | exact IdE.go rfl | apply And.intro | omega))) <;> (try (conv => whnf))); all_goals rfl); (· ((repeat' ((conv => whnf) <;> (first | exact True.intro | (with_reducible exact rfl) | exact Eq.refl true | exact IdE.go rfl | apply And.intro | omega))) <;> (try (conv => whnf))); all_goals rfl)
  repeat' ((conv => whnf) <;> first
   | (apply Chk.go; · rfl)
   | (apply nm.go; (· (try simp (discharger := first | omega | (simp only [maxU8, maxU16, maxU32, maxU64]; omega) | decide) only [idU8, idU16, idU32, idU64, wrapI64, tdivE, tmodE, fdivE, andE, Int.toNat_natCast, Int.reduceToNat, tn8, IntKind.bits, Nat.min_eq_left, Nat.min_eq_right, Int.reducePow, Nat.reducePow, Int.reduceAdd]); (try simp only [wrapU8, wrapU16, wrapU32, wrapU64]); exact rfl); intro hr; simp only [rng] at hr)
   | (apply nmN.go; · (try simp (discharger := omega) only [Int.toNat_natCast, Int.reduceToNat, tnSub1, tn8]); first | (norm_cast; done) | (norm_cast; exact rfl) | exact rfl)
   | (apply Bnd.go; · first | omega | (simp only [ByteArray.size, List.size_toArray, List.length_cons, List.length_nil, Nat.reduceAdd]; omega))
   | (apply Drw.go; · kernel_rfl)
   | (apply Str.go; · repeat' (first | exact True.intro | exact rfl | apply And.intro))
   | apply SeqP.go
   | (apply askB.cmp; first | ((· intro h; rw [cmpP] at h; omega); intro h; rw [cmpN] at h) | (rotate_left; (· intro h; rw [cmpN] at h; omega); intro h; rw [cmpP] at h))
   | ((with_reducible apply askB.dec); first | ((· intro h; omega); intro h) | (rotate_left; (· intro h; first | exact absurd rfl h | omega); intro h))
   | ((with_reducible apply askB.ndec); first | ((· intro h; first | exact absurd rfl h | omega); intro h) | (rotate_left; (· intro h; omega); intro h))
   | with_reducible first | apply askB.tt | apply askB.ff | apply askB.and | apply askB.not | apply askB.or | apply askB.beqs | apply askB.beq)
  (refine Ctr.go (C := C44) ((12 - 8, List.take (12 - 8) (List.drop 8 xs))) (⟨by simp; omega, by decide⟩) ?_ ?_ ?_); (· ((repeat' ((conv => whnf) <;> (first | exact True.intro | (with_reducible exact rfl) | exact Eq.refl true | exact IdE.go rfl | apply And.intro | omega))) <;> (try (conv => whnf))); all_goals rfl); (· ((repeat' ((conv => whnf) <;> (first | exact True.intro | (with_reducible exact rfl) | exact Eq.refl true | exact IdE.go rfl | apply And.intro | omega))) <;> (try (conv => whnf))); all_goals rfl)
  repeat' ((conv => whnf) <;> first
   | (apply Chk.go; · rfl)
   | (apply nm.go; (· (try simp (discharger := first | omega | (simp only [maxU8, maxU16, maxU32, maxU64]; omega) | decide) only [idU8, idU16, idU32, idU64, wrapI64, tdivE, tmodE, fdivE, andE, Int.toNat_natCast, Int.reduceToNat, tn8, IntKind.bits, Nat.min_eq_left, Nat.min_eq_right, Int.reducePow, Nat.reducePow, Int.reduceAdd]); (try simp only [wrapU8, wrapU16, wrapU32, wrapU64]); exact rfl); intro hr; simp only [rng] at hr)
   | (apply nmN.go; · (try simp (discharger := omega) only [Int.toNat_natCast, Int.reduceToNat, tnSub1, tn8]); first | (norm_cast; done) | (norm_cast; exact rfl) | exact rfl)
   | (apply Bnd.go; · first | omega | (simp only [ByteArray.size, List.size_toArray, List.length_cons, List.length_nil, Nat.reduceAdd]; omega))
   | (apply Drw.go; · kernel_rfl)
   | (apply Str.go; · repeat' (first | exact True.intro | exact rfl | apply And.intro))
   | apply SeqP.go
   | (apply askB.cmp; first | ((· intro h; rw [cmpP] at h; omega); intro h; rw [cmpN] at h) | (rotate_left; (· intro h; rw [cmpN] at h; omega); intro h; rw [cmpP] at h))
   | ((with_reducible apply askB.dec); first | ((· intro h; omega); intro h) | (rotate_left; (· intro h; first | exact absurd rfl h | omega); intro h))
   | ((with_reducible apply askB.ndec); first | ((· intro h; first | exact absurd rfl h | omega); intro h) | (rotate_left; (· intro h; omega); intro h))
   | with_reducible first | apply askB.tt | apply askB.ff | apply askB.and | apply askB.not | apply askB.or | apply askB.beqs | apply askB.beq)
  (refine Ctr.frzE (C := C45) ((4, (List.take (12 - 8) (List.drop 8 xs)).reverse)) (⟨by simp; omega, by decide, isBs_rev (isBs_take (isBs_drop hx _) _)⟩) (fun _ => .int .u64 (loN xs)) (fun _ => []) (by simp only [C45, e2]) (by simp only [C45, e2]) rfl ?_ ?_ ?_); (· ((repeat' ((conv => whnf) <;> (first | exact True.intro | (with_reducible exact rfl) | exact Eq.refl true | exact IdE.go rfl | apply And.intro | omega))) <;> (try (conv => whnf))); all_goals rfl); (· ((repeat' ((conv => whnf) <;> (first | exact True.intro | (with_reducible exact rfl) | exact Eq.refl true | exact IdE.go rfl | apply And.intro | omega))) <;> (try (conv => whnf))); all_goals rfl)
  generalize hiN xs = H at *
  generalize loN xs = L at *
  have hlab' := hlab (1000 * (H - 4611686018427387914) + L / 1000000)
  have hlE' := hlE (1000 * (H - 4611686018427387914) + L / 1000000)
  repeat' ((conv => whnf) <;> first
   | (apply Chk.go; · rfl)
   | (apply nm.go; (· (try simp (discharger := first | omega | (simp only [maxU8, maxU16, maxU32, maxU64]; omega) | decide) only [idU8, idU16, idU32, idU64, wrapI64, tdivE, tmodE, fdivE, andE, Int.toNat_natCast, Int.reduceToNat, tn8, IntKind.bits, Nat.min_eq_left, Nat.min_eq_right, Int.reducePow, Nat.reducePow, Int.reduceAdd]); (try simp only [wrapU8, wrapU16, wrapU32, wrapU64]); exact rfl); intro hr; simp only [rng] at hr)
   | (apply nmN.go; · (try simp (discharger := omega) only [Int.toNat_natCast, Int.reduceToNat, tnSub1, tn8]); first | (norm_cast; done) | (norm_cast; exact rfl) | exact rfl)
   | (apply Bnd.go; · first | omega | (simp only [ByteArray.size, List.size_toArray, List.length_cons, List.length_nil, Nat.reduceAdd]; omega))
   | (apply Drw.go; · kernel_rfl)
   | (apply Str.go; · repeat' (first | exact True.intro | exact rfl | apply And.intro))
   | apply SeqP.go
   | (apply askB.cmp <;> intro h <;> (first | rw [cmpP] at h | rw [cmpN] at h) <;> try omega)
   | ((with_reducible apply askB.dec) <;> intro h <;> try omega)
   | with_reducible first | apply askB.tt | apply askB.ff | apply askB.and | apply askB.not | apply askB.or | apply askB.beqs | apply askB.beq
   | (apply askB.go <;> intro h)
   | (refine Ctr.go (C := C19) (1000 * (H - 4611686018427387914) + L / 1000000) (⟨by omega, by omega⟩) ?_ ?_ ?_); (· ((repeat' ((conv => whnf) <;> (first | exact True.intro | (with_reducible exact rfl) | exact Eq.refl true | exact IdE.go rfl | apply And.intro | omega))) <;> (try (conv => whnf))); all_goals rfl); (· ((repeat' ((conv => whnf) <;> (first | exact True.intro | (with_reducible exact rfl) | exact Eq.refl true | exact IdE.go rfl | apply And.intro | omega))) <;> (try (conv => whnf))); all_goals rfl))
  all_goals (refine FinW.go [] [] rfl (fun nx => ?_) (fun nx => ?_) (fun nx => ?_) (fun nx => ?_) (fun _ => ?_) <;> ((repeat' ((conv => whnf) <;> (first | exact True.intro | (with_reducible exact rfl) | exact Eq.refl true | exact IdE.go rfl | apply And.intro | omega))) <;> (try (conv => whnf))))
  all_goals
    (by_cases hh : labE (1000 * (H - 4611686018427387914) + L / 1000000) = 0
     · have hr := hlE'.1 hh
       have hq := hlab' hr
       by_cases hs : ofBs (lab (1000 * (H - 4611686018427387914) + L / 1000000)) = ofBs xs
       · have hz := hq.1 hs
         clear hq
         first
           | (exfalso; contradiction)
           | (have h' : okT xs := hok.2 (by omega)
              obtain ⟨t1, t2⟩ := hT h'
              first | (rw [t1]; done) | (rw [t1]; congr 1; omega; done) | (rw [t2, ← hh]; done) | (rw [t2]; done) | (rw [t1, Int.mul_comm]; done))
           | (have h' : ¬ okT xs := fun h'' => by have := hok.1 h''; omega
              obtain ⟨t1, t2⟩ := hN h'
              first | (rw [t1]; done) | (rw [t2]; done))
       · have hz : ¬ _ := fun h => hs (hq.2 h)
         clear hq
         first
           | (exfalso; contradiction)
           | (have h' : ¬ okT xs := fun h'' => by have := hok.1 h''; omega
              obtain ⟨t1, t2⟩ := hN h'
              first | (rw [t1]; done) | (rw [t2]; done))
     · have hr : ¬ _ := fun h => hh (hlE'.2 h)
       first
         | (exfalso; contradiction)
         | (exfalso; omega)
         | (have h' : ¬ okT xs := fun h'' => by have := hok.1 h''; omega
            obtain ⟨t1, t2⟩ := hN h'
            first | (rw [t1]; done) | (rw [t2]; done)))
theorem sp21 : SpS Try.prog 21 C21.spec := ctr_sound tabOk ct21ok mixed Try.func21 body21 okc21 C21 (fun _ => Nat.le_of_ble_eq_true rfl) walk21

end Go.Proofs.Ytehfkjjmangjlaa.Ax
