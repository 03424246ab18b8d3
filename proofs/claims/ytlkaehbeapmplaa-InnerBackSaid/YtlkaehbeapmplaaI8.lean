/- Contracts of functions of the program, walked over abstract values. -/
import Derived.Test.YtlkaehbeapmplaaI7
set_option linter.unusedSimpArgs false
set_option linter.unusedVariables false
namespace Go.Proofs.Ytlkaehbeapmplaa.Ax
open Go Go.Ax Go.Proofs
attribute [local irreducible] Chk Bnd Str Kn Drw nm nmN askB SeqP LoopP FinW Ctr.spec Go.Ax.Sub IdE

def zs16 : List Int := List.replicate 16 0
def hd (xs : List Int) : Int := 4 * (xs.getD 0 0 % 16)
def shortP (xs : List Int) : Prop := 20 ≤ xs.length ∧ 20 ≤ hd xs ∧ hd xs ≤ n2 xs 2 ∧ n2 xs 2 ≤ xs.length ∧ sumE (sumW 0 (xs.take (hd xs).toNat)) = 65535
instance (xs : List Int) : Decidable (shortP xs) := by unfold shortP; infer_instance
def sF (xs : List Int) : List Int := if shortP xs then addrI xs 12 4 else zs16
def sT (xs : List Int) : List Int := if shortP xs then addrI xs 16 4 else zs16
def sN (xs : List Int) : Int := if shortP xs then n2 xs 2 else 0
def sE (xs : List Int) : Int := if shortP xs then 0 else if xs.length < 20 then 10 else 50
theorem s_yes {xs : List Int} (h : shortP xs) : sF xs = addrI xs 12 4 ∧ sT xs = addrI xs 16 4 ∧ sN xs = n2 xs 2 ∧ sE xs = 0 := ⟨if_pos h, if_pos h, if_pos h, if_pos h⟩
theorem s_no {xs : List Int} (h : ¬ shortP xs) : sF xs = zs16 ∧ sT xs = zs16 ∧ sN xs = 0 ∧ sE xs = if xs.length < 20 then 10 else 50 := ⟨if_neg h, if_neg h, if_neg h, if_neg h⟩

noncomputable def ct18 : Specs := [(23, C23.spec), (11, C11.spec), (24, C24.spec)]
theorem ct18ok : SpecsOk Try.prog ct18 := specs_cons Try.call23 sp23 (specs_cons Try.call11 sp11 (specs_cons Try.call24 sp24 specs_nil))
def C18 : Ctr := { X := Nat × List Int, args := fun (n, xs) => [.rs (.arr .u8 n xs)], pre := fun (n, xs) => xs.length = n ∧ n ≤ 1000000 ∧ isBs xs, res := fun (_, xs) _ => .tup [.st [.st [.bool false, .arr .u8 16 (sF xs)], .st [.bool false, .arr .u8 16 (sT xs)], .int .i64 (sN xs)], .int .i64 (sE xs)], news := fun _ _ => [] }
theorem walk18 : C18.Ok tab ct18 code18 Try.f18.results.toList := by
  intro (n, xs) ⟨hl, hn, hb⟩
  by_cases hs : n < 20
  · obtain ⟨e1, e2, e3, e4⟩ := s_no (xs := xs) (fun h => by have := h.1; omega)
    rw [if_pos (by omega)] at e4
    repeat' ((conv => whnf) <;> first
     | (apply Chk.go; · rfl)
     | (apply nm.go; (· (try simp (discharger := first | omega | (simp only [maxU8, maxU16, maxU32, maxU64]; omega) | decide) only [idU8, idU16, idU32, idU64, wrapI64, tdivE, tmodE, fdivE, andE, Int.toNat_natCast, Int.reduceToNat, tn8, IntKind.bits, Nat.min_eq_left, Nat.min_eq_right, Int.reducePow, Nat.reducePow, Int.reduceAdd]); (try simp only [wrapU8, wrapU16, wrapU32, wrapU64]); exact rfl); intro hr; simp only [rng] at hr)
     | (apply nmN.go; · (try simp (discharger := omega) only [Int.toNat_natCast, Int.reduceToNat, tnSub1, tn8]); first | (norm_cast; done) | (norm_cast; exact rfl) | exact rfl)
     | (apply Bnd.go; · first | omega | (simp only [ByteArray.size, List.size_toArray, List.length_cons, List.length_nil, Nat.reduceAdd]; omega))
     | (apply Drw.go; · kernel_rfl)
     | (apply Str.go; · repeat' (first | exact True.intro | exact rfl | apply And.intro))
     | apply SeqP.go
     | (apply askB.cmp; first | ((· intro h; rw [cmpP] at h; omega); intro h; rw [cmpN] at h) | (rotate_left; (· intro h; rw [cmpN] at h; omega); intro h; rw [cmpP] at h))
     | ((with_reducible apply askB.dec); first | ((· intro h; omega); intro h) | (rotate_left; (· intro h; first | exact absurd rfl h | omega); intro h))
     | ((with_reducible apply askB.ndec); first | ((· intro h; first | exact absurd rfl h | omega); intro h) | (rotate_left; (· intro h; omega); intro h))
     | with_reducible first | apply askB.tt | apply askB.ff | apply askB.and | apply askB.not | apply askB.or | apply askB.beqs | apply askB.beq)
    refine FinW.go [] [] rfl (fun nx => ?_) (fun nx => ?_) (fun nx => ?_) (fun nx => ?_) (fun _ => ?_) <;> ((repeat' ((conv => whnf) <;> (first | exact True.intro | (with_reducible exact rfl) | exact Eq.refl true | exact IdE.go rfl | apply And.intro | omega))) <;> (try (conv => whnf)))
    all_goals first | rw [e1]; rfl | rw [e2]; rfl | rw [e3] | rw [e4]
  · have h0 := bs_at hb (i := 0) (by omega)
    have hz := n2_rng hb (i := 2) (by omega)
    have hP : shortP xs ↔ 20 ≤ hd xs ∧ hd xs ≤ n2 xs 2 ∧ n2 xs 2 ≤ n ∧ sumE (sumW 0 (xs.take (hd xs).toNat)) = 65535 := by unfold shortP; rw [hl]; exact ⟨fun h => h.2, fun h => ⟨by omega, h⟩⟩
    repeat' ((conv => whnf) <;> first
     | (apply Chk.go; · rfl)
     | (apply nm.go; (· (try simp (discharger := first | omega | (simp only [maxU8, maxU16, maxU32, maxU64]; omega) | decide) only [idU8, idU16, idU32, idU64, wrapI64, tdivE, tmodE, fdivE, andE, Int.toNat_natCast, Int.reduceToNat, tn8, IntKind.bits, Nat.min_eq_left, Nat.min_eq_right, Int.reducePow, Nat.reducePow, Int.reduceAdd]); (try simp only [wrapU8, wrapU16, wrapU32, wrapU64]); exact rfl); intro hr; simp only [rng] at hr)
     | (apply nmN.go; · (try simp (discharger := omega) only [Int.toNat_natCast, Int.reduceToNat, tnSub1, tn8]); first | (norm_cast; done) | (norm_cast; exact rfl) | exact rfl)
     | (apply Bnd.go; · first | omega | (simp only [ByteArray.size, List.size_toArray, List.length_cons, List.length_nil, Nat.reduceAdd]; omega))
     | (apply Drw.go; · kernel_rfl)
     | (apply Str.go; · repeat' (first | exact True.intro | exact rfl | apply And.intro))
     | apply SeqP.go
     | (apply askB.cmp; first | ((· intro h; rw [cmpP] at h; omega); intro h; rw [cmpN] at h) | (rotate_left; (· intro h; rw [cmpN] at h; omega); intro h; rw [cmpP] at h))
     | ((with_reducible apply askB.dec); first | ((· intro h; omega); intro h) | (rotate_left; (· intro h; first | exact absurd rfl h | omega); intro h))
     | ((with_reducible apply askB.ndec); first | ((· intro h; first | exact absurd rfl h | omega); intro h) | (rotate_left; (· intro h; omega); intro h))
     | with_reducible first | apply askB.tt | apply askB.ff | apply askB.and | apply askB.not | apply askB.or | apply askB.beqs | apply askB.beq)
    (refine Ctr.goE (C := C23) ((n, xs, 2)) (⟨hl, hn, hb, .inl rfl, by omega⟩) (fun _ => .tup [.int .u64 (n2 xs 2), .int .i64 0]) (fun _ => []) (by rfl) (by rfl) ?_ ?_ ?_); (· ((repeat' ((conv => whnf) <;> (first | exact True.intro | (with_reducible exact rfl) | exact Eq.refl true | exact IdE.go rfl | apply And.intro | omega))) <;> (try (conv => whnf))); all_goals rfl); (· ((repeat' ((conv => whnf) <;> (first | exact True.intro | (with_reducible exact rfl) | exact Eq.refl true | exact IdE.go rfl | apply And.intro | omega))) <;> (try (conv => whnf))); all_goals rfl)
    have eh : hd xs = 4 * (xs.getD 0 0 % 16) := rfl
    have hr := sumE_rng (sumW_rng (isBs_take hb (4 * (xs.getD 0 0 % 16)).toNat) 0).1
    generalize hS : sumE (sumW 0 (List.take (4 * (xs.getD 0 0 % 16)).toNat xs)) = S at *
    rw [eh, hS] at hP
    repeat' ((conv => whnf) <;> first
     | (apply Chk.go; · rfl)
     | (apply nm.go; (· (try simp (discharger := first | omega | (simp only [maxU8, maxU16, maxU32, maxU64]; omega) | decide) only [idU8, idU16, idU32, idU64, wrapI64, tdivE, tmodE, fdivE, andE, Int.toNat_natCast, Int.reduceToNat, tn8, IntKind.bits, Nat.min_eq_left, Nat.min_eq_right, Int.reducePow, Nat.reducePow, Int.reduceAdd]); (try simp only [wrapU8, wrapU16, wrapU32, wrapU64]); exact rfl); intro hr; simp only [rng] at hr)
     | (apply nmN.go; · (try simp (discharger := omega) only [Int.toNat_natCast, Int.reduceToNat, tnSub1, tn8]); first | (norm_cast; done) | (norm_cast; exact rfl) | exact rfl)
     | (apply Bnd.go; · first | omega | (simp only [ByteArray.size, List.size_toArray, List.length_cons, List.length_nil, Nat.reduceAdd]; omega))
     | (apply Drw.go; · kernel_rfl)
     | (apply Str.go; · repeat' (first | exact True.intro | exact rfl | apply And.intro))
     | apply SeqP.go
     | (apply askB.cmp <;> intro h <;> (first | rw [cmpP] at h | rw [cmpN] at h) <;> try omega)
     | ((with_reducible apply askB.dec) <;> intro h <;> try omega)
     | with_reducible first | apply askB.tt | apply askB.ff | apply askB.and | apply askB.not | apply askB.or | apply askB.beqs | apply askB.beq
     | (apply askB.go <;> intro h)
     | (refine Ctr.goE (C := C11) (((4 * (xs.getD 0 0 % 16)).toNat - 0, List.take ((4 * (xs.getD 0 0 % 16)).toNat - 0) (List.drop 0 xs))) (⟨by rw [List.length_take, List.drop_zero]; omega, by omega, isBs_take (isBs_drop hb _) _⟩) (fun _ => .int .u16 S) (fun _ => []) (by simp only [C11, Nat.sub_zero, List.drop_zero, hS]) (by simp only [C11, Nat.sub_zero, List.drop_zero, hS]) ?_ ?_ ?_); (· ((repeat' ((conv => whnf) <;> (first | exact True.intro | (with_reducible exact rfl) | exact Eq.refl true | exact IdE.go rfl | apply And.intro | omega))) <;> (try (conv => whnf))); all_goals rfl); (· ((repeat' ((conv => whnf) <;> (first | exact True.intro | (with_reducible exact rfl) | exact Eq.refl true | exact IdE.go rfl | apply And.intro | omega))) <;> (try (conv => whnf))); all_goals rfl)
     | (refine Ctr.goE (C := C24) ((n, xs, 12, false)) (⟨hl, hn, by omega, (by show (12 : Int) + (4 : Nat) ≤ n; omega)⟩) (fun _ => .st [.bool false, .arr .u8 16 (addrI xs 12 4)]) (fun _ => []) (by rfl) (by rfl) ?_ ?_ ?_); (· ((repeat' ((conv => whnf) <;> (first | exact True.intro | (with_reducible exact rfl) | exact Eq.refl true | exact IdE.go rfl | apply And.intro | omega))) <;> (try (conv => whnf))); all_goals rfl); (· ((repeat' ((conv => whnf) <;> (first | exact True.intro | (with_reducible exact rfl) | exact Eq.refl true | exact IdE.go rfl | apply And.intro | omega))) <;> (try (conv => whnf))); all_goals rfl)
     | (refine Ctr.goE (C := C24) ((n, xs, 16, false)) (⟨hl, hn, by omega, (by show (16 : Int) + (4 : Nat) ≤ n; omega)⟩) (fun _ => .st [.bool false, .arr .u8 16 (addrI xs 16 4)]) (fun _ => []) (by rfl) (by rfl) ?_ ?_ ?_); (· ((repeat' ((conv => whnf) <;> (first | exact True.intro | (with_reducible exact rfl) | exact Eq.refl true | exact IdE.go rfl | apply And.intro | omega))) <;> (try (conv => whnf))); all_goals rfl); (· ((repeat' ((conv => whnf) <;> (first | exact True.intro | (with_reducible exact rfl) | exact Eq.refl true | exact IdE.go rfl | apply And.intro | omega))) <;> (try (conv => whnf))); all_goals rfl))
    all_goals (refine FinW.go [] [] rfl (fun nx => ?_) (fun nx => ?_) (fun nx => ?_) (fun nx => ?_) (fun _ => ?_) <;> ((repeat' ((conv => whnf) <;> (first | exact True.intro | (with_reducible exact rfl) | exact Eq.refl true | exact IdE.go rfl | apply And.intro | omega))) <;> (try (conv => whnf))))
    all_goals first
      | (obtain ⟨e1, e2, e3, e4⟩ := s_yes (hP.2 (by omega))
         first | rw [e1]; done | rw [e2]; done | rw [e3]; done | rw [e4]; done)
      | (obtain ⟨e1, e2, e3, e4⟩ := s_no (xs := xs) (fun h => by have := hP.1 h; omega)
         rw [if_neg (by omega)] at e4
         first | rw [e1]; rfl | rw [e2]; rfl | rw [e3]; done | rw [e4]; done)
theorem sp18 : SpS Try.prog 18 C18.spec := ctr_sound tabOk ct18ok mixed Try.func18 body18 okc18 C18 (fun _ => Nat.le_of_ble_eq_true rfl) walk18

def longP (xs : List Int) : Prop := 40 ≤ xs.length ∧ n2 xs 4 + 40 ≤ xs.length
instance (xs : List Int) : Decidable (longP xs) := by unfold longP; infer_instance
def lS (xs : List Int) : Bool := if longP xs then true else false
def lF (xs : List Int) : List Int := if longP xs then addrI xs 8 16 else zs16
def lT (xs : List Int) : List Int := if longP xs then addrI xs 24 16 else zs16
def lN (xs : List Int) : Int := if longP xs then n2 xs 4 + 40 else 0
def lE (xs : List Int) : Int := if longP xs then 0 else if xs.length < 40 then 10 else 50
theorem l_yes {xs : List Int} (h : longP xs) : lF xs = addrI xs 8 16 ∧ lT xs = addrI xs 24 16 ∧ lN xs = n2 xs 4 + 40 ∧ lE xs = 0 ∧ lS xs = true := ⟨if_pos h, if_pos h, if_pos h, if_pos h, if_pos h⟩
theorem l_no {xs : List Int} (h : ¬ longP xs) : lF xs = zs16 ∧ lT xs = zs16 ∧ lN xs = 0 ∧ (lE xs = if xs.length < 40 then 10 else 50) ∧ lS xs = false := ⟨if_neg h, if_neg h, if_neg h, if_neg h, if_neg h⟩
def C19 : Ctr := { X := Nat × List Int, args := fun (n, xs) => [.rs (.arr .u8 n xs)], pre := fun (n, xs) => xs.length = n ∧ n ≤ 1000000 ∧ isBs xs, res := fun (_, xs) _ => .tup [.st [.st [.bool (lS xs), .arr .u8 16 (lF xs)], .st [.bool (lS xs), .arr .u8 16 (lT xs)], .int .i64 (lN xs)], .int .i64 (lE xs)], news := fun _ _ => [] }
theorem walk19 : C19.Ok tab ct18 code19 Try.f19.results.toList := by
  intro (n, xs) ⟨hl, hn, hb⟩
  by_cases hs : n < 40
  · obtain ⟨e1, e2, e3, e4, e5⟩ := l_no (xs := xs) (fun h => by have := h.1; omega)
    rw [if_pos (by omega)] at e4
    repeat' ((conv => whnf) <;> first
     | (apply Chk.go; · rfl)
     | (apply nm.go; (· (try simp (discharger := first | omega | (simp only [maxU8, maxU16, maxU32, maxU64]; omega) | decide) only [idU8, idU16, idU32, idU64, wrapI64, tdivE, tmodE, fdivE, andE, Int.toNat_natCast, Int.reduceToNat, tn8, IntKind.bits, Nat.min_eq_left, Nat.min_eq_right, Int.reducePow, Nat.reducePow, Int.reduceAdd]); (try simp only [wrapU8, wrapU16, wrapU32, wrapU64]); exact rfl); intro hr; simp only [rng] at hr)
     | (apply nmN.go; · (try simp (discharger := omega) only [Int.toNat_natCast, Int.reduceToNat, tnSub1, tn8]); first | (norm_cast; done) | (norm_cast; exact rfl) | exact rfl)
     | (apply Bnd.go; · first | omega | (simp only [ByteArray.size, List.size_toArray, List.length_cons, List.length_nil, Nat.reduceAdd]; omega))
     | (apply Drw.go; · kernel_rfl)
     | (apply Str.go; · repeat' (first | exact True.intro | exact rfl | apply And.intro))
     | apply SeqP.go
     | (apply askB.cmp; first | ((· intro h; rw [cmpP] at h; omega); intro h; rw [cmpN] at h) | (rotate_left; (· intro h; rw [cmpN] at h; omega); intro h; rw [cmpP] at h))
     | ((with_reducible apply askB.dec); first | ((· intro h; omega); intro h) | (rotate_left; (· intro h; first | exact absurd rfl h | omega); intro h))
     | ((with_reducible apply askB.ndec); first | ((· intro h; first | exact absurd rfl h | omega); intro h) | (rotate_left; (· intro h; omega); intro h))
     | with_reducible first | apply askB.tt | apply askB.ff | apply askB.and | apply askB.not | apply askB.or | apply askB.beqs | apply askB.beq)
    refine FinW.go [] [] rfl (fun nx => ?_) (fun nx => ?_) (fun nx => ?_) (fun nx => ?_) (fun _ => ?_) <;> ((repeat' ((conv => whnf) <;> (first | exact True.intro | (with_reducible exact rfl) | exact Eq.refl true | exact IdE.go rfl | apply And.intro | omega))) <;> (try (conv => whnf)))
    all_goals first | rw [e1]; rfl | rw [e2]; rfl | rw [e3] | rw [e4] | rw [e5]
  · have h0 := bs_at hb (i := 0) (by omega)
    have hz := n2_rng hb (i := 4) (by omega)
    have hP : longP xs ↔ n2 xs 4 + 40 ≤ n := by unfold longP; rw [hl]; exact ⟨fun h => h.2, fun h => ⟨by omega, h⟩⟩
    repeat' ((conv => whnf) <;> first
     | (apply Chk.go; · rfl)
     | (apply nm.go; (· (try simp (discharger := first | omega | (simp only [maxU8, maxU16, maxU32, maxU64]; omega) | decide) only [idU8, idU16, idU32, idU64, wrapI64, tdivE, tmodE, fdivE, andE, Int.toNat_natCast, Int.reduceToNat, tn8, IntKind.bits, Nat.min_eq_left, Nat.min_eq_right, Int.reducePow, Nat.reducePow, Int.reduceAdd]); (try simp only [wrapU8, wrapU16, wrapU32, wrapU64]); exact rfl); intro hr; simp only [rng] at hr)
     | (apply nmN.go; · (try simp (discharger := omega) only [Int.toNat_natCast, Int.reduceToNat, tnSub1, tn8]); first | (norm_cast; done) | (norm_cast; exact rfl) | exact rfl)
     | (apply Bnd.go; · first | omega | (simp only [ByteArray.size, List.size_toArray, List.length_cons, List.length_nil, Nat.reduceAdd]; omega))
     | (apply Drw.go; · kernel_rfl)
     | (apply Str.go; · repeat' (first | exact True.intro | exact rfl | apply And.intro))
     | apply SeqP.go
     | (apply askB.cmp; first | ((· intro h; rw [cmpP] at h; omega); intro h; rw [cmpN] at h) | (rotate_left; (· intro h; rw [cmpN] at h; omega); intro h; rw [cmpP] at h))
     | ((with_reducible apply askB.dec); first | ((· intro h; omega); intro h) | (rotate_left; (· intro h; first | exact absurd rfl h | omega); intro h))
     | ((with_reducible apply askB.ndec); first | ((· intro h; first | exact absurd rfl h | omega); intro h) | (rotate_left; (· intro h; omega); intro h))
     | with_reducible first | apply askB.tt | apply askB.ff | apply askB.and | apply askB.not | apply askB.or | apply askB.beqs | apply askB.beq)
    (refine Ctr.goE (C := C23) ((n, xs, 4)) (⟨hl, hn, hb, .inr rfl, by omega⟩) (fun _ => .tup [.int .u64 (n2 xs 4), .int .i64 0]) (fun _ => []) (by rfl) (by rfl) ?_ ?_ ?_); (· ((repeat' ((conv => whnf) <;> (first | exact True.intro | (with_reducible exact rfl) | exact Eq.refl true | exact IdE.go rfl | apply And.intro | omega))) <;> (try (conv => whnf))); all_goals rfl); (· ((repeat' ((conv => whnf) <;> (first | exact True.intro | (with_reducible exact rfl) | exact Eq.refl true | exact IdE.go rfl | apply And.intro | omega))) <;> (try (conv => whnf))); all_goals rfl)
    repeat' ((conv => whnf) <;> first
     | (apply Chk.go; · rfl)
     | (apply nm.go; (· (try simp (discharger := first | omega | (simp only [maxU8, maxU16, maxU32, maxU64]; omega) | decide) only [idU8, idU16, idU32, idU64, wrapI64, tdivE, tmodE, fdivE, andE, Int.toNat_natCast, Int.reduceToNat, tn8, IntKind.bits, Nat.min_eq_left, Nat.min_eq_right, Int.reducePow, Nat.reducePow, Int.reduceAdd]); (try simp only [wrapU8, wrapU16, wrapU32, wrapU64]); exact rfl); intro hr; simp only [rng] at hr)
     | (apply nmN.go; · (try simp (discharger := omega) only [Int.toNat_natCast, Int.reduceToNat, tnSub1, tn8]); first | (norm_cast; done) | (norm_cast; exact rfl) | exact rfl)
     | (apply Bnd.go; · first | omega | (simp only [ByteArray.size, List.size_toArray, List.length_cons, List.length_nil, Nat.reduceAdd]; omega))
     | (apply Drw.go; · kernel_rfl)
     | (apply Str.go; · repeat' (first | exact True.intro | exact rfl | apply And.intro))
     | apply SeqP.go
     | (apply askB.cmp <;> intro h <;> (first | rw [cmpP] at h | rw [cmpN] at h) <;> try omega)
     | ((with_reducible apply askB.dec) <;> intro h <;> try omega)
     | with_reducible first | apply askB.tt | apply askB.ff | apply askB.and | apply askB.not | apply askB.or | apply askB.beqs | apply askB.beq
     | (apply askB.go <;> intro h)
     | (refine Ctr.goE (C := C24) ((n, xs, 8, true)) (⟨hl, hn, by omega, (by show (8 : Int) + (16 : Nat) ≤ n; omega)⟩) (fun _ => .st [.bool true, .arr .u8 16 (addrI xs 8 16)]) (fun _ => []) (by rfl) (by rfl) ?_ ?_ ?_); (· ((repeat' ((conv => whnf) <;> (first | exact True.intro | (with_reducible exact rfl) | exact Eq.refl true | exact IdE.go rfl | apply And.intro | omega))) <;> (try (conv => whnf))); all_goals rfl); (· ((repeat' ((conv => whnf) <;> (first | exact True.intro | (with_reducible exact rfl) | exact Eq.refl true | exact IdE.go rfl | apply And.intro | omega))) <;> (try (conv => whnf))); all_goals rfl)
     | (refine Ctr.goE (C := C24) ((n, xs, 24, true)) (⟨hl, hn, by omega, (by show (24 : Int) + (16 : Nat) ≤ n; omega)⟩) (fun _ => .st [.bool true, .arr .u8 16 (addrI xs 24 16)]) (fun _ => []) (by rfl) (by rfl) ?_ ?_ ?_); (· ((repeat' ((conv => whnf) <;> (first | exact True.intro | (with_reducible exact rfl) | exact Eq.refl true | exact IdE.go rfl | apply And.intro | omega))) <;> (try (conv => whnf))); all_goals rfl); (· ((repeat' ((conv => whnf) <;> (first | exact True.intro | (with_reducible exact rfl) | exact Eq.refl true | exact IdE.go rfl | apply And.intro | omega))) <;> (try (conv => whnf))); all_goals rfl))
    all_goals (refine FinW.go [] [] rfl (fun nx => ?_) (fun nx => ?_) (fun nx => ?_) (fun nx => ?_) (fun _ => ?_) <;> ((repeat' ((conv => whnf) <;> (first | exact True.intro | (with_reducible exact rfl) | exact Eq.refl true | exact IdE.go rfl | apply And.intro | omega))) <;> (try (conv => whnf))))
    all_goals first
      | (obtain ⟨e1, e2, e3, e4, e5⟩ := l_yes (hP.2 (by omega))
         first | rw [e1]; done | rw [e2]; done | rw [e3]; done | rw [e4]; done | rw [e5]; done)
      | (obtain ⟨e1, e2, e3, e4, e5⟩ := l_no (xs := xs) (fun h => by have := hP.1 h; omega)
         rw [if_neg (by omega)] at e4
         first | rw [e1]; rfl | rw [e2]; rfl | rw [e3]; done | rw [e4]; done | rw [e5]; done)
theorem sp19 : SpS Try.prog 19 C19.spec := ctr_sound tabOk ct18ok mixed Try.func19 body19 okc19 C19 (fun _ => Nat.le_of_ble_eq_true rfl) walk19

end Go.Proofs.Ytlkaehbeapmplaa.Ax
