/- Contracts of functions of the program, walked over abstract values. -/
import Derived.Test.YtehfkjjmangjlaaW6
set_option linter.unusedSimpArgs false
set_option linter.unusedVariables false
namespace Go.Proofs.Ytehfkjjmangjlaa.Ax
open Go Go.Ax Go.Proofs
attribute [local irreducible] Chk Bnd Str Kn Drw nm nmN askB SeqP LoopP FinW Ctr.spec Go.Ax.Sub IdE

/-- A digit's number, at a place. -/
def dig (s : ByteArray) (i : Nat) : Int := valI (bA s i)
def hexAt (s : ByteArray) (i j : Nat) : Int := dig s (2 * j) * 16 + if 2 * j + 1 < i then dig s (2 * j + 1) else 0
def outI (s : ByteArray) (i : Nat) : List Int := (List.range ((i + 1) / 2)).map (hexAt s i)

theorem outI_even (s : ByteArray) (i : Nat) (h : i % 2 = 0) : outI s (i + 1) = outI s i ++ [dig s i * 16] := by
  unfold outI
  rw [show (i + 1 + 1) / 2 = (i + 1) / 2 + 1 by omega, List.range_succ, List.map_append]
  congr 1
  · refine List.map_congr_left fun j hj => ?_
    have hj' : j < (i + 1) / 2 := by simpa using hj
    unfold hexAt
    rw [if_pos (by omega), if_pos (by omega)]
  · simp only [List.map_cons, List.map_nil, hexAt]
    rw [if_neg (by omega), show 2 * ((i + 1) / 2) = i by omega]
    simp

theorem outI_at (s : ByteArray) (i j : Nat) (h : j < (i + 1) / 2) : (outI s i).getD j 0 = hexAt s i j := by
  unfold outI
  rw [List.getD_eq_getElem?_getD, List.getElem?_map, List.getElem?_range h]
  rfl

theorem outI_odd (s : ByteArray) (i : Nat) (h : i % 2 = 1) : outI s (i + 1) = (outI s i).set (i / 2) (dig s (i - 1) * 16 + dig s i) ∧ hexAt s i (i / 2) = dig s (i - 1) * 16 := by
  refine ⟨?_, by unfold hexAt; rw [if_neg (by omega), show 2 * (i / 2) = i - 1 by omega]; simp⟩
  unfold outI
  rw [show (i + 1 + 1) / 2 = (i + 1) / 2 by omega]
  apply List.ext_getElem
  · simp
  · intro j h1 h2
    simp only [List.length_map, List.length_range] at h1
    rw [List.getElem_set]
    simp only [List.getElem_map, List.getElem_range]
    unfold hexAt
    rw [if_pos (by omega)]
    by_cases e : i / 2 = j
    · subst e
      rw [if_pos rfl, show 2 * (i / 2) = i - 1 by omega, show i - 1 + 1 = i by omega]
    · rw [if_neg e, if_pos (by omega)]

theorem outI_len (s : ByteArray) (i : Nat) : (outI s i).length = (i + 1) / 2 := by simp [outI]

def firstBad (s : ByteArray) : Option Nat := (List.range s.size).find? fun j => decide (15 < dig s j)
def unhexF (s : ByteArray) : List Int × Int × Int :=
  if 131072 < s.size then ([], 0, 2) else match firstBad s with
  | some i => ([], i, 11)
  | none => if s.size % 2 ≠ 0 then ([], s.size, 10) else (outI s s.size, 0, 0)
theorem bad_at {s : ByteArray} {i : Nat} (hi : i < s.size) (hd : ∀ j, j < i → dig s j ≤ 15) (hb : 15 < dig s i) : firstBad s = some i := by
  unfold firstBad
  rw [List.find?_range_eq_some]
  refine ⟨by simpa using hb, by simpa using hi, fun j hj => by have := hd j hj; simp; omega⟩

theorem bad_no {s : ByteArray} (hd : ∀ j, j < s.size → dig s j ≤ 15) : firstBad s = none := by
  unfold firstBad
  rw [List.find?_eq_none]
  intro j hj
  have := hd j (by simpa using hj)
  simp; omega

theorem valI_ge (c : Int) : 0 ≤ valI c := by unfold valI; (repeat' split) <;> omega

noncomputable def ct16 : Specs := [(43, C43.spec)]
theorem ct16ok : SpecsOk Try.prog ct16 := specs_cons Try.call43 sp43 specs_nil
def C16 : Ctr := { X := ByteArray, args := fun s => [.str s], pre := fun _ => True, res := fun s nx => .tup [.ow nx 5, .st [.int .i64 (unhexF s).2.1, .int .i64 (unhexF s).2.2]], news := fun s _ => [.arr .u8 (unhexF s).1.length (unhexF s).1] }

theorem walk16 : C16.Ok tab ct16 code16 Try.f16.results.toList := by
  intro (s : ByteArray) _
  repeat' ((conv => whnf) <;> first
   | (apply Chk.go; · rfl)
   | (apply nm.go; (· (try simp (discharger := first | omega | (simp only [maxU8, maxU16, maxU32, maxU64]; omega) | decide) only [idU8, idU16, idU32, idU64, wrapI64, tdivE, tmodE, fdivE, andE, Int.toNat_natCast, Int.reduceToNat, tn8, IntKind.bits, Nat.min_eq_left, Nat.min_eq_right, Int.reducePow, Nat.reducePow, Int.reduceAdd]); (try simp only [wrapU8, wrapU16, wrapU32, wrapU64]); exact rfl); intro hr; simp only [rng] at hr)
   | (apply nmN.go; · (try simp (discharger := omega) only [Int.toNat_natCast, Int.reduceToNat, tnSub1, tn8]); first | (norm_cast; done) | (norm_cast; exact rfl) | exact rfl)
   | (apply Bnd.go; · first | omega | (simp only [ByteArray.size, List.size_toArray, List.length_cons, List.length_nil, Nat.reduceAdd]; omega))
   | (apply Drw.go; · kernel_rfl)
   | (apply Str.go; · repeat' (first | exact True.intro | exact rfl | apply And.intro))
   | apply SeqP.go
   | (apply askB.cmp; first | ((· intro h; rw [cmpP] at h; omega); intro h; rw [cmpN] at h) | (rotate_left; (· intro h; rw [cmpN] at h; omega); intro h; rw [cmpP] at h))
   | ((with_reducible apply askB.dec); first | ((· intro h; omega); intro h) | (rotate_left; (· intro h; first | exact absurd rfl h | omega); intro h))
   | ((with_reducible apply askB.ndec); first | ((· intro h; first | exact absurd rfl h | omega); intro h) | (rotate_left; (· intro h; omega); intro h))
   | with_reducible first | apply askB.tt | apply askB.ff | apply askB.and | apply askB.not | apply askB.or | apply askB.beqs | apply askB.beq)
  refine askB.gtr (fun h => ?_) (fun h => ?_)
  · have e : unhexF s = ([], 0, 2) := by rw [unhexF, if_pos (by omega)]
    repeat' ((conv => whnf) <;> first
     | (apply Chk.go; · rfl)
     | (apply nm.go; (· (try simp (discharger := first | omega | (simp only [maxU8, maxU16, maxU32, maxU64]; omega) | decide) only [idU8, idU16, idU32, idU64, wrapI64, tdivE, tmodE, fdivE, andE, Int.toNat_natCast, Int.reduceToNat, tn8, IntKind.bits, Nat.min_eq_left, Nat.min_eq_right, Int.reducePow, Nat.reducePow, Int.reduceAdd]); (try simp only [wrapU8, wrapU16, wrapU32, wrapU64]); exact rfl); intro hr; simp only [rng] at hr)
     | (apply nmN.go; · (try simp (discharger := omega) only [Int.toNat_natCast, Int.reduceToNat, tnSub1, tn8]); first | (norm_cast; done) | (norm_cast; exact rfl) | exact rfl)
     | (apply Bnd.go; · first | omega | (simp only [ByteArray.size, List.size_toArray, List.length_cons, List.length_nil, Nat.reduceAdd]; omega))
     | (apply Drw.go; · kernel_rfl)
     | (apply Str.go; · repeat' (first | exact True.intro | exact rfl | apply And.intro))
     | apply SeqP.go
     | (apply askB.cmp; first | ((· intro h; rw [cmpP] at h; omega); intro h; rw [cmpN] at h) | (rotate_left; (· intro h; rw [cmpN] at h; omega); intro h; rw [cmpP] at h))
     | ((with_reducible apply askB.dec); first | ((· intro h; omega); intro h) | (rotate_left; (· intro h; first | exact absurd rfl h | omega); intro h))
     | ((with_reducible apply askB.ndec); first | ((· intro h; first | exact absurd rfl h | omega); intro h) | (rotate_left; (· intro h; omega); intro h))
     | with_reducible first | apply askB.tt | apply askB.ff | apply askB.and | apply askB.not | apply askB.or | apply askB.beqs | apply askB.beq)
    refine FinW.nilF (nil1 5) [.arr .u8 0 []] (fun k => [k]) ?_ ?_ rfl (fun nx => ?_) (fun nx => ?_) (fun nx => ?_) (fun nx => ?_) (fun _ => ?_) <;> ((repeat' ((conv => whnf) <;> (first | exact True.intro | (with_reducible exact rfl) | exact Eq.refl true | exact IdE.go rfl | apply And.intro | omega))) <;> (try (conv => whnf)))
    all_goals (rw [e]; try rfl)
  · have hb : ¬ 131072 < s.size := by omega
    repeat' ((conv => whnf) <;> first
     | (apply Chk.go; · rfl)
     | (apply nm.go; (· (try simp (discharger := first | omega | (simp only [maxU8, maxU16, maxU32, maxU64]; omega) | decide) only [idU8, idU16, idU32, idU64, wrapI64, tdivE, tmodE, fdivE, andE, Int.toNat_natCast, Int.reduceToNat, tn8, IntKind.bits, Nat.min_eq_left, Nat.min_eq_right, Int.reducePow, Nat.reducePow, Int.reduceAdd]); (try simp only [wrapU8, wrapU16, wrapU32, wrapU64]); exact rfl); intro hr; simp only [rng] at hr)
     | (apply nmN.go; · (try simp (discharger := omega) only [Int.toNat_natCast, Int.reduceToNat, tnSub1, tn8]); first | (norm_cast; done) | (norm_cast; exact rfl) | exact rfl)
     | (apply Bnd.go; · first | omega | (simp only [ByteArray.size, List.size_toArray, List.length_cons, List.length_nil, Nat.reduceAdd]; omega))
     | (apply Drw.go; · kernel_rfl)
     | (apply Str.go; · repeat' (first | exact True.intro | exact rfl | apply And.intro))
     | apply SeqP.go
     | (apply askB.cmp; first | ((· intro h; rw [cmpP] at h; omega); intro h; rw [cmpN] at h) | (rotate_left; (· intro h; rw [cmpN] at h; omega); intro h; rw [cmpP] at h))
     | ((with_reducible apply askB.dec); first | ((· intro h; omega); intro h) | (rotate_left; (· intro h; first | exact absurd rfl h | omega); intro h))
     | ((with_reducible apply askB.ndec); first | ((· intro h; first | exact absurd rfl h | omega); intro h) | (rotate_left; (· intro h; omega); intro h))
     | with_reducible first | apply askB.tt | apply askB.ff | apply askB.and | apply askB.not | apply askB.or | apply askB.beqs | apply askB.beq)
    refine LoopP.go (X := Nat) (fun i => i ≤ s.size ∧ ∀ j, j < i → dig s j ≤ 15) (fun i => [(14, .int .i64 i), (4, .ow 2 5)]) (fun i => [(2, some (.arr .u8 ((i + 1) / 2) (outI s i)))]) 3 (fun i => s.size - i) 0 ⟨by omega, fun j hj => by omega⟩ ?_ ?_
    · refine Sub.go [(0, 0), (1, 1)] [2] rfl ?_ ?_ <;> ((repeat' ((conv => whnf) <;> (first | exact True.intro | (with_reducible exact rfl) | exact Eq.refl true | exact IdE.go rfl | apply And.intro | omega))) <;> (try (conv => whnf)))
      rfl
    · intro i ⟨hi, hd⟩
      repeat' ((conv => whnf) <;> first
       | (apply Chk.go; · rfl)
       | (apply nm.go; (· (try simp (discharger := first | omega | (simp only [maxU8, maxU16, maxU32, maxU64]; omega) | decide) only [idU8, idU16, idU32, idU64, wrapI64, tdivE, tmodE, fdivE, andE, Int.toNat_natCast, Int.reduceToNat, tn8, IntKind.bits, Nat.min_eq_left, Nat.min_eq_right, Int.reducePow, Nat.reducePow, Int.reduceAdd]); (try simp only [wrapU8, wrapU16, wrapU32, wrapU64]); exact rfl); intro hr; simp only [rng] at hr)
       | (apply nmN.go; · (try simp (discharger := omega) only [Int.toNat_natCast, Int.reduceToNat, tnSub1, tn8]); first | (norm_cast; done) | (norm_cast; exact rfl) | exact rfl)
       | (apply Bnd.go; · first | omega | (simp only [ByteArray.size, List.size_toArray, List.length_cons, List.length_nil, Nat.reduceAdd]; omega))
       | (apply Drw.go; · kernel_rfl)
       | (apply Str.go; · repeat' (first | exact True.intro | exact rfl | apply And.intro))
       | apply SeqP.go
       | (apply askB.cmp; first | ((· intro h; rw [cmpP] at h; omega); intro h; rw [cmpN] at h) | (rotate_left; (· intro h; rw [cmpN] at h; omega); intro h; rw [cmpP] at h))
       | ((with_reducible apply askB.dec); first | ((· intro h; omega); intro h) | (rotate_left; (· intro h; first | exact absurd rfl h | omega); intro h))
       | ((with_reducible apply askB.ndec); first | ((· intro h; first | exact absurd rfl h | omega); intro h) | (rotate_left; (· intro h; omega); intro h))
       | with_reducible first | apply askB.tt | apply askB.ff | apply askB.and | apply askB.not | apply askB.or | apply askB.beqs | apply askB.beq)
      refine askB.lss (fun h2 => ?_) (fun h2 => ?_)
      · repeat' ((conv => whnf) <;> first
       | (apply Chk.go; · rfl)
       | (apply nm.go; (· (try simp (discharger := first | omega | (simp only [maxU8, maxU16, maxU32, maxU64]; omega) | decide) only [idU8, idU16, idU32, idU64, wrapI64, tdivE, tmodE, fdivE, andE, Int.toNat_natCast, Int.reduceToNat, tn8, IntKind.bits, Nat.min_eq_left, Nat.min_eq_right, Int.reducePow, Nat.reducePow, Int.reduceAdd]); (try simp only [wrapU8, wrapU16, wrapU32, wrapU64]); exact rfl); intro hr; simp only [rng] at hr)
       | (apply nmN.go; · (try simp (discharger := omega) only [Int.toNat_natCast, Int.reduceToNat, tnSub1, tn8]); first | (norm_cast; done) | (norm_cast; exact rfl) | exact rfl)
       | (apply Bnd.go; · first | omega | (simp only [ByteArray.size, List.size_toArray, List.length_cons, List.length_nil, Nat.reduceAdd]; omega))
       | (apply Drw.go; · kernel_rfl)
       | (apply Str.go; · repeat' (first | exact True.intro | exact rfl | apply And.intro))
       | apply SeqP.go
       | (apply askB.cmp; first | ((· intro h; rw [cmpP] at h; omega); intro h; rw [cmpN] at h) | (rotate_left; (· intro h; rw [cmpN] at h; omega); intro h; rw [cmpP] at h))
       | ((with_reducible apply askB.dec); first | ((· intro h; omega); intro h) | (rotate_left; (· intro h; first | exact absurd rfl h | omega); intro h))
       | ((with_reducible apply askB.ndec); first | ((· intro h; first | exact absurd rfl h | omega); intro h) | (rotate_left; (· intro h; omega); intro h))
       | with_reducible first | apply askB.tt | apply askB.ff | apply askB.and | apply askB.not | apply askB.or | apply askB.beqs | apply askB.beq)
        refine Ctr.go (C := C43) (bA s i) (by simpa only [rng]) ⟨trivial, trivial⟩ ?_ ?_
        · (repeat' ((conv => whnf) <;> (first | exact True.intro | (with_reducible exact rfl) | exact Eq.refl true | exact IdE.go rfl | apply And.intro | omega))) <;> (try (conv => whnf))
        have v0 := valI_ge (bA s i)
        repeat' ((conv => whnf) <;> first
         | (apply Chk.go; · rfl)
         | (apply nm.go; (· (try simp (discharger := first | omega | (simp only [maxU8, maxU16, maxU32, maxU64]; omega) | decide) only [idU8, idU16, idU32, idU64, wrapI64, tdivE, tmodE, fdivE, andE, Int.toNat_natCast, Int.reduceToNat, tn8, IntKind.bits, Nat.min_eq_left, Nat.min_eq_right, Int.reducePow, Nat.reducePow, Int.reduceAdd]); (try simp only [wrapU8, wrapU16, wrapU32, wrapU64]); exact rfl); intro hr; simp only [rng] at hr)
         | (apply nmN.go; · (try simp (discharger := omega) only [Int.toNat_natCast, Int.reduceToNat, tnSub1, tn8]); first | (norm_cast; done) | (norm_cast; exact rfl) | exact rfl)
         | (apply Bnd.go; · first | omega | (simp only [ByteArray.size, List.size_toArray, List.length_cons, List.length_nil, Nat.reduceAdd]; omega))
         | (apply Drw.go; · kernel_rfl)
         | (apply Str.go; · repeat' (first | exact True.intro | exact rfl | apply And.intro))
         | apply SeqP.go
         | (apply askB.cmp; first | ((· intro h; rw [cmpP] at h; omega); intro h; rw [cmpN] at h) | (rotate_left; (· intro h; rw [cmpN] at h; omega); intro h; rw [cmpP] at h))
         | ((with_reducible apply askB.dec); first | ((· intro h; omega); intro h) | (rotate_left; (· intro h; first | exact absurd rfl h | omega); intro h))
         | ((with_reducible apply askB.ndec); first | ((· intro h; first | exact absurd rfl h | omega); intro h) | (rotate_left; (· intro h; omega); intro h))
         | with_reducible first | apply askB.tt | apply askB.ff | apply askB.and | apply askB.not | apply askB.or | apply askB.beqs | apply askB.beq)
        refine askB.gtr (fun h3 => ?_) (fun h3 => ?_)
        · have e : unhexF s = ([], (i : Int), 11) := by rw [unhexF, if_neg hb, bad_at (by omega) hd (by unfold dig; omega)]
          repeat' ((conv => whnf) <;> first
           | (apply Chk.go; · rfl)
           | (apply nm.go; (· (try simp (discharger := first | omega | (simp only [maxU8, maxU16, maxU32, maxU64]; omega) | decide) only [idU8, idU16, idU32, idU64, wrapI64, tdivE, tmodE, fdivE, andE, Int.toNat_natCast, Int.reduceToNat, tn8, IntKind.bits, Nat.min_eq_left, Nat.min_eq_right, Int.reducePow, Nat.reducePow, Int.reduceAdd]); (try simp only [wrapU8, wrapU16, wrapU32, wrapU64]); exact rfl); intro hr; simp only [rng] at hr)
           | (apply nmN.go; · (try simp (discharger := omega) only [Int.toNat_natCast, Int.reduceToNat, tnSub1, tn8]); first | (norm_cast; done) | (norm_cast; exact rfl) | exact rfl)
           | (apply Bnd.go; · first | omega | (simp only [ByteArray.size, List.size_toArray, List.length_cons, List.length_nil, Nat.reduceAdd]; omega))
           | (apply Drw.go; · kernel_rfl)
           | (apply Str.go; · repeat' (first | exact True.intro | exact rfl | apply And.intro))
           | apply SeqP.go
           | (apply askB.cmp; first | ((· intro h; rw [cmpP] at h; omega); intro h; rw [cmpN] at h) | (rotate_left; (· intro h; rw [cmpN] at h; omega); intro h; rw [cmpP] at h))
           | ((with_reducible apply askB.dec); first | ((· intro h; omega); intro h) | (rotate_left; (· intro h; first | exact absurd rfl h | omega); intro h))
           | ((with_reducible apply askB.ndec); first | ((· intro h; first | exact absurd rfl h | omega); intro h) | (rotate_left; (· intro h; omega); intro h))
           | with_reducible first | apply askB.tt | apply askB.ff | apply askB.and | apply askB.not | apply askB.or | apply askB.beqs | apply askB.beq)
          refine FinW.nilF (nil1 5) [.arr .u8 0 []] (fun k => [k]) ?_ ?_ rfl (fun nx => ?_) (fun nx => ?_) (fun nx => ?_) (fun nx => ?_) (fun _ => ?_) <;> ((repeat' ((conv => whnf) <;> (first | exact True.intro | (with_reducible exact rfl) | exact Eq.refl true | exact IdE.go rfl | apply And.intro | omega))) <;> (try (conv => whnf)))
          all_goals (rw [e]; try rfl)
        · have hd' : ∀ j, j < i + 1 → dig s j ≤ 15 := fun j hj => by
            rcases Nat.lt_or_ge j i with h | h
            · exact hd j h
            · rw [show j = i by omega]; exact h3
          repeat' ((conv => whnf) <;> first
           | (apply Chk.go; · rfl)
           | (apply nm.go; (· (try simp (discharger := first | omega | (simp only [maxU8, maxU16, maxU32, maxU64]; omega) | decide) only [idU8, idU16, idU32, idU64, wrapI64, tdivE, tmodE, fdivE, andE, Int.toNat_natCast, Int.reduceToNat, tn8, IntKind.bits, Nat.min_eq_left, Nat.min_eq_right, Int.reducePow, Nat.reducePow, Int.reduceAdd]); (try simp only [wrapU8, wrapU16, wrapU32, wrapU64]); exact rfl); intro hr; simp only [rng] at hr)
           | (apply nmN.go; · (try simp (discharger := omega) only [Int.toNat_natCast, Int.reduceToNat, tnSub1, tn8]); first | (norm_cast; done) | (norm_cast; exact rfl) | exact rfl)
           | (apply Bnd.go; · first | omega | (simp only [ByteArray.size, List.size_toArray, List.length_cons, List.length_nil, Nat.reduceAdd]; omega))
           | (apply Drw.go; · kernel_rfl)
           | (apply Str.go; · repeat' (first | exact True.intro | exact rfl | apply And.intro))
           | apply SeqP.go
           | (apply askB.cmp; first | ((· intro h; rw [cmpP] at h; omega); intro h; rw [cmpN] at h) | (rotate_left; (· intro h; rw [cmpN] at h; omega); intro h; rw [cmpP] at h))
           | ((with_reducible apply askB.dec); first | ((· intro h; omega); intro h) | (rotate_left; (· intro h; first | exact absurd rfl h | omega); intro h))
           | ((with_reducible apply askB.ndec); first | ((· intro h; first | exact absurd rfl h | omega); intro h) | (rotate_left; (· intro h; omega); intro h))
           | with_reducible first | apply askB.tt | apply askB.ff | apply askB.and | apply askB.not | apply askB.or | apply askB.beqs | apply askB.beq)
          refine askB.eql (fun h4 => ?_) (fun h4 => ?_)
          · have hev := outI_even s i (by omega)
            repeat' ((conv => whnf) <;> first
             | (apply Chk.go; · rfl)
             | (apply nm.go; (· (try simp (discharger := first | omega | (simp only [maxU8, maxU16, maxU32, maxU64]; omega) | decide) only [idU8, idU16, idU32, idU64, wrapI64, tdivE, tmodE, fdivE, andE, Int.toNat_natCast, Int.reduceToNat, tn8, IntKind.bits, Nat.min_eq_left, Nat.min_eq_right, Int.reducePow, Nat.reducePow, Int.reduceAdd]); (try simp only [wrapU8, wrapU16, wrapU32, wrapU64]); exact rfl); intro hr; simp only [rng] at hr)
             | (apply nmN.go; · (try simp (discharger := omega) only [Int.toNat_natCast, Int.reduceToNat, tnSub1, tn8]); first | (norm_cast; done) | (norm_cast; exact rfl) | exact rfl)
             | (apply Bnd.go; · first | omega | (simp only [ByteArray.size, List.size_toArray, List.length_cons, List.length_nil, Nat.reduceAdd]; omega))
             | (apply Drw.go; · kernel_rfl)
             | (apply Str.go; · repeat' (first | exact True.intro | exact rfl | apply And.intro))
             | apply SeqP.go
             | (apply askB.cmp; first | ((· intro h; rw [cmpP] at h; omega); intro h; rw [cmpN] at h) | (rotate_left; (· intro h; rw [cmpN] at h; omega); intro h; rw [cmpP] at h))
             | ((with_reducible apply askB.dec); first | ((· intro h; omega); intro h) | (rotate_left; (· intro h; first | exact absurd rfl h | omega); intro h))
             | ((with_reducible apply askB.ndec); first | ((· intro h; first | exact absurd rfl h | omega); intro h) | (rotate_left; (· intro h; omega); intro h))
             | with_reducible first | apply askB.tt | apply askB.ff | apply askB.and | apply askB.not | apply askB.or | apply askB.beqs | apply askB.beq)
            refine ⟨i + 1, ⟨by omega, hd'⟩, by omega, ?_⟩
            refine Sub.go [(0, 0), (1, 1), (2, 4)] [] rfl ?_ ?_ <;> ((repeat' ((conv => whnf) <;> (first | exact True.intro | (with_reducible exact rfl) | exact Eq.refl true | exact IdE.go rfl | apply And.intro | omega))) <;> (try (conv => whnf)))
            rw [hev]; rfl
          · obtain ⟨o1, o2⟩ := outI_odd s i (by omega)
            have hat := outI_at s i (i / 2) (by omega)
            have hd1 := hd (i - 1) (by omega)
            have hd0 : 0 ≤ dig s (i - 1) := valI_ge _
            have hl := outI_len s i
            repeat' ((conv => whnf) <;> first
             | (apply Chk.go; · rfl)
             | (apply nm.go; (· (try simp (discharger := first | omega | (simp only [maxU8, maxU16, maxU32, maxU64]; omega) | decide) only [idU8, idU16, idU32, idU64, wrapI64, tdivE, tmodE, fdivE, andE, Int.toNat_natCast, Int.reduceToNat, tn8, IntKind.bits, Nat.min_eq_left, Nat.min_eq_right, Int.reducePow, Nat.reducePow, Int.reduceAdd]); (try simp only [wrapU8, wrapU16, wrapU32, wrapU64]); exact rfl); intro hr; simp only [rng] at hr)
             | (apply nmN.go; · (try simp (discharger := omega) only [Int.toNat_natCast, Int.reduceToNat, tnSub1, tn8]); first | (norm_cast; done) | (norm_cast; exact rfl) | exact rfl)
             | (apply Bnd.go; · first | omega | (simp only [ByteArray.size, List.size_toArray, List.length_cons, List.length_nil, Nat.reduceAdd]; omega))
             | (apply Drw.go; · kernel_rfl)
             | (apply Str.go; · repeat' (first | exact True.intro | exact rfl | apply And.intro))
             | apply SeqP.go
             | (apply askB.cmp; first | ((· intro h; rw [cmpP] at h; omega); intro h; rw [cmpN] at h) | (rotate_left; (· intro h; rw [cmpN] at h; omega); intro h; rw [cmpP] at h))
             | ((with_reducible apply askB.dec); first | ((· intro h; omega); intro h) | (rotate_left; (· intro h; first | exact absurd rfl h | omega); intro h))
             | ((with_reducible apply askB.ndec); first | ((· intro h; first | exact absurd rfl h | omega); intro h) | (rotate_left; (· intro h; omega); intro h))
             | with_reducible first | apply askB.tt | apply askB.ff | apply askB.and | apply askB.not | apply askB.or | apply askB.beqs | apply askB.beq)
            refine ⟨i + 1, ⟨by omega, hd'⟩, by omega, ?_⟩
            refine Sub.go [(0, 0), (1, 1), (2, 2)] [] rfl ?_ ?_ <;> ((repeat' ((conv => whnf) <;> (first | exact True.intro | (with_reducible exact rfl) | exact Eq.refl true | exact IdE.go rfl | apply And.intro | omega))) <;> (try (conv => whnf)))
            rw [o1, hat, o2, (or_add (k := .u8) rfl (x := valI (bA s i)) (y := dig s (i - 1) * 16) 4 (dig s (i - 1)).toNat (by omega) (by omega) (by show _ < 256; omega)).2, Int.add_comm]
            rfl
      · have hs : i = s.size := by omega
        subst hs
        repeat' ((conv => whnf) <;> first
         | (apply Chk.go; · rfl)
         | (apply nm.go; (· (try simp (discharger := first | omega | (simp only [maxU8, maxU16, maxU32, maxU64]; omega) | decide) only [idU8, idU16, idU32, idU64, wrapI64, tdivE, tmodE, fdivE, andE, Int.toNat_natCast, Int.reduceToNat, tn8, IntKind.bits, Nat.min_eq_left, Nat.min_eq_right, Int.reducePow, Nat.reducePow, Int.reduceAdd]); (try simp only [wrapU8, wrapU16, wrapU32, wrapU64]); exact rfl); intro hr; simp only [rng] at hr)
         | (apply nmN.go; · (try simp (discharger := omega) only [Int.toNat_natCast, Int.reduceToNat, tnSub1, tn8]); first | (norm_cast; done) | (norm_cast; exact rfl) | exact rfl)
         | (apply Bnd.go; · first | omega | (simp only [ByteArray.size, List.size_toArray, List.length_cons, List.length_nil, Nat.reduceAdd]; omega))
         | (apply Drw.go; · kernel_rfl)
         | (apply Str.go; · repeat' (first | exact True.intro | exact rfl | apply And.intro))
         | apply SeqP.go
         | (apply askB.cmp; first | ((· intro h; rw [cmpP] at h; omega); intro h; rw [cmpN] at h) | (rotate_left; (· intro h; rw [cmpN] at h; omega); intro h; rw [cmpP] at h))
         | ((with_reducible apply askB.dec); first | ((· intro h; omega); intro h) | (rotate_left; (· intro h; first | exact absurd rfl h | omega); intro h))
         | ((with_reducible apply askB.ndec); first | ((· intro h; first | exact absurd rfl h | omega); intro h) | (rotate_left; (· intro h; omega); intro h))
         | with_reducible first | apply askB.tt | apply askB.ff | apply askB.and | apply askB.not | apply askB.or | apply askB.beqs | apply askB.beq)
        refine askB.neq (fun h5 => ?_) (fun h5 => ?_)
        · have e : unhexF s = ([], (s.size : Int), 10) := by rw [unhexF, if_neg hb, bad_no hd]; show (if s.size % 2 ≠ 0 then _ else _) = _; rw [if_pos (by omega)]
          repeat' ((conv => whnf) <;> first
           | (apply Chk.go; · rfl)
           | (apply nm.go; (· (try simp (discharger := first | omega | (simp only [maxU8, maxU16, maxU32, maxU64]; omega) | decide) only [idU8, idU16, idU32, idU64, wrapI64, tdivE, tmodE, fdivE, andE, Int.toNat_natCast, Int.reduceToNat, tn8, IntKind.bits, Nat.min_eq_left, Nat.min_eq_right, Int.reducePow, Nat.reducePow, Int.reduceAdd]); (try simp only [wrapU8, wrapU16, wrapU32, wrapU64]); exact rfl); intro hr; simp only [rng] at hr)
           | (apply nmN.go; · (try simp (discharger := omega) only [Int.toNat_natCast, Int.reduceToNat, tnSub1, tn8]); first | (norm_cast; done) | (norm_cast; exact rfl) | exact rfl)
           | (apply Bnd.go; · first | omega | (simp only [ByteArray.size, List.size_toArray, List.length_cons, List.length_nil, Nat.reduceAdd]; omega))
           | (apply Drw.go; · kernel_rfl)
           | (apply Str.go; · repeat' (first | exact True.intro | exact rfl | apply And.intro))
           | apply SeqP.go
           | (apply askB.cmp; first | ((· intro h; rw [cmpP] at h; omega); intro h; rw [cmpN] at h) | (rotate_left; (· intro h; rw [cmpN] at h; omega); intro h; rw [cmpP] at h))
           | ((with_reducible apply askB.dec); first | ((· intro h; omega); intro h) | (rotate_left; (· intro h; first | exact absurd rfl h | omega); intro h))
           | ((with_reducible apply askB.ndec); first | ((· intro h; first | exact absurd rfl h | omega); intro h) | (rotate_left; (· intro h; omega); intro h))
           | with_reducible first | apply askB.tt | apply askB.ff | apply askB.and | apply askB.not | apply askB.or | apply askB.beqs | apply askB.beq)
          refine FinW.nilF (nil1 5) [.arr .u8 0 []] (fun k => [k]) ?_ ?_ rfl (fun nx => ?_) (fun nx => ?_) (fun nx => ?_) (fun nx => ?_) (fun _ => ?_) <;> ((repeat' ((conv => whnf) <;> (first | exact True.intro | (with_reducible exact rfl) | exact Eq.refl true | exact IdE.go rfl | apply And.intro | omega))) <;> (try (conv => whnf)))
          all_goals (rw [e]; try rfl)
        · have e : unhexF s = (outI s s.size, 0, 0) := by rw [unhexF, if_neg hb, bad_no hd]; show (if s.size % 2 ≠ 0 then _ else _) = _; rw [if_neg (by omega)]
          repeat' ((conv => whnf) <;> first
           | (apply Chk.go; · rfl)
           | (apply nm.go; (· (try simp (discharger := first | omega | (simp only [maxU8, maxU16, maxU32, maxU64]; omega) | decide) only [idU8, idU16, idU32, idU64, wrapI64, tdivE, tmodE, fdivE, andE, Int.toNat_natCast, Int.reduceToNat, tn8, IntKind.bits, Nat.min_eq_left, Nat.min_eq_right, Int.reducePow, Nat.reducePow, Int.reduceAdd]); (try simp only [wrapU8, wrapU16, wrapU32, wrapU64]); exact rfl); intro hr; simp only [rng] at hr)
           | (apply nmN.go; · (try simp (discharger := omega) only [Int.toNat_natCast, Int.reduceToNat, tnSub1, tn8]); first | (norm_cast; done) | (norm_cast; exact rfl) | exact rfl)
           | (apply Bnd.go; · first | omega | (simp only [ByteArray.size, List.size_toArray, List.length_cons, List.length_nil, Nat.reduceAdd]; omega))
           | (apply Drw.go; · kernel_rfl)
           | (apply Str.go; · repeat' (first | exact True.intro | exact rfl | apply And.intro))
           | apply SeqP.go
           | (apply askB.cmp; first | ((· intro h; rw [cmpP] at h; omega); intro h; rw [cmpN] at h) | (rotate_left; (· intro h; rw [cmpN] at h; omega); intro h; rw [cmpP] at h))
           | ((with_reducible apply askB.dec); first | ((· intro h; omega); intro h) | (rotate_left; (· intro h; first | exact absurd rfl h | omega); intro h))
           | ((with_reducible apply askB.ndec); first | ((· intro h; first | exact absurd rfl h | omega); intro h) | (rotate_left; (· intro h; omega); intro h))
           | with_reducible first | apply askB.tt | apply askB.ff | apply askB.and | apply askB.not | apply askB.or | apply askB.beqs | apply askB.beq)
          refine FinW.go [2] [] rfl (fun nx => ?_) (fun nx => ?_) (fun nx => ?_) (fun nx => ?_) (fun _ => ?_) <;> ((repeat' ((conv => whnf) <;> (first | exact True.intro | (with_reducible exact rfl) | exact Eq.refl true | exact IdE.go rfl | apply And.intro | omega))) <;> (try (conv => whnf)))
          all_goals (rw [e])
          exact (outI_len s s.size).symm

theorem sp16 : SpS Try.prog 16 C16.spec := ctr_sound tabOk ct16ok mixed Try.func16 body16 okc16 C16 (fun _ => Nat.le_of_ble_eq_true rfl) walk16

end Go.Proofs.Ytehfkjjmangjlaa.Ax
