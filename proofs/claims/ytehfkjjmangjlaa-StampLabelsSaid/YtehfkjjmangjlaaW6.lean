/- Contracts of functions of the program, walked over abstract values. -/
import Derived.Test.YtehfkjjmangjlaaW5
set_option linter.unusedSimpArgs false
set_option linter.unusedVariables false
namespace Go.Proofs.Ytehfkjjmangjlaa.Ax
open Go Go.Ax Go.Proofs
attribute [local irreducible] Chk Bnd Str Kn Drw nm nmN askB SeqP LoopP FinW Ctr.spec Go.Ax.Sub IdE

def rotN (v k : Nat) : Nat := (v * 2 ^ k) % 2 ^ 32 ||| v / 2 ^ ((32 - k) % 32)
def rotI (v n : Int) : Int := (rotN v.toNat (n % 32).toNat : Nat)

theorem rotN_bit (v k i : Nat) (hv : v < 2 ^ 32) (hk : k < 32) : (rotN v k).testBit i = (decide (i < 32) && v.testBit ((i + 32 - k) % 32)) := by
  unfold rotN
  rw [Nat.testBit_or, Nat.testBit_mod_two_pow, Nat.testBit_mul_two_pow, Nat.testBit_div_two_pow]
  have hbig : ∀ j, 32 ≤ j → v.testBit j = false := fun j hj => Nat.testBit_lt_two_pow (Nat.lt_of_lt_of_le hv (Nat.pow_le_pow_right (by omega) hj))
  by_cases hi : i < 32
  · by_cases hki : k ≤ i
    · have e : (i + 32 - k) % 32 = i - k := by omega
      rw [e]
      by_cases h0 : k = 0
      · subst h0; simp [hi]
      · rw [show (32 - k) % 32 = 32 - k by omega, hbig (i + (32 - k)) (by omega)]
        simp [hi, hki]
    · have e : (i + 32 - k) % 32 = i + (32 - k) := by omega
      rw [e, show (32 - k) % 32 = 32 - k by omega]
      simp [hi, hki]
  · rw [hbig (i + (32 - k) % 32) (by omega)]
    simp [hi]

theorem rotN_lt (v k : Nat) (hv : v < 2 ^ 32) : rotN v k < 2 ^ 32 := by
  unfold rotN
  exact Nat.or_lt_two_pow (Nat.mod_lt _ (by omega)) (Nat.lt_of_le_of_lt (Nat.div_le_self _ _) hv)

theorem rotN_rotN (v a b : Nat) (hv : v < 2 ^ 32) (ha : a < 32) (hb : b < 32) : rotN (rotN v a) b = rotN v ((a + b) % 32) := by
  apply Nat.eq_of_testBit_eq
  intro i
  rw [rotN_bit _ _ _ (rotN_lt v a hv) hb, rotN_bit _ _ _ hv ha, rotN_bit _ _ _ hv (Nat.mod_lt _ (by omega))]
  by_cases hi : i < 32
  · simp only [hi, decide_true, Bool.true_and]
    rw [show decide ((i + 32 - b) % 32 < 32) = true by simp; omega]
    simp only [Bool.true_and]
    congr 1
    omega
  · simp [hi]

theorem rotN_zero (v : Nat) (hv : v < 2 ^ 32) : rotN v 0 = v := by
  unfold rotN
  simp [Nat.mod_eq_of_lt hv]

def C15 : Ctr := { X := Int × Int, args := fun (v, n) => [.int .u32 v, .int .i64 n], pre := fun (v, _) => rng .u32 v, res := fun (v, n) _ => .int .u32 (rotI v n), news := fun _ _ => [] }

theorem walk15 : C15.Ok tab [] code15 Try.f15.results.toList := by
  intro (v, n) hv
  have hv' : rng .u32 v := hv
  simp only [rng] at hv'
  repeat' ((conv => whnf) <;> first
   | (apply Chk.go; · rfl)
   | (apply nm.go; (· (try simp (discharger := first | omega | (simp only [maxU8, maxU16, maxU32, maxU64]; omega) | decide) only [idU8, idU16, idU32, idU64, wrapI64, tdivE, tmodE, fdivE, andE, Int.toNat_natCast, Int.reduceToNat, tn8, IntKind.bits, Nat.min_eq_left, Nat.min_eq_right, Int.reducePow, Nat.reducePow, Int.reduceAdd]); (try simp only [wrapU8, wrapU16, wrapU32, wrapU64]); exact rfl); intro hr; simp only [rng] at hr)
   | (apply nmN.go; · (try simp (discharger := omega) only [Int.toNat_natCast, Int.reduceToNat, tnSub1, tn8]); first | (norm_cast; done) | (norm_cast; exact rfl) | exact rfl)
   | (apply Bnd.go; · first | omega | (simp only [ByteArray.size, List.size_toArray, List.length_cons, List.length_nil, Nat.reduceAdd]; omega))
   | (apply Drw.go; · kernel_rfl)
   | (apply Str.go; · repeat' (first | exact True.intro | exact rfl | apply And.intro))
   | apply SeqP.go
   | (apply askB.cmp; first | ((· intro h; rw [cmpP] at h; omega); intro h; rw [cmpN] at h) | (rotate_left; (· intro h; rw [cmpN] at h; omega); intro h; rw [cmpP] at h))
   | ((with_reducible apply askB.dec); first | ((· intro h; omega); intro h) | (rotate_left; (· intro h; first | exact absurd rfl h | omega); intro h))
   | ((with_reducible apply askB.ndec); first | ((· intro h; first | exact absurd rfl h | omega); intro h) | (rotate_left; (· intro h; omega); intro h))
   | with_reducible first | apply askB.tt | apply askB.ff | apply askB.and | apply askB.not | apply askB.or | apply askB.beqs | apply askB.beq)
  refine FinW.go [] [] rfl (fun nx => ?_) (fun nx => ?_) (fun nx => ?_) (fun nx => ?_) (fun _ => ?_) <;> ((repeat' ((conv => whnf) <;> (first | exact True.intro | (with_reducible exact rfl) | exact Eq.refl true | exact IdE.go rfl | apply And.intro | omega))) <;> (try (conv => whnf)))
  obtain ⟨m, rfl⟩ := Int.eq_ofNat_of_zero_le hv'.1
  have h1 : (n % 18446744073709551616 % 32).toNat = (n % 32).toNat := by omega
  have h2 : ((32 - n % 18446744073709551616 % 32) % 32).toNat = (32 - (n % 32).toNat) % 32 := by omega
  rw [h1, h2]
  unfold rotI
  generalize (n % 32).toNat = k
  have e3 : (m : Int) * 2 ^ k % 4294967296 = ((m * 2 ^ k % 2 ^ 32 : Nat) : Int) := by simp
  have e6 : (m : Int).fdiv (2 ^ ((32 - k) % 32)) = ((m / 2 ^ ((32 - k) % 32) : Nat) : Int) := by
    have : ((2 : Int) ^ ((32 - k) % 32)) = ((2 ^ ((32 - k) % 32) : Nat) : Int) := by simp
    rw [this, Int.fdiv_eq_ediv_of_nonneg _ (Int.natCast_nonneg _)]
    simp
  rw [e3, e6, Int.toNat_natCast]
  exact (bitsN (k := .u32) rfl _ _ (Nat.mod_lt _ (by decide)) (Nat.lt_of_le_of_lt (Nat.div_le_self _ _) (by show m < 4294967296; omega))).2.1

theorem sp15 : SpS Try.prog 15 C15.spec := ctr_sound tabOk specs_nil mixed Try.func15 body15 okc15 C15 (fun _ => Nat.le_of_ble_eq_true rfl) walk15

end Go.Proofs.Ytehfkjjmangjlaa.Ax
