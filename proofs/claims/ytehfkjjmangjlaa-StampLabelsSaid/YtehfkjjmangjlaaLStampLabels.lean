/- Proved: the statement StampLabels of aditlaw09, for every input: which numbers are times, the label of each, and the time that any bytes are the label of, is told; the row speaks of every input, and no condition stands beside it. -/
import Derived.Test.YtehfkjjmangjlaaW27
import Derived.Test.YtehfkjjmangjlaaRows
import Derived.WalkKit
import Derived.ProofKit
import Derived.OpenShut
import Derived.ShutString
import Derived.ChangeOld
import Derived.Below
namespace Go.Proofs.Ytehfkjjmangjlaa.stampLabels
open Go.ChangeShapes Go.WideShapes Go.ChangeAt Go.RowKit
open Go.ChangeMaps (open_string shut_string)
set_option linter.unusedVariables false

theorem own : ownKnob Try.prog.godebug = none := by kernel_rfl
theorem laidOut : laidOutB Try.prog = true := by kernel_rfl

/-- The walk: the law answers true, and writes nothing that was there. -/
theorem walk (a0 : Int) (z1 : List Int) (w : World) (w0 : (Lit.int .i64 a0).wf = true) (w1 : z1.length = 12 ∧ ∀ z ∈ z1, (Lit.int .u8 z).wf = true) :
    Calls Try.prog 5 #[.int .i64 a0, .agg (z1.map (Value.int .u8)).toArray] w fun e w' => e = .returned (.bool true) ∧ Below w.heap.size w w' := by
  obtain ⟨v1, b1⟩ := Go.Ax.v_arr (π := fun _ => none) (Z := Go.Ax.zall w) w1.1 w1.2
  exact Go.Ax.law_sound Ax.tabOk Ax.ct5ok Ax.mixed Try.func5 Ax.body5 Ax.okc5 (args := [.int .i64 a0, .arr .u8 12 z1]) (Go.Ax.vs_cons (Go.Ax.v_int w0) (Go.Ax.vs_cons v1 Go.Ax.vs_nil)) (Nat.le_of_ble_eq_true rfl) (Ax.walk5 a0 z1 (Go.Ax.rng_of_wf w0) ⟨w1.1, b1⟩)

/-! The row's step. -/
set_option maxRecDepth 100000 in
theorem lifted (os : Os) (started : os.Started) (H : Type) (enc : TypeId × Value → H) :
    ReturnsInHanded {} Try.checked os 5 .any (Rows.stampLabelsSpec.pre6 enc Try.prog Try.f5 Rows.stampLabelsRow.domain false) (Rows.stampLabelsSpec.post enc Try.prog Try.f5 false true false false) := by
  refine returnsInHanded_of_change (C := Try.checked) own started (by kernel_rfl) Try.func5
    (ChangeSpec.witness6 (enc := enc) (C := Try.checked) false ⟨#[], #[.int .i64 0, .agg (Array.replicate 12 (.int .u8 0))], []⟩ 8 (by kernel_rfl) (by kernel_rfl) (by kernel_rfl) (by kernel_rfl)) ?_
  intro W base args ds gs before hval0 hW hcnd _
  have hval : ∀ (j : Nat) t v, Try.f5.params[j]? = some t → args[j]? = some v → Value.okWide Try.prog W .any base t v := hval0
  have hW' := hW
  obtain ⟨p, q, hA0, hV, rfl, hfz, hnd⟩ := hW
  have hA : DataW.TrodAll enc Try.prog W 0 (fun _ => true) true Try.f5.params.toList args.toList ds p := hA0
  rw [Try.params5] at hA hval
  obtain ⟨v0, vs0, d0, ds0, p0, q0, hargs, rfl, rfl, h0, r0⟩ := trodAll_cons hA
  obtain ⟨v1, vs1, d1, ds1, p1, q1, rfl, rfl, rfl, h1, r1⟩ := trodAll_cons r0
  obtain ⟨rfl, rfl, rfl⟩ := trodAll_nil r1
  obtain rfl : args = #[v0, v1] := by cases args; simp_all
  obtain ⟨rfl, rfl⟩ := trodVars_none hV
  obtain ⟨a0, rfl, rfl, rfl, w0⟩ := open_int Try.underlying2 (hval 0 2 v0 rfl rfl) h0
  have k1 := h1
  have lt1 : ∀ x ∈ p1, x.block < W.heap.size := by obtain ⟨m, hm⟩ := k1; exact DataW.trod_lt m _ _ _ hm
  obtain ⟨z1, wl1, rfl, ww1⟩ := Go.Ax.open_arr Try.underlying34 Try.underlying5 (by kernel_rfl) (by kernel_rfl) (hval 1 34 v1 rfl rfl) h1
  have w1 := And.intro wl1 ww1
  clear hA0 hval0
  refine (walk a0 z1 W w0 w1).mono fun e W' ⟨he, bel⟩ => ?_
  subst he
  exact ⟨_, rfl, _, _, _, [], _, [], hW', trodAll_mk1 (shut_bool Try.underlying4 _), (trodAll_cons_mk (shut_int Try.underlying2 w0) (trodAll_cons_mk (Below.trod laidOut (by kernel_rfl) (of_decide_eq_true (by kernel_rfl)) k1 bel lt1) trodAll_mk0)), rfl, bel.frame _, fun h => by cases h⟩

theorem over : Rows.stampLabelsRow.holds Try.pinned (OpenSpec.ofChange Rows.stampLabelsSpec) :=
  OpenClaim.holds_of_wide 5 Try.f5 rfl rfl rfl rfl rfl rfl rfl ⟨rfl, rfl, rfl, rfl, rfl⟩ rfl rfl rfl rfl rfl (by kernel_rfl) Try.func5 (by kernel_rfl)
    (of_decide_eq_true (by kernel_rfl)) (by unfold Func.isWrapper; first | (rw [if_pos (by decide +kernel)]; kernel_rfl) | (rw [if_neg (by decide +kernel)]; exact ⟨rfl, rfl⟩))
    (fun os started H enc _ => lifted os started H enc)

/-- The statement. -/
theorem proved : Rows.StampLabelsSaid := over
#print axioms proved
end Go.Proofs.Ytehfkjjmangjlaa.stampLabels
