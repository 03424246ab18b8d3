/- Contracts of functions of the program, walked over abstract values. -/
import Derived.Test.YtlkaehbeapmplaaI18
set_option linter.unusedSimpArgs false
set_option linter.unusedVariables false
namespace Go.Proofs.Ytlkaehbeapmplaa.Ax
open Go Go.Ax Go.Proofs

theorem ints_core {H : Type} {enc : TypeId × Value → H} {P : Program} {w : World} {base fuel : Nat} {spare : Nat → Bool} {held : Bool} {t e : TypeId} {k : IntKind} {n : Nat} {cs : List Value} {x : DataW H × List MemPlace}
    (ht : P.underlying t = some (.array n e)) (he : P.underlying e = some (.int k)) (hct : P.cellsOf t = n) (hce : P.cellsOf e = 1) (hf : DataW.trod enc P w base spare held fuel t cs = some x) :
    ∃ zs : List Int, zs.length = n ∧ cs = zs.map (Value.int k) ∧ ∀ z ∈ zs, (Lit.int k z).wf = true := by
  obtain ⟨xs, m, _, _, hl, hxn, hx⟩ := DataW.trod_array ht hf
  have hn : cs.length = n := by rw [hl, hct]
  have each : ∀ i (h : i < cs.length), ∃ z, cs[i] = .int k z ∧ (Lit.int k z).wf = true := by
    intro i h
    have hy := hx i (by omega)
    rw [hce, Nat.mul_one, List.drop_eq_getElem_cons h, List.getElem?_eq_getElem (by omega)] at hy
    simp only [List.take_succ_cons, List.take_zero] at hy
    obtain ⟨z, h1, _, h2⟩ := DataW.trod_int he hy
    exact ⟨z, by simpa using h1, h2⟩
  refine ⟨cs.map numV, by simpa using hn, ?_, ?_⟩
  · rw [List.map_map]
    symm
    apply List.ext_getElem (by simp)
    intro i h1 h2
    obtain ⟨z, hz, _⟩ := each i h2
    simp only [List.getElem_map, Function.comp]
    rw [hz]; rfl
  · intro z hz
    obtain ⟨u, hu, rfl⟩ := List.mem_map.1 hz
    obtain ⟨i, hi, rfl⟩ := List.mem_iff_getElem.1 hu
    obtain ⟨z, hz, hw⟩ := each i hi
    rw [hz]; exact hw
theorem open_addr {H : Type} {enc : TypeId × Value → H} {w W : World} {base b0 : Nat} {spare : Nat → Bool} {held : Bool} {r : Reach} {v : Value} {d : DataW H} {ps : List MemPlace}
    (hval : Value.okWide Try.prog W r b0 24 v) (hd : DataW.Trod enc Try.prog w base spare held 24 v d ps) :
    ∃ (b : Bool) (zs : List Int), zs.length = 16 ∧ v = .agg (Value.bool b :: zs.map (Value.int .u8)).toArray ∧ ∀ z ∈ zs, (Lit.int .u8 z).wf = true := by
  obtain ⟨cs, rfl, hs⟩ := Go.WideShapes.okWide_struct Try.underlying24 hval
  obtain ⟨fuel, hf⟩ := hd
  have hf' : DataW.trod enc Try.prog w base spare held fuel 24 cs.toList = some (d, ps) := hf
  obtain ⟨y0, y1, n, _, hl, h0, h1⟩ := Go.ChangeShapes.trod_struct2 Try.underlying24 hf'
  have e17 : Try.prog.cellsOf 24 = 17 := by kernel_rfl
  have e1 : Try.prog.cellsOf 4 = 1 := by kernel_rfl
  have e16 : Try.prog.cellsOf 22 = 16 := by kernel_rfl
  simp only at h0 h1
  rw [e1] at h0
  rw [e16] at h1
  obtain ⟨b, hb, _⟩ := DataW.trod_bool Try.underlying4 h0
  obtain ⟨zs, hz, hzs, hw⟩ := ints_core Try.underlying22 Try.underlying5 e16 (by kernel_rfl) h1
  refine ⟨b, zs, hz, ?_, hw⟩
  congr 1
  apply Array.ext'
  rw [e17] at hl
  have : cs.toList = cs.toList.take 1 ++ (cs.toList.drop 1).take 16 := by
    rw [List.take_of_length_le (l := cs.toList.drop 1) (by simp at hl ⊢; omega), List.take_append_drop]
  rw [this, hzs]
  rw [List.drop_zero] at hb
  rw [hb]; rfl
theorem v_addr {π : PM} {Z : ZM} {b : Bool} {zs : List Int} (hl : zs.length = 16) (hw : ∀ z ∈ zs, (Lit.int .u8 z).wf = true) :
    V π Z (.st [.bool b, .arr .u8 16 zs]) (.agg (Value.bool b :: zs.map (Value.int .u8)).toArray) ∧ isBs zs := by
  refine ⟨?_, fun z hz => rng_of_wf (hw z hz)⟩
  show VA π Z _ _
  unfold VA
  rw [if_pos (by rfl : isAggA (AV.st [.bool b, .arr .u8 16 zs]) = true)]
  have hfl : flat (AV.st [.bool b, .arr .u8 16 zs]) = .bool b :: zs.map (AV.int .u8) := by simp [flat, flats]
  refine ⟨Value.bool b :: zs.map (Value.int .u8), rfl, ⟨.st [.c, .ar .u8 16], ?_⟩, by rw [hfl]; simp, fun i a u ha hu => ?_⟩
  · simp [HasSh, HasShs, hl]
  · rw [hfl] at ha
    cases i with
    | zero =>
      simp at ha hu
      subst ha; subst hu
      exact .bool b
    | succ i =>
      simp only [List.getElem?_cons_succ, List.getElem?_map, Option.map_eq_some_iff] at ha hu
      obtain ⟨x, hx, rfl⟩ := ha
      obtain ⟨y, hy, rfl⟩ := hu
      rw [hx] at hy; cases hy
      exact .int .u8 x (rng_of_wf (hw x (List.mem_of_getElem? hx)))

end Go.Proofs.Ytlkaehbeapmplaa.Ax
