/- Contracts of functions of the program, walked over abstract values. -/
import Derived.Test.YtehfkjjmangjlaaW1
set_option linter.unusedSimpArgs false
set_option linter.unusedVariables false
namespace Go.Proofs.Ytehfkjjmangjlaa.Ax
open Go Go.Ax Go.Proofs
noncomputable def code3 : Code := Try.f3.body.getD .skip
theorem body3 : Try.f3.body = some code3 := rfl
theorem okc3 : codeOk Try.f3.ntmps code3 = true := by kernel_rfl
noncomputable def code4 : Code := Try.f4.body.getD .skip
theorem body4 : Try.f4.body = some code4 := rfl
theorem okc4 : codeOk Try.f4.ntmps code4 = true := by kernel_rfl
noncomputable def code5 : Code := Try.f5.body.getD .skip
theorem body5 : Try.f5.body = some code5 := rfl
theorem okc5 : codeOk Try.f5.ntmps code5 = true := by kernel_rfl
noncomputable def code6 : Code := Try.f6.body.getD .skip
theorem body6 : Try.f6.body = some code6 := rfl
theorem okc6 : codeOk Try.f6.ntmps code6 = true := by kernel_rfl
noncomputable def code7 : Code := Try.f7.body.getD .skip
theorem body7 : Try.f7.body = some code7 := rfl
theorem okc7 : codeOk Try.f7.ntmps code7 = true := by kernel_rfl
noncomputable def code8 : Code := Try.f8.body.getD .skip
theorem body8 : Try.f8.body = some code8 := rfl
theorem okc8 : codeOk Try.f8.ntmps code8 = true := by kernel_rfl
noncomputable def code9 : Code := Try.f9.body.getD .skip
theorem body9 : Try.f9.body = some code9 := rfl
theorem okc9 : codeOk Try.f9.ntmps code9 = true := by kernel_rfl
noncomputable def code10 : Code := Try.f10.body.getD .skip
theorem body10 : Try.f10.body = some code10 := rfl
theorem okc10 : codeOk Try.f10.ntmps code10 = true := by kernel_rfl
noncomputable def code11 : Code := Try.f11.body.getD .skip
theorem body11 : Try.f11.body = some code11 := rfl
theorem okc11 : codeOk Try.f11.ntmps code11 = true := by kernel_rfl
noncomputable def code12 : Code := Try.f12.body.getD .skip
theorem body12 : Try.f12.body = some code12 := rfl
theorem okc12 : codeOk Try.f12.ntmps code12 = true := by kernel_rfl
noncomputable def code13 : Code := Try.f13.body.getD .skip
theorem body13 : Try.f13.body = some code13 := rfl
theorem okc13 : codeOk Try.f13.ntmps code13 = true := by kernel_rfl
noncomputable def code14 : Code := Try.f14.body.getD .skip
theorem body14 : Try.f14.body = some code14 := rfl
theorem okc14 : codeOk Try.f14.ntmps code14 = true := by kernel_rfl
noncomputable def code15 : Code := Try.f15.body.getD .skip
theorem body15 : Try.f15.body = some code15 := rfl
theorem okc15 : codeOk Try.f15.ntmps code15 = true := by kernel_rfl
noncomputable def code16 : Code := Try.f16.body.getD .skip
theorem body16 : Try.f16.body = some code16 := rfl
theorem okc16 : codeOk Try.f16.ntmps code16 = true := by kernel_rfl
noncomputable def code17 : Code := Try.f17.body.getD .skip
theorem body17 : Try.f17.body = some code17 := rfl
theorem okc17 : codeOk Try.f17.ntmps code17 = true := by kernel_rfl
noncomputable def code18 : Code := Try.f18.body.getD .skip
theorem body18 : Try.f18.body = some code18 := rfl
theorem okc18 : codeOk Try.f18.ntmps code18 = true := by kernel_rfl
noncomputable def code19 : Code := Try.f19.body.getD .skip
theorem body19 : Try.f19.body = some code19 := rfl
theorem okc19 : codeOk Try.f19.ntmps code19 = true := by kernel_rfl
noncomputable def code20 : Code := Try.f20.body.getD .skip
theorem body20 : Try.f20.body = some code20 := rfl
theorem okc20 : codeOk Try.f20.ntmps code20 = true := by kernel_rfl
noncomputable def code21 : Code := Try.f21.body.getD .skip
theorem body21 : Try.f21.body = some code21 := rfl
theorem okc21 : codeOk Try.f21.ntmps code21 = true := by kernel_rfl
noncomputable def code22 : Code := Try.f22.body.getD .skip
theorem body22 : Try.f22.body = some code22 := rfl
theorem okc22 : codeOk Try.f22.ntmps code22 = true := by kernel_rfl
noncomputable def code23 : Code := Try.f23.body.getD .skip
theorem body23 : Try.f23.body = some code23 := rfl
theorem okc23 : codeOk Try.f23.ntmps code23 = true := by kernel_rfl
noncomputable def code24 : Code := Try.f24.body.getD .skip
theorem body24 : Try.f24.body = some code24 := rfl
theorem okc24 : codeOk Try.f24.ntmps code24 = true := by kernel_rfl
noncomputable def code25 : Code := Try.f25.body.getD .skip
theorem body25 : Try.f25.body = some code25 := rfl
theorem okc25 : codeOk Try.f25.ntmps code25 = true := by kernel_rfl
noncomputable def code26 : Code := Try.f26.body.getD .skip
theorem body26 : Try.f26.body = some code26 := rfl
theorem okc26 : codeOk Try.f26.ntmps code26 = true := by kernel_rfl
noncomputable def code27 : Code := Try.f27.body.getD .skip
theorem body27 : Try.f27.body = some code27 := rfl
theorem okc27 : codeOk Try.f27.ntmps code27 = true := by kernel_rfl
noncomputable def code28 : Code := Try.f28.body.getD .skip
theorem body28 : Try.f28.body = some code28 := rfl
theorem okc28 : codeOk Try.f28.ntmps code28 = true := by kernel_rfl
noncomputable def code29 : Code := Try.f29.body.getD .skip
theorem body29 : Try.f29.body = some code29 := rfl
theorem okc29 : codeOk Try.f29.ntmps code29 = true := by kernel_rfl
noncomputable def code30 : Code := Try.f30.body.getD .skip
theorem body30 : Try.f30.body = some code30 := rfl
theorem okc30 : codeOk Try.f30.ntmps code30 = true := by kernel_rfl
noncomputable def code31 : Code := Try.f31.body.getD .skip
theorem body31 : Try.f31.body = some code31 := rfl
theorem okc31 : codeOk Try.f31.ntmps code31 = true := by kernel_rfl
noncomputable def code32 : Code := Try.f32.body.getD .skip
theorem body32 : Try.f32.body = some code32 := rfl
theorem okc32 : codeOk Try.f32.ntmps code32 = true := by kernel_rfl
noncomputable def code33 : Code := Try.f33.body.getD .skip
theorem body33 : Try.f33.body = some code33 := rfl
theorem okc33 : codeOk Try.f33.ntmps code33 = true := by kernel_rfl
noncomputable def code34 : Code := Try.f34.body.getD .skip
theorem body34 : Try.f34.body = some code34 := rfl
theorem okc34 : codeOk Try.f34.ntmps code34 = true := by kernel_rfl
noncomputable def code35 : Code := Try.f35.body.getD .skip
theorem body35 : Try.f35.body = some code35 := rfl
theorem okc35 : codeOk Try.f35.ntmps code35 = true := by kernel_rfl
noncomputable def code36 : Code := Try.f36.body.getD .skip
theorem body36 : Try.f36.body = some code36 := rfl
theorem okc36 : codeOk Try.f36.ntmps code36 = true := by kernel_rfl
noncomputable def code37 : Code := Try.f37.body.getD .skip
theorem body37 : Try.f37.body = some code37 := rfl
theorem okc37 : codeOk Try.f37.ntmps code37 = true := by kernel_rfl
noncomputable def code38 : Code := Try.f38.body.getD .skip
theorem body38 : Try.f38.body = some code38 := rfl
theorem okc38 : codeOk Try.f38.ntmps code38 = true := by kernel_rfl
noncomputable def code39 : Code := Try.f39.body.getD .skip
theorem body39 : Try.f39.body = some code39 := rfl
theorem okc39 : codeOk Try.f39.ntmps code39 = true := by kernel_rfl
noncomputable def code40 : Code := Try.f40.body.getD .skip
theorem body40 : Try.f40.body = some code40 := rfl
theorem okc40 : codeOk Try.f40.ntmps code40 = true := by kernel_rfl
noncomputable def code41 : Code := Try.f41.body.getD .skip
theorem body41 : Try.f41.body = some code41 := rfl
theorem okc41 : codeOk Try.f41.ntmps code41 = true := by kernel_rfl
noncomputable def code42 : Code := Try.f42.body.getD .skip
theorem body42 : Try.f42.body = some code42 := rfl
theorem okc42 : codeOk Try.f42.ntmps code42 = true := by kernel_rfl
noncomputable def code43 : Code := Try.f43.body.getD .skip
theorem body43 : Try.f43.body = some code43 := rfl
theorem okc43 : codeOk Try.f43.ntmps code43 = true := by kernel_rfl
noncomputable def code44 : Code := Try.f44.body.getD .skip
theorem body44 : Try.f44.body = some code44 := rfl
theorem okc44 : codeOk Try.f44.ntmps code44 = true := by kernel_rfl
noncomputable def code45 : Code := Try.f45.body.getD .skip
theorem body45 : Try.f45.body = some code45 := rfl
theorem okc45 : codeOk Try.f45.ntmps code45 = true := by kernel_rfl
noncomputable def code46 : Code := Try.f46.body.getD .skip
theorem body46 : Try.f46.body = some code46 := rfl
theorem okc46 : codeOk Try.f46.ntmps code46 = true := by kernel_rfl
noncomputable def code47 : Code := Try.f47.body.getD .skip
theorem body47 : Try.f47.body = some code47 := rfl
theorem okc47 : codeOk Try.f47.ntmps code47 = true := by kernel_rfl
noncomputable def code48 : Code := Try.f48.body.getD .skip
theorem body48 : Try.f48.body = some code48 := rfl
theorem okc48 : codeOk Try.f48.ntmps code48 = true := by kernel_rfl
end Go.Proofs.Ytehfkjjmangjlaa.Ax
