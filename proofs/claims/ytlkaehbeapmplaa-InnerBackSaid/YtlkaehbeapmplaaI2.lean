/- Contracts of functions of the program, walked over abstract values. -/
import Derived.Test.YtlkaehbeapmplaaI1
set_option linter.unusedSimpArgs false
set_option linter.unusedVariables false
namespace Go.Proofs.Ytlkaehbeapmplaa.Ax
open Go Go.Ax Go.Proofs
noncomputable def code3 : Code := Try.f3.body.getD .skip
theorem body3 : Try.f3.body = some code3 := rfl
theorem okc3 : codeOk Try.f3.ntmps code3 = true := by kernel_rfl
noncomputable def code4 : Code := Try.f4.body.getD .skip
theorem body4 : Try.f4.body = some code4 := rfl
theorem okc4 : codeOk Try.f4.ntmps code4 = true := by kernel_rfl
noncomputable def code5 : Code := Try.f5.body.getD .skip
theorem body5 : Try.f5.body = some code5 := rfl
theorem okc5 : codeOk Try.f5.ntmps code5 = true := by kernel_rfl
noncomputable def code6 : Code := Try.f6.body.getD .skip
theorem body6 : Try.f6.body = some code6 := rfl
theorem okc6 : codeOk Try.f6.ntmps code6 = true := by kernel_rfl
noncomputable def code7 : Code := Try.f7.body.getD .skip
theorem body7 : Try.f7.body = some code7 := rfl
theorem okc7 : codeOk Try.f7.ntmps code7 = true := by kernel_rfl
noncomputable def code8 : Code := Try.f8.body.getD .skip
theorem body8 : Try.f8.body = some code8 := rfl
theorem okc8 : codeOk Try.f8.ntmps code8 = true := by kernel_rfl
noncomputable def code9 : Code := Try.f9.body.getD .skip
theorem body9 : Try.f9.body = some code9 := rfl
theorem okc9 : codeOk Try.f9.ntmps code9 = true := by kernel_rfl
noncomputable def code10 : Code := Try.f10.body.getD .skip
theorem body10 : Try.f10.body = some code10 := rfl
theorem okc10 : codeOk Try.f10.ntmps code10 = true := by kernel_rfl
noncomputable def code11 : Code := Try.f11.body.getD .skip
theorem body11 : Try.f11.body = some code11 := rfl
theorem okc11 : codeOk Try.f11.ntmps code11 = true := by kernel_rfl
noncomputable def code12 : Code := Try.f12.body.getD .skip
theorem body12 : Try.f12.body = some code12 := rfl
theorem okc12 : codeOk Try.f12.ntmps code12 = true := by kernel_rfl
noncomputable def code13 : Code := Try.f13.body.getD .skip
theorem body13 : Try.f13.body = some code13 := rfl
theorem okc13 : codeOk Try.f13.ntmps code13 = true := by kernel_rfl
noncomputable def code14 : Code := Try.f14.body.getD .skip
theorem body14 : Try.f14.body = some code14 := rfl
theorem okc14 : codeOk Try.f14.ntmps code14 = true := by kernel_rfl
noncomputable def code15 : Code := Try.f15.body.getD .skip
theorem body15 : Try.f15.body = some code15 := rfl
theorem okc15 : codeOk Try.f15.ntmps code15 = true := by kernel_rfl
noncomputable def code16 : Code := Try.f16.body.getD .skip
theorem body16 : Try.f16.body = some code16 := rfl
theorem okc16 : codeOk Try.f16.ntmps code16 = true := by kernel_rfl
noncomputable def code17 : Code := Try.f17.body.getD .skip
theorem body17 : Try.f17.body = some code17 := rfl
theorem okc17 : codeOk Try.f17.ntmps code17 = true := by kernel_rfl
noncomputable def code18 : Code := Try.f18.body.getD .skip
theorem body18 : Try.f18.body = some code18 := rfl
theorem okc18 : codeOk Try.f18.ntmps code18 = true := by kernel_rfl
noncomputable def code19 : Code := Try.f19.body.getD .skip
theorem body19 : Try.f19.body = some code19 := rfl
theorem okc19 : codeOk Try.f19.ntmps code19 = true := by kernel_rfl
noncomputable def code20 : Code := Try.f20.body.getD .skip
theorem body20 : Try.f20.body = some code20 := rfl
theorem okc20 : codeOk Try.f20.ntmps code20 = true := by kernel_rfl
noncomputable def code21 : Code := Try.f21.body.getD .skip
theorem body21 : Try.f21.body = some code21 := rfl
theorem okc21 : codeOk Try.f21.ntmps code21 = true := by kernel_rfl
noncomputable def code22 : Code := Try.f22.body.getD .skip
theorem body22 : Try.f22.body = some code22 := rfl
theorem okc22 : codeOk Try.f22.ntmps code22 = true := by kernel_rfl
noncomputable def code23 : Code := Try.f23.body.getD .skip
theorem body23 : Try.f23.body = some code23 := rfl
theorem okc23 : codeOk Try.f23.ntmps code23 = true := by kernel_rfl
noncomputable def code24 : Code := Try.f24.body.getD .skip
theorem body24 : Try.f24.body = some code24 := rfl
theorem okc24 : codeOk Try.f24.ntmps code24 = true := by kernel_rfl
noncomputable def code25 : Code := Try.f25.body.getD .skip
theorem body25 : Try.f25.body = some code25 := rfl
theorem okc25 : codeOk Try.f25.ntmps code25 = true := by kernel_rfl
end Go.Proofs.Ytlkaehbeapmplaa.Ax
