/- The table of the seat's types, and that it holds. Printed by a program of this claim (mktab.py). -/
import Derived.Test.YtlkaehbeapmplaaAxb
import Derived.Test.YtlkaehbeapmplaaProg
import Derived.KernelRfl
set_option linter.unusedSimpArgs false
set_option linter.unusedVariables false
namespace Go.Proofs.Ytlkaehbeapmplaa.Ax
open Go Go.Ax Go.Proofs

noncomputable def ti0 : TI := ⟨valOf Try.underlying0, 1, 0, .un, false⟩
theorem ok0 : TyOk Try.prog 0 ti0 := tyOk_mk Try.underlying0 Try.type0 rfl rfl (by kernel_rfl) (fun h => no_eq h)
noncomputable def ti1 : TI := ⟨valOf Try.underlying1, 1, 8, .nilf, false⟩
theorem ok1 : TyOk Try.prog 1 ti1 := tyOk_mk Try.underlying1 Try.type1 rfl rfl (by kernel_rfl) (fun h => no_eq h)
noncomputable def ti2 : TI := ⟨valOf Try.underlying2, 1, 8, (.int .i64 0), false⟩
theorem ok2 : TyOk Try.prog 2 ti2 := tyOk_mk Try.underlying2 Try.type2 rfl rfl (by kernel_rfl) (fun h => no_eq h)
noncomputable def ti3 : TI := ⟨valOf Try.underlying3, 1, 8, (.int .i64 0), false⟩
theorem ok3 : TyOk Try.prog 3 ti3 := tyOk_mk Try.underlying3 Try.type3 rfl rfl (by kernel_rfl) (fun h => no_eq h)
noncomputable def ti4 : TI := ⟨valOf Try.underlying4, 1, 1, (.bool false), false⟩
theorem ok4 : TyOk Try.prog 4 ti4 := tyOk_mk Try.underlying4 Try.type4 rfl rfl (by kernel_rfl) (fun h => no_eq h)
noncomputable def ti5 : TI := ⟨valOf Try.underlying5, 1, 1, (.int .u8 0), false⟩
theorem ok5 : TyOk Try.prog 5 ti5 := tyOk_mk Try.underlying5 Try.type5 rfl rfl (by kernel_rfl) (fun h => no_eq h)
noncomputable def ti6 : TI := ⟨valOf Try.underlying6, 1, 1, (.int .u8 0), false⟩
theorem ok6 : TyOk Try.prog 6 ti6 := tyOk_mk Try.underlying6 Try.type6 rfl rfl (by kernel_rfl) (fun h => no_eq h)
noncomputable def ti7 : TI := ⟨valOf Try.underlying7, 4, 24, (.st [.int .i64 0, .int .i64 0, .bool false, .int .u8 0]), true⟩
theorem ok7 : TyOk Try.prog 7 ti7 := tyOk_mk Try.underlying7 Try.type7 rfl rfl (by kernel_rfl) (fun _ => ⟨by kernel_rfl, by kernel_rfl, by intro fs h; cases h; decide⟩)
noncomputable def ti8 : TI := ⟨valOf Try.underlying8, 4, 24, (.st [.int .i64 0, .int .i64 0, .bool false, .int .u8 0]), true⟩
theorem ok8 : TyOk Try.prog 8 ti8 := tyOk_mk Try.underlying8 Try.type8 rfl rfl (by kernel_rfl) (fun _ => ⟨by kernel_rfl, by kernel_rfl, by intro fs h; cases h; decide⟩)
noncomputable def ti9 : TI := ⟨valOf Try.underlying9, 1, 16, (.str ByteArray.empty), false⟩
theorem ok9 : TyOk Try.prog 9 ti9 := tyOk_mk Try.underlying9 Try.type9 rfl rfl (by kernel_rfl) (fun h => no_eq h)
noncomputable def ti10 : TI := ⟨valOf Try.underlying10, 1, 16, (.str ByteArray.empty), false⟩
theorem ok10 : TyOk Try.prog 10 ti10 := tyOk_mk Try.underlying10 Try.type10 rfl rfl (by kernel_rfl) (fun h => no_eq h)
noncomputable def ti11 : TI := ⟨valOf Try.underlying11, 1, 16, (.str ByteArray.empty), false⟩
theorem ok11 : TyOk Try.prog 11 ti11 := tyOk_mk Try.underlying11 Try.type11 rfl rfl (by kernel_rfl) (fun h => no_eq h)
noncomputable def ti12 : TI := ⟨valOf Try.underlying12, 1, 8, (.int .u64 0), false⟩
theorem ok12 : TyOk Try.prog 12 ti12 := tyOk_mk Try.underlying12 Try.type12 rfl rfl (by kernel_rfl) (fun h => no_eq h)
noncomputable def ti13 : TI := ⟨valOf Try.underlying13, 2, 24, (.st [.str ByteArray.empty, .int .u64 0]), false⟩
theorem ok13 : TyOk Try.prog 13 ti13 := tyOk_mk Try.underlying13 Try.type13 rfl rfl (by kernel_rfl) (fun h => no_eq h)
noncomputable def ti14 : TI := ⟨valOf Try.underlying14, 2, 24, (.st [.str ByteArray.empty, .int .u64 0]), false⟩
theorem ok14 : TyOk Try.prog 14 ti14 := tyOk_mk Try.underlying14 Try.type14 rfl rfl (by kernel_rfl) (fun h => no_eq h)
noncomputable def ti15 : TI := ⟨valOf Try.underlying15, 1, 8, .nilp, false⟩
theorem ok15 : TyOk Try.prog 15 ti15 := tyOk_mk Try.underlying15 Try.type15 rfl rfl (by kernel_rfl) (fun h => no_eq h)
noncomputable def ti16 : TI := ⟨valOf Try.underlying16, 1, 8, .nilp, false⟩
theorem ok16 : TyOk Try.prog 16 ti16 := tyOk_mk Try.underlying16 Try.type16 rfl rfl (by kernel_rfl) (fun h => no_eq h)
noncomputable def ti17 : TI := ⟨valOf Try.underlying17, 1, 8, .nilp, false⟩
theorem ok17 : TyOk Try.prog 17 ti17 := tyOk_mk Try.underlying17 Try.type17 rfl rfl (by kernel_rfl) (fun h => no_eq h)
noncomputable def ti18 : TI := ⟨valOf Try.underlying18, 1, 8, (.st [.nilp]), false⟩
theorem ok18 : TyOk Try.prog 18 ti18 := tyOk_mk Try.underlying18 Try.type18 rfl rfl (by kernel_rfl) (fun h => no_eq h)
noncomputable def ti19 : TI := ⟨valOf Try.underlying19, 1, 8, (.st [.nilp]), false⟩
theorem ok19 : TyOk Try.prog 19 ti19 := tyOk_mk Try.underlying19 Try.type19 rfl rfl (by kernel_rfl) (fun h => no_eq h)
noncomputable def ti20 : TI := ⟨valOf Try.underlying20, 1, 16, .nili, false⟩
theorem ok20 : TyOk Try.prog 20 ti20 := tyOk_mk Try.underlying20 Try.type20 rfl rfl (by kernel_rfl) (fun h => no_eq h)
noncomputable def ti21 : TI := ⟨valOf Try.underlying21, 1, 4, (.int .i32 0), false⟩
theorem ok21 : TyOk Try.prog 21 ti21 := tyOk_mk Try.underlying21 Try.type21 rfl rfl (by kernel_rfl) (fun h => no_eq h)
noncomputable def ti22 : TI := ⟨valOf Try.underlying22, 16, 16, (.arr .u8 16 (List.replicate 16 0)), true⟩
theorem ok22 : TyOk Try.prog 22 ti22 := tyOk_mk Try.underlying22 Try.type22 rfl rfl (by kernel_rfl) (fun _ => ⟨by kernel_rfl, by kernel_rfl, fun fs h => by cases h⟩)
noncomputable def ti23 : TI := ⟨valOf Try.underlying23, 17, 17, (.st [.bool false, .arr .u8 16 (List.replicate 16 0)]), true⟩
theorem ok23 : TyOk Try.prog 23 ti23 := tyOk_mk Try.underlying23 Try.type23 rfl rfl (by kernel_rfl) (fun _ => ⟨by kernel_rfl, by kernel_rfl, by intro fs h; cases h; decide⟩)
noncomputable def ti24 : TI := ⟨valOf Try.underlying24, 17, 17, (.st [.bool false, .arr .u8 16 (List.replicate 16 0)]), true⟩
theorem ok24 : TyOk Try.prog 24 ti24 := tyOk_mk Try.underlying24 Try.type24 rfl rfl (by kernel_rfl) (fun _ => ⟨by kernel_rfl, by kernel_rfl, by intro fs h; cases h; decide⟩)
noncomputable def ti25 : TI := ⟨valOf Try.underlying25, 1, 24, .nils, false⟩
theorem ok25 : TyOk Try.prog 25 ti25 := tyOk_mk Try.underlying25 Try.type25 rfl rfl (by kernel_rfl) (fun h => no_eq h)
noncomputable def ti26 : TI := ⟨valOf Try.underlying26, 1, 8, .nilf, false⟩
theorem ok26 : TyOk Try.prog 26 ti26 := tyOk_mk Try.underlying26 Try.type26 rfl rfl (by kernel_rfl) (fun h => no_eq h)
noncomputable def ti27 : TI := ⟨valOf Try.underlying27, 1, 8, (.int .i64 0), false⟩
theorem ok27 : TyOk Try.prog 27 ti27 := tyOk_mk Try.underlying27 Try.type27 rfl rfl (by kernel_rfl) (fun h => no_eq h)
noncomputable def ti28 : TI := ⟨valOf Try.underlying28, 1, 0, .un, false⟩
theorem ok28 : TyOk Try.prog 28 ti28 := tyOk_mk Try.underlying28 Try.type28 rfl rfl (by kernel_rfl) (fun h => no_eq h)
noncomputable def ti29 : TI := ⟨valOf Try.underlying29, 1, 8, .nilf, false⟩
theorem ok29 : TyOk Try.prog 29 ti29 := tyOk_mk Try.underlying29 Try.type29 rfl rfl (by kernel_rfl) (fun h => no_eq h)
noncomputable def ti30 : TI := ⟨valOf Try.underlying30, 35, 48, (.st [.st [.bool false, .arr .u8 16 (List.replicate 16 0)], .st [.bool false, .arr .u8 16 (List.replicate 16 0)], .int .i64 0]), true⟩
theorem ok30 : TyOk Try.prog 30 ti30 := tyOk_mk Try.underlying30 Try.type30 rfl rfl (by kernel_rfl) (fun _ => ⟨by kernel_rfl, by kernel_rfl, by intro fs h; cases h; decide⟩)
noncomputable def ti31 : TI := ⟨valOf Try.underlying31, 35, 48, (.st [.st [.bool false, .arr .u8 16 (List.replicate 16 0)], .st [.bool false, .arr .u8 16 (List.replicate 16 0)], .int .i64 0]), true⟩
theorem ok31 : TyOk Try.prog 31 ti31 := tyOk_mk Try.underlying31 Try.type31 rfl rfl (by kernel_rfl) (fun _ => ⟨by kernel_rfl, by kernel_rfl, by intro fs h; cases h; decide⟩)
noncomputable def ti32 : TI := ⟨valOf Try.underlying32, 1, 0, .un, false⟩
theorem ok32 : TyOk Try.prog 32 ti32 := tyOk_mk Try.underlying32 Try.type32 rfl rfl (by kernel_rfl) (fun h => no_eq h)
noncomputable def ti33 : TI := ⟨valOf Try.underlying33, 1, 8, .nilf, false⟩
theorem ok33 : TyOk Try.prog 33 ti33 := tyOk_mk Try.underlying33 Try.type33 rfl rfl (by kernel_rfl) (fun h => no_eq h)
noncomputable def ti34 : TI := ⟨valOf Try.underlying34, 1, 8, .nilf, false⟩
theorem ok34 : TyOk Try.prog 34 ti34 := tyOk_mk Try.underlying34 Try.type34 rfl rfl (by kernel_rfl) (fun h => no_eq h)
noncomputable def ti35 : TI := ⟨valOf Try.underlying35, 1, 2, (.int .u16 0), false⟩
theorem ok35 : TyOk Try.prog 35 ti35 := tyOk_mk Try.underlying35 Try.type35 rfl rfl (by kernel_rfl) (fun h => no_eq h)
noncomputable def ti36 : TI := ⟨valOf Try.underlying36, 1, 8, .nilf, false⟩
theorem ok36 : TyOk Try.prog 36 ti36 := tyOk_mk Try.underlying36 Try.type36 rfl rfl (by kernel_rfl) (fun h => no_eq h)
noncomputable def ti37 : TI := ⟨valOf Try.underlying37, 1, 8, (.int .u64 0), false⟩
theorem ok37 : TyOk Try.prog 37 ti37 := tyOk_mk Try.underlying37 Try.type37 rfl rfl (by kernel_rfl) (fun h => no_eq h)
noncomputable def ti38 : TI := ⟨valOf Try.underlying38, 1, 8, .nilf, false⟩
theorem ok38 : TyOk Try.prog 38 ti38 := tyOk_mk Try.underlying38 Try.type38 rfl rfl (by kernel_rfl) (fun h => no_eq h)
noncomputable def ti39 : TI := ⟨valOf Try.underlying39, 35, 48, (.st [.st [.bool false, .arr .u8 16 (List.replicate 16 0)], .st [.bool false, .arr .u8 16 (List.replicate 16 0)], .int .i64 0]), true⟩
theorem ok39 : TyOk Try.prog 39 ti39 := tyOk_mk Try.underlying39 Try.type39 rfl rfl (by kernel_rfl) (fun _ => ⟨by kernel_rfl, by kernel_rfl, by intro fs h; cases h; decide⟩)
noncomputable def ti40 : TI := ⟨valOf Try.underlying40, 1, 0, .un, false⟩
theorem ok40 : TyOk Try.prog 40 ti40 := tyOk_mk Try.underlying40 Try.type40 rfl rfl (by kernel_rfl) (fun h => no_eq h)
noncomputable def ti41 : TI := ⟨valOf Try.underlying41, 1, 8, .nilf, false⟩
theorem ok41 : TyOk Try.prog 41 ti41 := tyOk_mk Try.underlying41 Try.type41 rfl rfl (by kernel_rfl) (fun h => no_eq h)
noncomputable def ti42 : TI := ⟨valOf Try.underlying42, 1, 8, .nilf, false⟩
theorem ok42 : TyOk Try.prog 42 ti42 := tyOk_mk Try.underlying42 Try.type42 rfl rfl (by kernel_rfl) (fun h => no_eq h)
noncomputable def ti43 : TI := ⟨valOf Try.underlying43, 1, 8, .nilf, false⟩
theorem ok43 : TyOk Try.prog 43 ti43 := tyOk_mk Try.underlying43 Try.type43 rfl rfl (by kernel_rfl) (fun h => no_eq h)
noncomputable def ti44 : TI := ⟨valOf Try.underlying44, 1, 8, .nilf, false⟩
theorem ok44 : TyOk Try.prog 44 ti44 := tyOk_mk Try.underlying44 Try.type44 rfl rfl (by kernel_rfl) (fun h => no_eq h)
noncomputable def ti45 : TI := ⟨valOf Try.underlying45, 1, 8, .nilf, false⟩
theorem ok45 : TyOk Try.prog 45 ti45 := tyOk_mk Try.underlying45 Try.type45 rfl rfl (by kernel_rfl) (fun h => no_eq h)
noncomputable def ti46 : TI := ⟨valOf Try.underlying46, 1, 8, .nilf, false⟩
theorem ok46 : TyOk Try.prog 46 ti46 := tyOk_mk Try.underlying46 Try.type46 rfl rfl (by kernel_rfl) (fun h => no_eq h)
noncomputable def ti47 : TI := ⟨valOf Try.underlying47, 1, 8, (.int .u64 0), false⟩
theorem ok47 : TyOk Try.prog 47 ti47 := tyOk_mk Try.underlying47 Try.type47 rfl rfl (by kernel_rfl) (fun h => no_eq h)
noncomputable def ti48 : TI := ⟨valOf Try.underlying48, 1, 8, .nilf, false⟩
theorem ok48 : TyOk Try.prog 48 ti48 := tyOk_mk Try.underlying48 Try.type48 rfl rfl (by kernel_rfl) (fun h => no_eq h)
noncomputable def ti49 : TI := ⟨valOf Try.underlying49, 1, 8, .nilf, false⟩
theorem ok49 : TyOk Try.prog 49 ti49 := tyOk_mk Try.underlying49 Try.type49 rfl rfl (by kernel_rfl) (fun h => no_eq h)
noncomputable def ti50 : TI := ⟨valOf Try.underlying50, 1, 0, .un, false⟩
theorem ok50 : TyOk Try.prog 50 ti50 := tyOk_mk Try.underlying50 Try.type50 rfl rfl (by kernel_rfl) (fun h => no_eq h)
noncomputable def ti51 : TI := ⟨valOf Try.underlying51, 1, 8, .nilf, false⟩
theorem ok51 : TyOk Try.prog 51 ti51 := tyOk_mk Try.underlying51 Try.type51 rfl rfl (by kernel_rfl) (fun h => no_eq h)
noncomputable def ti52 : TI := ⟨valOf Try.underlying52, 1, 8, .nilf, false⟩
theorem ok52 : TyOk Try.prog 52 ti52 := tyOk_mk Try.underlying52 Try.type52 rfl rfl (by kernel_rfl) (fun h => no_eq h)
noncomputable def ti53 : TI := ⟨valOf Try.underlying53, 1, 8, .nilf, false⟩
theorem ok53 : TyOk Try.prog 53 ti53 := tyOk_mk Try.underlying53 Try.type53 rfl rfl (by kernel_rfl) (fun h => no_eq h)
noncomputable def ti54 : TI := ⟨valOf Try.underlying54, 1, 8, .nilf, false⟩
theorem ok54 : TyOk Try.prog 54 ti54 := tyOk_mk Try.underlying54 Try.type54 rfl rfl (by kernel_rfl) (fun h => no_eq h)
noncomputable def ti55 : TI := ⟨valOf Try.underlying55, 4, 40, (.st [.nilp, .nilp, .nilp, .str ByteArray.empty]), false⟩
theorem ok55 : TyOk Try.prog 55 ti55 := tyOk_mk Try.underlying55 Try.type55 rfl rfl (by kernel_rfl) (fun h => no_eq h)
noncomputable def ti56 : TI := ⟨valOf Try.underlying56, 4, 40, (.st [.nilp, .nilp, .nilp, .str ByteArray.empty]), false⟩
theorem ok56 : TyOk Try.prog 56 ti56 := tyOk_mk Try.underlying56 Try.type56 rfl rfl (by kernel_rfl) (fun h => no_eq h)
noncomputable def ti57 : TI := ⟨valOf Try.underlying57, 0, 0, .un, false⟩
theorem ok57 : TyOk Try.prog 57 ti57 := tyOk_mk Try.underlying57 Try.type57 rfl rfl (by kernel_rfl) (fun h => no_eq h)
noncomputable def ti58 : TI := ⟨valOf Try.underlying58, 0, 0, .un, false⟩
theorem ok58 : TyOk Try.prog 58 ti58 := tyOk_mk Try.underlying58 Try.type58 rfl rfl (by kernel_rfl) (fun h => no_eq h)
noncomputable def ti59 : TI := ⟨valOf Try.underlying59, 0, 0, .un, false⟩
theorem ok59 : TyOk Try.prog 59 ti59 := tyOk_mk Try.underlying59 Try.type59 rfl rfl (by kernel_rfl) (fun h => no_eq h)
noncomputable def ti60 : TI := ⟨valOf Try.underlying60, 1, 8, .nilf, false⟩
theorem ok60 : TyOk Try.prog 60 ti60 := tyOk_mk Try.underlying60 Try.type60 rfl rfl (by kernel_rfl) (fun h => no_eq h)
noncomputable def ti61 : TI := ⟨valOf Try.underlying61, 1, 4, (.int .u32 0), false⟩
theorem ok61 : TyOk Try.prog 61 ti61 := tyOk_mk Try.underlying61 Try.type61 rfl rfl (by kernel_rfl) (fun h => no_eq h)
noncomputable def ti62 : TI := ⟨valOf Try.underlying62, 1, 1, (.int .u8 0), false⟩
theorem ok62 : TyOk Try.prog 62 ti62 := tyOk_mk Try.underlying62 Try.type62 rfl rfl (by kernel_rfl) (fun h => no_eq h)
noncomputable def ti63 : TI := ⟨valOf Try.underlying63, 1, 1, (.int .u8 0), false⟩
theorem ok63 : TyOk Try.prog 63 ti63 := tyOk_mk Try.underlying63 Try.type63 rfl rfl (by kernel_rfl) (fun h => no_eq h)
noncomputable def ti64 : TI := ⟨valOf Try.underlying64, 1, 8, .nilf, false⟩
theorem ok64 : TyOk Try.prog 64 ti64 := tyOk_mk Try.underlying64 Try.type64 rfl rfl (by kernel_rfl) (fun h => no_eq h)
noncomputable def ti65 : TI := ⟨valOf Try.underlying65, 1, 8, .nilp, false⟩
theorem ok65 : TyOk Try.prog 65 ti65 := tyOk_mk Try.underlying65 Try.type65 rfl rfl (by kernel_rfl) (fun h => no_eq h)
noncomputable def ti66 : TI := ⟨valOf Try.underlying66, 1, 4, (.int .i32 0), false⟩
theorem ok66 : TyOk Try.prog 66 ti66 := tyOk_mk Try.underlying66 Try.type66 rfl rfl (by kernel_rfl) (fun h => no_eq h)
noncomputable def ti67 : TI := ⟨valOf Try.underlying67, 1, 4, (.int .i32 0), false⟩
theorem ok67 : TyOk Try.prog 67 ti67 := tyOk_mk Try.underlying67 Try.type67 rfl rfl (by kernel_rfl) (fun h => no_eq h)
noncomputable def ti68 : TI := ⟨valOf Try.underlying68, 11, 48, (.st [.int .u64 0, .int .u64 0, .int .u32 0, .int .u8 0, .int .u8 0, .int .u8 0, .int .u8 0, .nilf, .nilp, .int .i32 0, .int .i32 0]), false⟩
theorem ok68 : TyOk Try.prog 68 ti68 := tyOk_mk Try.underlying68 Try.type68 rfl rfl (by kernel_rfl) (fun h => no_eq h)
noncomputable def ti69 : TI := ⟨valOf Try.underlying69, 11, 48, (.st [.int .u64 0, .int .u64 0, .int .u32 0, .int .u8 0, .int .u8 0, .int .u8 0, .int .u8 0, .nilf, .nilp, .int .i32 0, .int .i32 0]), false⟩
theorem ok69 : TyOk Try.prog 69 ti69 := tyOk_mk Try.underlying69 Try.type69 rfl rfl (by kernel_rfl) (fun h => no_eq h)
noncomputable def ti70 : TI := ⟨valOf Try.underlying70, 1, 8, .un, false⟩
theorem ok70 : TyOk Try.prog 70 ti70 := tyOk_mk Try.underlying70 Try.type70 rfl rfl (by kernel_rfl) (fun h => no_eq h)

noncomputable def tab : Tab := [(0, ti0), (1, ti1), (2, ti2), (3, ti3), (4, ti4), (5, ti5), (6, ti6), (7, ti7), (8, ti8), (9, ti9), (10, ti10), (11, ti11), (12, ti12), (13, ti13), (14, ti14), (15, ti15), (16, ti16), (17, ti17), (18, ti18), (19, ti19), (20, ti20), (21, ti21), (22, ti22), (23, ti23), (24, ti24), (25, ti25), (26, ti26), (27, ti27), (28, ti28), (29, ti29), (30, ti30), (31, ti31), (32, ti32), (33, ti33), (34, ti34), (35, ti35), (36, ti36), (37, ti37), (38, ti38), (39, ti39), (40, ti40), (41, ti41), (42, ti42), (43, ti43), (44, ti44), (45, ti45), (46, ti46), (47, ti47), (48, ti48), (49, ti49), (50, ti50), (51, ti51), (52, ti52), (53, ti53), (54, ti54), (55, ti55), (56, ti56), (57, ti57), (58, ti58), (59, ti59), (60, ti60), (61, ti61), (62, ti62), (63, ti63), (64, ti64), (65, ti65), (66, ti66), (67, ti67), (68, ti68), (69, ti69), (70, ti70)]
theorem tabOk : TabOk Try.prog tab := tab_cons ok0 (tab_cons ok1 (tab_cons ok2 (tab_cons ok3 (tab_cons ok4 (tab_cons ok5 (tab_cons ok6 (tab_cons ok7 (tab_cons ok8 (tab_cons ok9 (tab_cons ok10 (tab_cons ok11 (tab_cons ok12 (tab_cons ok13 (tab_cons ok14 (tab_cons ok15 (tab_cons ok16 (tab_cons ok17 (tab_cons ok18 (tab_cons ok19 (tab_cons ok20 (tab_cons ok21 (tab_cons ok22 (tab_cons ok23 (tab_cons ok24 (tab_cons ok25 (tab_cons ok26 (tab_cons ok27 (tab_cons ok28 (tab_cons ok29 (tab_cons ok30 (tab_cons ok31 (tab_cons ok32 (tab_cons ok33 (tab_cons ok34 (tab_cons ok35 (tab_cons ok36 (tab_cons ok37 (tab_cons ok38 (tab_cons ok39 (tab_cons ok40 (tab_cons ok41 (tab_cons ok42 (tab_cons ok43 (tab_cons ok44 (tab_cons ok45 (tab_cons ok46 (tab_cons ok47 (tab_cons ok48 (tab_cons ok49 (tab_cons ok50 (tab_cons ok51 (tab_cons ok52 (tab_cons ok53 (tab_cons ok54 (tab_cons ok55 (tab_cons ok56 (tab_cons ok57 (tab_cons ok58 (tab_cons ok59 (tab_cons ok60 (tab_cons ok61 (tab_cons ok62 (tab_cons ok63 (tab_cons ok64 (tab_cons ok65 (tab_cons ok66 (tab_cons ok67 (tab_cons ok68 (tab_cons ok69 (tab_cons ok70 (tab_nil)))))))))))))))))))))))))))))))))))))))))))))))))))))))))))))))))))))))
theorem mixed : Try.prog.follows .mixedOrders = true := by kernel_rfl
end Go.Proofs.Ytlkaehbeapmplaa.Ax
